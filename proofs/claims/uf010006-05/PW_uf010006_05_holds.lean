import PyProof.Rows.All
import PySem.SetTable
import PyProof.WalkLemmas
import PyProof.Raises
import PyProof.CollectWalk
import PyProof.DictIter
import PyProof.TupleKey
import PyProof.DictRoadsH
import PyProof.Rows.RowHeap
import PyProof.DictWalks
import PyProof.IsRules
import PyProof.EqKinds
import PyProof.P3Eq
import PyProof.ListNew
import PyProof.ListMulAny
import PyProof.Rows.DictLoopRows2
import PyProof.SetKind
import PyProof.Rows.SortRunsK
import PyProof.SetRoads
import PyProof.SetNew
import PyProof.Rows.SetFrom
import OpenK.KDescr
import OpenK.KCls
import Open.Line
import OpenK.KWalk
import OpenK.KMore
import Wide.FinOn
import Wide.All
import Lean
import PySem.Challenge.RW_uf010006_05
set_option Elab.async false
set_option linter.all false
set_option genSizeOf false
set_option tactic.hygienic false
set_option genSizeOfSpec false
set_option genInjectivity false
set_option maxRecDepth 100000
set_option linter.unusedVariables false
set_option maxHeartbeats 4000000
set_option maxHeartbeats 8000000
open PySem.Around (under_plainId)
open Array (all_toList any_toList forIn_toList getElem?_eq_none getElem?_toList length_toList perm_iff_toList_perm toList_append toList_extract toList_filterMap toList_inj toList_map toList_push toList_reverse)
open Bool (and_eq_true eq_false_iff false_eq_true not_eq_true' or_eq_true)
open Classical (byContradiction epsilon propDecidable)
open PySem.Heap (SameBut get?_push_of_some get?_push_size get?_update_other get?_update_self lt_size size_push)
open Int (add_nonneg le_natAbs le_trans mul_nonneg natCast_add natCast_mul natCast_nonneg ofNat ofNat_le ofNat_lt sub_nonneg_of_le toNat_le toNat_lt toNat_natCast toNat_of_nonneg)
open PyProof.Rows.KeyOrd (kle_antisymm kle_of_klt kle_refl kle_trans)
open List (Pairwise Perm all_eq_true any_cons any_eq_false any_eq_true append_assoc append_nil cons_append dropLast_concat drop_drop drop_nil drop_zero elem_iff extract_eq_take_drop filter filterMap_cons filter_cons_of_neg filter_cons_of_pos find?_cons flatMap_cons foldl foldl_cons forIn_cons forall_mem_singleton getD_eq_getElem?_getD getElem?_append_left getElem?_append_right getElem?_eq_getElem getElem?_inj getElem?_map getElem?_of_mem getElem_mem isEmpty_iff length length_append length_drop length_eq_zero_iff length_filter_le length_map length_nil length_range length_reverse length_singleton length_take length_take_le length_zipIdx lookup lookup_cons mapM_cons map_append map_congr_left map_cons map_eq_nil_iff map_id map_map mem_append mem_append_left mem_append_right mem_cons mem_filter mem_filterMap mem_flatMap mem_flatten mem_map mem_of_getElem? mem_of_mem_take mem_range mem_singleton nil_append nodup_append nodup_cons nodup_nil nodup_range not_mem_nil pairwise_iff_getElem pairwise_map pairwise_singleton perm_append_comm replicate reverse_cons set_set size_toArray sum_cons take_add take_add_one take_append_drop take_length take_nil take_sublist toArray zipIdx_cons)
open Nat (Coprime add_assoc add_comm add_le_add add_le_add_left add_le_add_right add_lt_add_left add_mod add_right_comm add_sub_cancel' add_sub_cancel_left add_zero le_add_left le_add_right le_add_right_of_le le_antisymm le_min le_of_lt le_of_lt_succ le_of_not_lt le_of_succ_le le_refl le_sub_one_of_lt le_succ le_zero lt_asymm lt_irrefl lt_of_le_of_lt lt_of_le_of_ne lt_of_lt_of_le lt_of_mul_lt_mul_right lt_of_succ_lt lt_or_ge lt_succ_of_le lt_succ_self lt_trans lt_trichotomy max_eq_right max_le min_eq_left min_le_left min_le_right mod_lt mul_comm mul_le_mul_left mul_two ne_of_gt ne_of_lt not_le not_lt not_lt_zero one_mul pow_succ sub_add_cancel sub_le sub_one_lt_of_lt sub_pos_of_lt sub_self sub_zero succ_add succ_le_succ succ_mul succ_ne_self succ_pos two_mul zero_add zero_le)
open PySem.Obj (data_mapFields mapSeq putSet)
open Option (bind_eq_some_iff bind_some getD_some isNone_iff_eq_none isSome isSome_iff_exists isSome_map map_eq_some_iff map_some)
open PySem.PyData (canLayAll0 depthAll eqvAll keyHash strOk)
open PySem.Str (ofString)
noncomputable section
namespace Mine
open PySem
abbrev GE:=Value->Shared->Prop
abbrev GM (prog:Program) (w:World) (A:Around) {α:Type} (t:Sem α):=wpAny (model prog w) A t
abbrev Id:=@eq_of_beq
abbrev IO:=@of_decide_eq_true
abbrev LE:=@Option.some.inj
abbrev LT:=@wpAny_mono
abbrev NJ:=@beq_self_eq_true
abbrev NK:=@Bool.false_ne_true
abbrev NL:=@decide_eq_true
abbrev NM:=@decide_eq_false
abbrev NN:=@wpAny_holding
abbrev NO:=@congrArg
abbrev NP:=@if_pos
abbrev NQ:=@if_neg
abbrev Q0:=@Nat.lt_of_le_of_lt
abbrev Q1:=@Nat.lt_of_lt_of_le
abbrev Q2:=@PySem.Heap.get?_push_size
abbrev Q3:=@Nat.le_add_right
abbrev Q4:=@PySem.Heap.get?_push_of_some
abbrev Q5:=@Array.getElem?_toList
abbrev Q6:=@List.all_eq_true
abbrev Q7:=@Nat.add_le_add_left
abbrev Q8:=@List.getElem?_eq_getElem
abbrev Q9:=@Nat.add_sub_cancel'
abbrev Qa:=@List.append_assoc
abbrev Qb:=@Nat.le_of_lt_succ
abbrev Qc:=@List.mem_append_left
def zA1 {α:Type _} {p:α->Prop} {a:α} {l:List α} (h:p a/\∀ x∈l,p x):∀ x∈a::l,p x:=List.forall_mem_cons.mpr h
def zA2 {a b:Bool} (h:(a&&b)=true):a=true/\b=true:=(and_eq_true _ _).mp h
def zA3 {a b:Bool} (h:a=true/\b=true):(a&&b)=true:=(and_eq_true _ _).mpr h
def zA4 {α:Type _} {β:Type _} {f:α->β} {l:List α}:(l.map f).length=l.length:=length_map _
def zA5 {α:Type _} {a b:α} {l m:List α} (h:a::l=b::m):a=b/\l=m:=List.cons.inj h
def zA6 {α:Type _} {a b:α} (h:a∈[b]):a=b:=mem_singleton.mp h
def zB1 {n m k:Nat} (a:n<=m) (b:m<=k):n<=k:=Nat.le_trans a b
def zB2 {n m:Nat} (a:n=m):n<=m:=Nat.le_of_eq a
def zB3 {α:Type _} {a:Array α}:a.toList.length=a.size:=length_toList
def zB4 {α:Type _} {a:α} {l:List α}:(a::l).length=l.length+1:=rfl
def zB5 {α:Type _} {l m:List α}:(l++m).length=l.length+m.length:=length_append
def zC1 {α:Type _} {β:Type _} {M:Model} {A:Around} {m:Sem α} {f:α->Sem β} {Q:β->Shared->Prop} {E:GE} {s:Shared} (h:wpAny M A m (fun a s'=>wpAny M A (f a) Q E s') E s):wpAny M A (m>>=f) Q E s:=wpAny_bind h
def zC2 {α:Type _} {M:Model} {A:Around} {a:α} {Q:α->Shared->Prop} {E:GE} {s:Shared} (h:Q a s):wpAny M A (pure a) Q E s:=wpAny_pure h
def zA7 {α:Type _} {β:Type _} {f:α->β} {b:β} {l:List α} (h:b∈l.map f):∃ a,a∈l/\f a=b:=mem_map.mp h
def nB {C:Prop} (h:false=true):C:=absurd h NK
def nM {α:Type} {x:α} {C:Prop} (h:x∈([]:List α)):C:=absurd h not_mem_nil
def nN {α:Type} {x:α} {C:Prop} (h:some x=none):C:=absurd h (Option.some_ne_none x)
def aV {G:Prop} (h:∀ P:Prop,(G->P)->P):G:=h G id
def bSt {β:Type} {pos:Pos} {f:Unit->Sem β} {Q:β->Shared->Prop} (h:wpAny M A (f ()) Q E s):wpAny M A (standAt pos >>= f) Q E s:=zC1 (wpAny_standAt h)
def bPu {α β:Type} {a:α} {f:α->Sem β} {Q:β->Shared->Prop} (h:wpAny M A (f a) Q E s):wpAny M A (pure a >>= f) Q E s:=zC1 (wpAny_pure h)
def bRu {β:Type} {f:Unit->Sem β} {Q:β->Shared->Prop} (h:wpAny M A (f ()) Q E s):wpAny M A (rule t >>= f) Q E s:=zC1 (wpAny_rule h)
def bFi {β:Type} {a:Addr} {o:Obj} {vs} {i:Nat} {x:Value} {f:Value->Sem β} {Q:β->Shared->Prop} (ho:s.heap.get? a=some o) (hd:o.data=.fields vs) (hi:vs[i]?=some x) (h:wpAny M A (f x) Q E s):wpAny M A (field (.ref a) i >>= f) Q E s:=zC1 (wpAny_field ho hd hi h)
def bI [Decidable c] (h:¬ c) (x:wpAny M A e Q E s):wpAny M A (if c then t else e) Q E s:=NQ h▸x
noncomputable abbrev V:=PyData
noncomputable abbrev Sc:=Int ⊕ Str
inductive Fld where
 | val (x:V)
 | L (l:List V)
 | D (l:List (V×V))
structure Ob where
 c:Nat
 fs:List Fld
inductive Slot where
 | unset
 | junk
 | v (x:V)
 | ownL (l:List V)
 | ownD (l:List (V×V))
 | ownI (o:Ob)
 | obj (o:Ob)
noncomputable abbrev Gs:=List Slot
abbrev GT:=Option V->Gs->Prop
set_option genCtorIdx false in
inductive Op where
 | lit (x:V)
 | var (k:Nat)
 | bin (o:Operator)
 | cmp (o:CmpOp)
 | chain
 | and | or | not | neg | ite
 | tuple | list | sub
 | slice (lo hi:Bool)
 | call (f:Nat)
 | meth (c f:Nat)
 | attr (c j:Nat)
 | isinst (t:Nat)
 | len | listOf | tupleOf | sorted | sortedSet | sortedP | lenSet
 | join
 | getD
 | peek | peekN
 | comp (k:Nat)
 | compM (ks:List Nat)
 | own (k:Nat)
 | range | zip
inductive E where
 | nd (o:Op) (es:List E)
set_option genCtorIdx false in
inductive SOp where
 | assign (k:Nat)
 | assignM (ks:List Nat)
 | ownL (k:Nat)
 | ownD (k:Nat)
 | append (k:Nat)
 | setD (k:Nat)
 | setAttr (k c j:Nat)
 | setAttrO (k c j:Nat) (f:Fld)
 | call (f:Nat)
 | ret
 | ite
 | forS (k:Nat)
 | forM (ks:List Nat)
 | while
 | freeze (k:Nat)
 | freezeD (k:Nat)
 | freezeO (k:Nat)
 | raise
 | mkO (k f:Nat)
 | oCall (k c f:Nat)
 | oPopM (k c j:Nat) (ks:List Nat)
 | oApp (k c j:Nat)
 | oSet (k c j:Nat)
 | oSetF (k c j f:Nat) (ms:List Bool)
 | popS (j k:Nat)
inductive S where
 | mk (o:SOp) (es:List E) (a b:List S)
section
variable {α:Type}
noncomputable def af:Nat:=2 ^ 20
def cq (l:List α) (z:β):Option β:=if l.length<=af then some z else none
noncomputable def text (l:List Nat):V:=.str ⟨l.toArray⟩
noncomputable def fj (v:V):Bool:=v.canLay0&&decide (v.depth<=64)
noncomputable def bY (x:V) (f:Bool->Option α):Option α:=match x with
 | .bool b=>f b
 | _=>none
noncomputable def pd (x:V) (f:Int->Option α):Option α:=match x with
 | .int i=>f i
 | _=>none
noncomputable def wU (x:V) (f:List Nat->Option α):Option α:=match x with
 | .str s=>f s.cps.toList
 | _=>none
noncomputable def gc (x:V) (f:List V->Option α):Option α:=match x with
 | .list l=>f l
 | _=>none
noncomputable def Ds (x:V) (f:List V->Option α):Option α:=match x with
 | .tuple l=>f l
 | _=>none
def pf (x y:V) (f:Int->Int->Option α):Option α:=pd x fun a=>pd y (f a)
end
def Fo (x y:V):Option V:=match x with
 | .int a=>pd y fun b=>some (.int (a+b))
 | .str a=>wU y fun b=>cq (a.cps.toList++b) (text (a.cps.toList++b))
 | .list a=>gc y fun b=>cq (a++b) (.list (a++b))
 | .tuple a=>Ds y fun b=>cq (a++b) (.tuple (a++b))
 | _=>none
def uL (o:Operator) (x y:V):Option V:=match o with
 | .Add=>Fo x y
 | .Sub=>pf x y fun a b=>some (.int (a - b))
 | .Mult=>pf x y fun a b=>if b.natAbs<=1000000\/a.natAbs<=1000000 then some (.int (a * b)) else none
 | .FloorDiv=>pf x y fun a b=>if b=0\/1000000 < b.natAbs then none else some (.int (a.fdiv b))
 | .Mod=>pf x y fun a b=>if b=0 then none else some (.int (a.fmod b))
 | _=>none
def eqO (a b:V):Option Bool:=if (fj a&&fj b)=true then some (PyData.eqv a b) else none
noncomputable def isNone:V->Bool
 | .none=>true
 | _=>false
noncomputable def aA (x:V):Bool:=match x with
 | .int _=>true
 | .str s=>strOk s
 | _=>false
def lvV (n:Nat):V->Bool:=Nat.rec (motive:=fun U=>V->Bool) aA (fun U ih x=>match x with | .none=>true | .tuple l=>l.all ih | x=>aA x) n
def aZ (x:V):Bool:=match x with
 | .tuple l=>l.all (lvV 3)
 | _=>false
def dkV (FP:List (V×V)):Bool:=FP.all fun p=>aZ p.1
noncomputable def bt (FP:List (V×V)) (y:V):Option V:=(FP.find? fun p=>PyData.eqv p.1 y).map (·.2)
noncomputable def cX (FP:List (V×V)) (y v:V):List (V×V):=if (FP.any fun p=>PyData.eqv p.1 y)=true then FP.map fun p=>if PyData.eqv p.1 y=true then (p.1,v) else p else FP++[(y,v)]
def inO (a b:V):Option Bool:=match b with
 | .str t=>wU a fun s=>match s with | [c]=>some (t.cps.toList.elem c) | _=>none
 | .list l=>if (fj a&&fj (.list l))=true then some (l.any fun x=>PyData.eqv x a) else none
 | .tuple l=>if (fj a&&fj (.tuple l))=true then some (l.any fun x=>PyData.eqv x a) else none
 | .dict l=>if (dkV l&&aZ a)=true then some (bt l a).isSome else none
 | _=>none
def aO (o:CmpOp) (x y:V):Option Bool:=match o with
 | .Eq=>eqO x y
 | .NotEq=>(eqO x y).map (!·)
 | .Lt=>pf x y fun a b=>some (decide (a < b))
 | .LtE=>pf x y fun a b=>some (decide (a<=b))
 | .Gt=>pf x y fun a b=>some (decide (b < a))
 | .GtE=>pf x y fun a b=>some (decide (b<=a))
 | .Is=>if isNone y=true then some (isNone x) else none
 | .IsNot=>if isNone y=true then some (!isNone x) else none
 | .In=>inO x y
 | .NotIn=>(inO x y).map (!·)
def bM (s:List Nat):List V:=s.map fun c=>text [c]
noncomputable def be (a b:Int):List V:=(List.range (b - a).toNat).map fun (i:Nat)=>.int (a+i)
noncomputable def rOk (i:Int):Bool:=Nat.ble i.natAbs 4611686018427387903
def m8 (a b:Int):Option V:=if rOk a=true/\rOk b=true then cq (be a b) (.list (be a b)) else none
def nz (l:List α) (f:α->V) (y:V):Option V:=pd y fun i=>if l.length<=af then (if 0<=i then l[i.toNat]? else if 0<=i+l.length then l[(i+l.length).toNat]? else none).map f else none
def g9 (x y:V):Option V:=match x with
 | .list l=>nz l id y
 | .tuple l=>nz l id y
 | .str s=>nz s.cps.toList (fun c=>text [c]) y
 | .dict FP=>if (dkV FP&&aZ y)=true then bt FP y else none
 | _=>none
def pz (d n:Nat) (y:Option V):Option Nat:=match y with
 | none=>some d
 | some x=>pd x fun i=>some (if 0<=i then min i.toNat n else (i+n).toNat)
def mM (f:List α->V) (l:List α) (lo hi:Option V):Option V:=
 if l.length<=af then (pz 0 l.length lo).bind fun i=>(pz l.length l.length hi).bind fun j=>if i<=j then some (f ((l.drop i).take (j - i))) else none else none
def dF (a:V) (lo hi:Option V):Option V:=match a with
 | .list l=>mM .list l lo hi
 | .tuple l=>mM .tuple l lo hi
 | .str s=>mM text s.cps.toList lo hi
 | _=>none
noncomputable def iG:List String:=["str", "tuple", "list", "int", "bool"]
noncomputable def isT (x:V) (t:Nat):Option Bool:=match x with
 | .none=>some false
 | .bool _=>some (t==4||t==3)
 | .int _=>some (t==3)
 | .str _=>some (t==0)
 | .list _=>some (t==2)
 | .tuple _=>some (t==1)
 | .dict _=>none
def y5 (x:V):Option (List V):=match x with
 | .list l=>cq l l
 | .tuple l=>cq l l
 | .str s=>cq s.cps.toList (bM s.cps.toList)
 | _=>none
def a9 (x:V):Option (List V):=match x with
 | .dict FP=>if dkV FP=true then cq FP (FP.map (·.1)) else none
 | x=>y5 x
def fT (l:List V):Option (List (List Nat)):=l.mapM fun x=>wU x some
def eE (l:List V):Option (List Int):=l.mapM fun x=>pd x some
noncomputable def hU (GC:List Nat):List (List Nat)->List Nat
 | []=>[]
 | [x]=>x
 | x :: r=>x++GC++hU GC r
def okK {α:Type} (o:Option α) (K:α->Prop):Prop:=match o with
 | some z=>K z
 | none=>False
noncomputable abbrev D:=Gs->(V->Prop)->Prop
noncomputable abbrev B:=Gs->(GT)->Prop
structure CallF where
 p:Nat->List V->(V->Prop)->Prop
 m:Nat->List V->(Ob->Prop)->Prop
 o:Nat->Ob->List V->(V->Ob->Prop)->Prop
noncomputable def getSlot (G:Gs) (k:Nat):Slot:=G.getD k .unset
def AA (G:Gs) (k:Nat):Option V:=match getSlot G k with
 | .v x=>some x
 | _=>none
def dJ (G:Gs) (k:Nat):Option (List V):=match getSlot G k with
 | .ownL l=>some l
 | _=>none
def iT (G:Gs) (k:Nat):Option (List (V×V)):=match getSlot G k with
 | .ownD l=>some l
 | _=>none
def km (G:Gs) (k:Nat):Option Ob:=match getSlot G k with
 | .ownI o=>some o
 | _=>none
def qp (G:Gs) (k:Nat):Option Ob:=match getSlot G k with
 | .obj o=>some o
 | _=>none
def c6 (G:Gs) (k c:Nat):Option Ob:=(qp G k).bind fun o=>if o.c=c then some o else none
def fZ (G:Gs) (k c:Nat):Option Ob:=(km G k).bind fun o=>if o.c=c then some o else none
noncomputable def uE (c:Nat) (l:List V):V:=.dict (l.map fun x=>(.int c,x))
noncomputable def Fld.v:Fld->V
 | .val x=>x
 | .L l=>.list l
 | .D l=>.dict l
noncomputable def Ob.v (o:Ob):V:=uE o.c (o.fs.map Fld.v)
noncomputable def Ob.sl (o:Ob):Slot:=match o.fs with
 | []=>.junk
 | _ :: _=>.v o.v
noncomputable def qC (o:Ob) (j:Nat):Option (List V):=match o.fs[j]? with
 | some (.L l)=>some l
 | _=>none
noncomputable def mE (o:Ob) (j:Nat):Option (List (V×V)):=match o.fs[j]? with
 | some (.D l)=>some l
 | _=>none
noncomputable def Ob.set (o:Ob) (j:Nat) (f:Fld):Ob:=⟨o.c,o.fs.set j f⟩
noncomputable def E9 (s:Slot):Slot:=match s with
 | .ownL l=>.v (.list l)
 | .ownD l=>.v (.dict l)
 | .ownI _=>.junk
 | .obj o=>o.sl
 | s=>s
def fv (G:Gs):Gs:=G.map E9
noncomputable def flN (n:Nat):V->Bool:=Nat.rec (motive:=fun U=>V->Bool) (fun x=>match x with | .tuple _=>false | .list _=>false | .dict _=>false | _=>true) (fun U ih x=>match x with | .tuple l=>l.all ih | .list _=>false | .dict _=>false | _=>true) n
def gi:V->Bool:=flN 4
def yi (x:V):Bool:=match x with
 | .list l=>l.all gi
 | _=>false
def bj (ds:List D) (G:Gs):(List V->Prop)->Prop:=
 List.rec (motive:=fun U=>(List V->Prop)->Prop) (fun f=>f []) (fun d U ih f=>d G fun x=>ih fun xs=>f (x :: xs)) ds
def gC (ds:List D) (G:Gs) (f:V->Prop):Prop:=match ds with
 | [d]=>d G f
 | _=>False
def cp (b:Bool) (ds:List D) (G:Gs):(Bool->Prop)->Prop:=
 List.rec (motive:=fun U=>(Bool->Prop)->Prop) (fun f=>f b) (fun d U ih f=>d G fun x=>okK (bY x some) fun c=>if c=b then ih f else f c) ds
def Di (ds:List D) (G:Gs) (K:V->Prop):Prop:=match ds with
 | [a,b,c]=>a G fun x=>b G fun y=>okK (aO .LtE x y) fun t=>if t=true then c G fun z=>okK (aO .Lt y z) fun u=>K (.bool u) else K (.bool false)
 | _=>False
noncomputable def jZ (k:Nat) (G:Gs) (x:V):Option Gs:=some (G.set k (.v x))
noncomputable def aJ (ks:List Nat) (G:Gs) (x:V):Option Gs:=match x with
 | .tuple xs=>if xs.length=ks.length then some ((ks.zip xs).foldl (fun G p=>G.set p.1 (.v p.2)) G) else none
 | _=>none
def FG (ds:List D) (G:Gs) (K:V->Prop):Prop:=match ds with
 | [c,a,b]=>c G fun x=>okK (bY x some) fun t=>if t=true then a G K else b G K
 | _=>False
def jk (e:D) (ts:List D) (b:Gs->V->Option Gs) (G:Gs) (xs:List V):(List V->Prop)->Prop:=
 List.rec (motive:=fun U=>(List V->Prop)->Prop) (fun f=>f [])
  (fun x U ih f=>okK (b G x) fun G'=>cp true ts G' fun c=>if c=true then e G' fun y=>ih fun ys=>f (y :: ys) else ih f) xs
def uK (b:Gs->V->Option Gs) (ds:List D) (G:Gs) (K:V->Prop):Prop:=match ds with
 | s :: e :: ts=>s G fun x=>okK (a9 x) fun xs=>jk e ts b G xs fun ys=>K (.list ys)
 | _=>False
noncomputable def one {α:Type} (xs:List V) (f:V->Option α):Option α:=match xs with
 | [x]=>f x
 | _=>none
noncomputable def two {α:Type} (xs:List V) (f:V->V->Option α):Option α:=match xs with
 | [x,y]=>f x y
 | _=>none
def B8 (lo hi:Bool) (xs:List V):Option V:=match xs,lo,hi with
 | [x],false,false=>dF x none none
 | [x,y],true,false=>dF x (some y) none
 | [x,y],false,true=>dF x none (some y)
 | [x,y,z],true,true=>dF x (some y) (some z)
 | _,_,_=>none
noncomputable def uN (l r:List V):List V:=List.zipWith (fun a b=>.tuple [a,b]) l r
def qo (x:V):Option (List V):=match x with
 | .list l=>cq l l
 | .tuple l=>cq l l
 | _=>none
noncomputable def kOf (x:V):Sc:=match x with
 | .int i=>.inl i
 | .str t=>.inr t
 | _=>.inl 0
def pQ (x:V):Bool:=match x with
 | .tuple (.str t :: l)=>(PyData.str t :: l).all aA
 | _=>false
def ql (x:V):Bool:=match x with
 | .tuple (y :: l)=>(aA y&&l.all aA)
 | _=>false
def aH (x:V):List Sc:=match x with
 | .tuple l=>l.map kOf
 | _=>[]
noncomputable def ltK:List Sc->List Sc->Bool
 | k :: ks,m :: ms=>if k=m then ltK ks ms else k.isLeft==m.isLeft
 | _,_=>true
noncomputable def dQ:Sc->Sc->Bool
 | .inl a,.inl b=>decide (a < b)
 | .inr x,.inr y=>decide (x.cps.toList < y.cps.toList)
 | .inl _,.inr _=>true
 | .inr _,.inl _=>false
noncomputable def aW:List Sc->List Sc->Bool
 | k :: ks,m :: ms=>if k=m then aW ks ms else dQ k m
 | [],_ :: _=>true
 | _,[]=>false
def lex_cc (k m:Sc) (ks ms:List Sc):aW (k :: ks) (m :: ms)=if k=m then aW ks ms else dQ k m:=rfl
def ltK_cc (k m:Sc) (ks ms:List Sc):ltK (k :: ks) (m :: ms)=if k=m then ltK ks ms else k.isLeft==m.isLeft:=rfl
def kr (r:List V):Prop:=r.Pairwise fun x y=>aW (aH y) (aH x)=false
def hO (n:Nat) (x:V):Bool:=match x with
 | .tuple [.tuple (y :: l),z]=>(y :: l).all aA&&(aA z&&(y :: l).length==n)
 | _=>false
def bQ (x:V):List Sc:=match x with
 | .tuple [.tuple l,z]=>l.map kOf++[kOf z]
 | _=>[]
def ir (r:List V):Prop:=r.Pairwise fun x y=>aW (bQ y) (bQ x)=false
open Classical in
def j2 (x:V):Option Nat:=match x with
 | .str s=>if s.cps.toList.Nodup/\s.cps.size < 4000 then some s.cps.size else none
 | .list l=>(eE l).bind fun is=>if is.Nodup/\is.length < 4000 then some is.length else none
 | _=>none
noncomputable def ikO (FP:List (V×V)):Option Nat:=match FP with
 | (.int c,_) :: _=>some c.toNat
 | _=>none
def nC (c:Nat) (x:V):Bool:=match x with
 | .dict FP=>ikO FP==some c
 | _=>false
def Ba (x:V):Option (List V):=match x with
 | .dict FP=>if dkV FP=true then cq FP (FP.map (·.1)) else none
 | x=>qo x
def opN (o:Op) (xs:List V):Option V:=match o with
 | .bin o=>two xs (uL o)
 | .neg=>one xs fun x=>pd x fun i=>some (.int (-i))
 | .tuple=>cq xs (.tuple xs)
 | .list=>cq xs (.list xs)
 | .sub=>two xs g9
 | .slice lo hi=>B8 lo hi xs
 | .attr c j=>one xs fun x=>match x with | .dict FP=>if ikO FP=some c then (FP[j]?).map (·.2) else none | _=>none
 | .isinst t=>one xs fun x=>(isT x t).map .bool
 | .len=>one xs fun x=>(a9 x).map fun l=>.int l.length
 | .listOf=>one xs fun x=>(Ba x).map .list
 | .tupleOf=>one xs fun x=>gc x fun l=>cq l (.tuple l)
 | .lenSet=>one xs fun x=>(j2 x).map fun (n:Nat)=>PyData.int n
 | .join=>two xs fun x y=>wU x fun GC=>gc y fun l=>(fT l).bind fun ss=>if (ss.map length).sum+ss.length * GC.length<=af then some (text (hU GC ss)) else none
 | .getD=>match xs with
  | [.dict FP,y,z]=>if (dkV FP&&aZ y)=true then some ((bt FP y).getD z) else none
  | _=>none
 | .range=>match xs with
  | [x]=>pd x fun b=>m8 0 b
  | [x,y]=>pf x y m8
  | _=>none
 | .zip=>two xs fun x y=>Ds x fun l=>gc y fun r=>if l.length=r.length then some (.list (uN l r)) else none
 | _=>none
noncomputable def isStr (x:V):Bool:=match x with
 | .str _=>true
 | _=>false
def Fy (ok:V->Bool) (ds:List D) (G:Gs) (f:V->V->Prop):Prop:=match ds with
 | [a,b]=>a G fun x=>ok x=true/\b G fun y=>f x y
 | _=>False
def A1 (ok:V->Bool) (ds:List D) (G:Gs) (f:V->List V->Prop):Prop:=match ds with
 | a :: r=>a G fun x=>ok x=true/\bj r G fun xs=>f x xs
 | _=>False
def rd (x:V):Bool:=match x with
 | .dict FP=>dkV FP
 | _=>false
def uB (x:V):Option (List V):=match x with
 | .list l=>some l
 | .dict FP=>if dkV FP=true then some (FP.map (·.1)) else none
 | _=>none
def bx (cf:CallF) (o:Op) (ds:List D) (G:Gs) (K:V->Prop):Prop:=match o with
 | .lit x=>K x
 | .var k=>okK (AA G k) K
 | .cmp o=>bj ds G fun xs=>okK (two xs (aO o)) fun b=>K (.bool b)
 | .not=>gC ds G fun x=>okK (bY x some) fun b=>K (.bool (!b))
 | .chain=>Di ds G K
 | .and=>cp true ds G fun b=>K (.bool b)
 | .or=>cp false ds G fun b=>K (.bool b)
 | .call f=>bj ds G fun xs=>cf.p f xs K
 | .meth c f=>A1 (nC c) ds G fun x xs=>cf.p f (x :: xs) K
 | .getD=>A1 rd ds G fun x xs=>okK (opN .getD (x :: xs)) K
 | .ite=>FG ds G K
 | .own k=>okK (dJ G k) fun l=>K (.list l)
 | .sorted=>gC ds G fun x=>okK (gc x eE) fun is=>is.length < 64/\∀ r:List Int,r.Perm is->r.Pairwise (·<=·)->K (.list (r.map .int))
 | .sortedSet=>gC ds G fun x=>okK (gc x some) fun l=>(l.all pQ&&decide (l.length<=af))=true/\(∀ x∈l,∀ y∈l,ltK (aH x) (aH y)=true)/\(∃ m:List V,m.length < 4500/\∀ x∈l,x∈m)/\∀ r:List V,r.Nodup->(∀ y,y∈r ↔ y∈l)->(l.length < 64->kr r)->K (.list r)
 | .sortedP=>gC ds G fun x=>okK (uB x) fun l=>l.length < 64/\(∃ n,l.all (hO n)=true)/\(∀ x∈l,∀ y∈l,ltK (bQ x) (bQ y)=true)/\∀ r:List V,r.Perm l->ir r->K (.list r)
 | .peek=>gC ds (fv G) fun y=>gi y=true/\K y
 | .peekN=>gC ds (fv G) fun y=>yi y=true/\K y
 | .comp k=>uK (jZ k) ds G K
 | .compM ks=>uK (aJ ks) ds G K
 | .join=>Fy isStr ds G fun x y=>okK (opN .join [x,y]) K
 | o=>bj ds G fun xs=>okK (opN o xs) K
noncomputable def ev (cf:CallF) (e:E):D:=
 E.rec (motive_1:=fun U=>D) (motive_2:=fun U=>List D) (fun o U ih=>bx cf o ih) [] (fun U U i is=>i :: is) e
noncomputable def jc (b:Gs->V->Option Gs) (A:B) (xs:List V):B:=
 List.rec (motive:=fun U=>B) (fun G K=>K none G)
  (fun x U ih G K=>okK (b G x) fun G'=>A G' fun fl Hb=>match fl with | none=>ih Hb K | some y=>K (some y) Hb) xs
def wL (T:D) (X:B) (G:Gs) (K:GT):Prop:=∃ P:Nat->Gs->Prop,(∃ n,P n G)/\∀ n G,P n G->T G fun x=>okK (bY x some) fun t=>if t=true then X G fun fl G'=>(match fl with | none=>∃ m,m < n/\P m G' | some y=>K (some y) G') else K none G
def BW (ds:List D) (X:B) (G:Gs) (K:GT):Prop:=match ds with
 | [d]=>wL d X G K
 | _=>False
def sB (cf:CallF) (k c f:Nat) (d:D) (G:Gs) (K:V->Gs->Prop):Prop:=okK (c6 G k c) fun o=>d G fun x=>cf.o f o [x] fun y o'=>K y (G.set k (.obj o'))
def cy (cf:CallF) (k c f:Nat) (ds:List D):List Bool->Gs->(List V->Gs->Prop)->Prop:=
 List.rec (motive:=fun U=>List Bool->Gs->(List V->Gs->Prop)->Prop) (fun ms G K=>match ms with | []=>K [] G | _ :: _=>False)
  (fun d U ih ms G K=>match ms with
   | []=>False
   | true :: ms=>sB cf k c f d G fun y G'=>ih ms G' fun ys Hb=>K (y :: ys) Hb
   | false :: ms=>d G fun x=>ih ms G fun ys Hb=>K (x :: ys) Hb) ds
def x1 (cf:CallF) (k c j f:Nat) (ms:List Bool) (ds:List D) (G:Gs) (K:GT):Prop:=match ds with
 | d :: ds=>sB cf k c f d G fun v G1=>okK (c6 G1 k c) fun o1=>okK (mE o1 j) fun U=>cy cf k c f ds ms G1 fun ys G2=>ys.length<=af/\aZ (.tuple ys)=true/\okK (c6 G2 k c) fun o2=>okK (mE o2 j) fun l=>l.length < af/\K none (G2.set k (.obj (o2.set j (.D (cX l (.tuple ys) v)))))
 | _=>False
def DR (j k:Nat) (ds:List D) (G:Gs) (K:GT):Prop:=match ds with
 | [d,a,b,c]=>d G fun D=>a G fun x=>b G fun y=>okK (dJ G k) fun l=>l.length<=af/\okK l.getLast? fun z=>c (G.set k (.ownL l.dropLast)) fun w=>[x,y,z,w].length<=af/\okK (g9 D (.tuple [x,y,z,w])) fun r=>K none ((G.set k (.ownL l.dropLast)).set j (.v r))
 | _=>False
def dC (cf:CallF) (o:SOp) (ds:List D) (X Y:B) (G:Gs) (K:GT):Prop:=match o with
 | .assign k=>gC ds G fun x=>K none (G.set k (.v x))
 | .assignM ks=>gC ds G fun x=>okK (aJ ks G x) (K none)
 | .ownL k=>bj ds G fun xs=>xs.length<=af/\K none (G.set k (.ownL xs))
 | .ownD k=>K none (G.set k (.ownD []))
 | .append k=>okK (dJ G k) fun l=>gC ds G fun x=>l.length < af/\K none (G.set k (.ownL (l++[x])))
 | .setD k=>okK (iT G k) fun l=>bj ds G fun xs=>okK (two xs fun v x=>if (aZ x&&decide (l.length < af))=true then some (cX l x v) else none) fun l'=>K none (G.set k (.ownD l'))
 | .setAttr k c j=>gC ds G fun x=>okK (fZ G k c) fun o=>o.fs.length=j/\K none (G.set k (.ownI ⟨o.c,o.fs++[.val x]⟩))
 | .setAttrO k c j f=>okK (fZ G k c) fun o=>o.fs.length=j/\K none (G.set k (.ownI ⟨o.c,o.fs++[f]⟩))
 | .call f=>bj ds G fun xs=>cf.p f xs fun y=>isNone y=true/\K none G
 | .ret=>gC ds G fun x=>K (some x) G
 | .ite=>gC ds G fun x=>okK (bY x some) fun t=>if t=true then X G K else Y G K
 | .forS k=>gC ds G fun x=>okK (a9 x) fun xs=>jc (jZ k) X xs G K
 | .forM ks=>gC ds G fun x=>okK (a9 x) fun xs=>jc (aJ ks) X xs G K
 | .while=>BW ds X G K
 | .freeze k=>okK (dJ G k) fun l=>K none (G.set k (.v (.list l)))
 | .freezeD k=>okK (iT G k) fun l=>K none (G.set k (.v (.dict l)))
 | .freezeO k=>okK (qp G k) fun o=>K none (G.set k o.sl)
 | .raise=>False
 | .mkO k f=>getSlot G k=.unset/\bj ds G fun xs=>cf.m f xs fun o=>K none (G.set k (.obj o))
 | .oCall k c f=>okK (c6 G k c) fun o=>bj ds G fun xs=>cf.o f o xs fun U o'=>K none (G.set k (.obj o'))
 | .oPopM k c j ks=>okK (c6 G k c) fun o=>okK (qC o j) fun l=>l.length<=af/\okK l.getLast? fun y=>okK (aJ ks (G.set k (.obj (o.set j (.L l.dropLast)))) y) (K none)
 | .oApp k c j=>okK (c6 G k c) fun o=>okK (qC o j) fun l=>gC ds G fun x=>l.length < af/\K none (G.set k (.obj (o.set j (.L (l++[x])))))
 | .oSet k c j=>okK (c6 G k c) fun o=>okK (mE o j) fun l=>bj ds G fun xs=>okK (two xs fun v x=>if (aZ x&&decide (l.length < af))=true then some (cX l x v) else none) fun l'=>K none (G.set k (.obj (o.set j (.D l'))))
 | .oSetF k c j f ms=>x1 cf k c j f ms ds G K
 | .popS j k=>DR j k ds G K
def ex (cf:CallF) (s:S):B:=
 S.rec (motive_1:=fun U=>B) (motive_2:=fun U=>B) (fun o es U U x y=>dC cf o (es.map (ev cf)) x y) (fun G K=>K none G)
  (fun U U i is G K=>i G fun fl G'=>match fl with | none=>is G' K | some x=>K (some x) G') s
def exs (cf:CallF) (l:List S):B:=
 List.rec (motive:=fun U=>B) (fun G K=>K none G) (fun s U is G K=>ex cf s G fun fl G'=>match fl with | none=>is G' K | some x=>K (some x) G') l
inductive Fk where
 | fn | cls (c n:Nat) | ocls (c:Nat) | met
structure Fn where
 npar:Nat
 nslots:Nat
 kind:Fk
 body:List S
structure Prog where
 fns:List Fn
noncomputable def fr0 (fn:Fn) (hd:List Slot) (args:List V):Gs:=hd++args.map .v++replicate (fn.nslots - fn.npar) .unset
def BG (P:Prog) (cf:CallF) (f:Nat) (args:List V) (K:V->Prop):Prop:=okK (P.fns[f]?) fun fn=>match fn.kind with
 | .fn=>args.length=fn.npar/\exs cf fn.body (fr0 fn [] args) fun fl U=>K (fl.getD .none)
 | .cls c n=>args.length+1=fn.npar/\exs cf fn.body (fr0 fn [.ownI ⟨c,[]⟩] args) fun fl G=>fl=none/\okK (km G 0) fun o=>o.c=c/\∃ l:List V,o.fs=l.map .val/\l.length=n/\K (uE c l)
 | _=>False
def BI (P:Prog) (cf:CallF) (f:Nat) (args:List V) (K:Ob->Prop):Prop:=okK (P.fns[f]?) fun fn=>match fn.kind with
 | .ocls c=>args.length+1=fn.npar/\exs cf fn.body (fr0 fn [.ownI ⟨c,[]⟩] args) fun fl G=>fl=none/\okK (km G 0) fun o=>o.c=c/\K o
 | _=>False
def BH (P:Prog) (cf:CallF) (f:Nat) (o:Ob) (args:List V) (K:V->Ob->Prop):Prop:=okK (P.fns[f]?) fun fn=>match fn.kind with
 | .met=>args.length+1=fn.npar/\exs cf fn.body (fr0 fn [.obj o] args) fun fl G=>okK (qp G 0) fun o'=>K (fl.getD .none) o'
 | _=>False
noncomputable def AM (P:Prog) (cf:CallF):CallF:=⟨BG P cf,BI P cf,BH P cf⟩
def aj (P:Prog) (d:Nat):CallF:=
 Nat.rec (motive:=fun U=>CallF) ⟨fun U U U=>False,fun U U U=>False,fun U U U U=>False⟩ (fun U cf=>AM P cf) d
end Mine
end
noncomputable section
namespace Mine
open PySem PySem.Calls PyProof.Rows PySem.W
noncomputable def q8 (a:List Nat):List Nat->Bool:=List.rec (motive:=fun U=>List Nat->Bool) (fun b=>match b with | []=>true | _=>false) (fun x U ih b=>match b with | []=>false | y :: r=>Nat.beq x y&&ih r) a
theorem listEq_iff:∀ a b:List Nat,q8 a b=true ↔ a=b
 | [],[]=>⟨fun U=>rfl,fun U=>rfl⟩
 | [],_ :: _=>⟨fun h=>(nomatch h),fun h=>(nomatch h)⟩
 | _ :: _,[]=>⟨fun h=>(nomatch h),fun h=>(nomatch h)⟩
 | x :: a,y :: b=>by
  refine (?_:(Nat.beq x y&&q8 a b)=true ↔ _);rw [and_eq_true,listEq_iff a b,Nat.beq_eq,List.cons.injEq]
set_option warn.classDefReducibility false in
def mG:BEq Str:=⟨fun a b=>q8 a.cps.toList b.cps.toList⟩
def sX:mG=instBEqOfDecidableEq:=NO BEq.mk (funext fun a=>funext fun b=>by
 rw [Bool.eq_iff_iff,listEq_iff,decide_eq_true_iff];exact ⟨fun h=>by cases a; cases b; exact NO Str.mk (toList_inj.mp h),fun h=>by rw [h]⟩)
noncomputable def qY [BEq Str]:List Str->Bool
 | []=>true
 | x :: r=>!r.elem x&&qY r
theorem oW:∀ {l:List Str},qY l=true->l.Nodup
 | [],_=>nodup_nil
 | x :: r,h=>by
  have h:=zA2 h;exact nodup_cons.mpr ⟨fun m=>by rw [elem_iff.mpr m] at h; exact (nB h.1),oW h.2⟩
noncomputable def aP [BEq Str] (x:Str):Bool:=!(x==("__debug__" : Str))&&!(x==("__classdict__" : Str))
noncomputable def bD:List (Str×Value):=[("len",.builtin "len"),("isinstance",.builtin "isinstance"),("str",.type "str"),("int",.type "int"),("bool",.type "bool"),("list",.type "list"),("tuple",.type "tuple"),
 ("set",.type "set"),("range",.type "range"),("zip",.type "zip"),("sorted",.builtin "sorted")]
noncomputable def bw (e:Expr):Bool:=e.ctorIdx != 7
noncomputable def aq (e:Expr):Bool:=e.ctorIdx != 22
def bW [BEq Str] (sc:List (Str×NameKind)) (x:Str):Bool:=(sc.lookup x==some .globalImplicit)&&aP x
noncomputable def th (c:Const) (x:V):Bool:=match x with
 | .none=>c==.none
 | .bool b=>c==.bool b
 | .int i=>c==.int i
 | .str t=>c==.str t
 | _=>false
noncomputable def b8 (e:Expr):Bool:=!(Nat.ble 8 e.ctorIdx&&Nat.ble e.ctorIdx 10)
def q6 (e:Expr):Bool:=b8 e&&e.ctorIdx != 25
noncomputable def hM [BEq Str] (sc names:List (Str×NameKind)):List (Str×NameKind):=names.map fun (n,k)=>if k==.free&&sc.lookup n==some .cell then (n,.cell) else (n,k)
structure Sx where
 sc:List (Str×NameKind)
 ρ:List (Str×Nat)
 nf:Nat
 ns:Nat
 nw:Bool
set_option genCtorIdx false in
inductive Pz where
 | val
 | test
 | new
 | src (st:Bool) (T:Expr)
 | asg (y:Str) (py sp:Pos)
noncomputable abbrev Kid:=Sx×Pz×Expr
structure Zx where
 fns:List (Str×Nat)
 cons:List (Str×V)
 flds:List (List Str)
 meths:List (Nat×Str×Nat)
 newf:Nat->Bool
def cn (xs:List Expr):Bool:=xs.all aq
noncomputable def bA (x:Expr):Option (Str×Pos):=if h:x.ctorIdx=23 then some (Expr.Name.elim (motive_1:=fun U=>Str×Pos) x h fun n p=>(n,p)) else none
noncomputable def lQ (x:Expr):Option (List Expr×Nat×Pos):=if h:x.ctorIdx=25 then some (Expr.Tuple.elim (motive_1:=fun U=>List Expr×Nat×Pos) x h fun xs k p=>(xs,k,p)) else none
noncomputable def wQ (x:Expr):Option (List Expr×Pos):=if h:x.ctorIdx=24 then some (Expr.List.elim (motive_1:=fun U=>List Expr×Pos) x h fun xs p=>(xs,p)) else none
noncomputable def pS (x:Expr):Option (Expr×Expr×Pos):=if h:x.ctorIdx=21 then some (Expr.Subscript.elim (motive_1:=fun U=>Expr×Expr×Pos) x h fun v s p=>(v,s,p)) else none
noncomputable def AB (x:Expr):Option (Option Expr×Option Expr×Option Expr×Pos):=if h:x.ctorIdx=26 then some (Expr.Slice.elim (motive_1:=fun U=>Option Expr×Option Expr×Option Expr×Pos) x h fun l u st p=>(l,u,st,p)) else none
noncomputable def kh (x:Expr):Option (Expr×List Expr×List Keyword×Pos):=if h:x.ctorIdx=16 then some (Expr.Call.elim (motive_1:=fun U=>Expr×List Expr×List Keyword×Pos) x h fun u xs ks p=>(u,xs,ks,p)) else none
def bR (e:Expr):Bool:=e.ctorIdx==19||e.ctorIdx==20||e.ctorIdx==23||(kh e).any fun c=>!c.2.1.isEmpty
noncomputable def iE (x:Expr):Option (Expr×Str×Pos):=if h:x.ctorIdx=20 then some (Expr.Attribute.elim (motive_1:=fun U=>Expr×Str×Pos) x h fun o n q=>(o,n,q)) else none
noncomputable def uA (x:Expr):Option (List (Option Expr)×List Expr×Pos):=if h:x.ctorIdx=6 then some (Expr.Dict.elim (motive_1:=fun U=>List (Option Expr)×List Expr×Pos) x h fun ks vs p=>(ks,vs,p)) else none
noncomputable def iw {α:Type}:List α->Option α
 | [y]=>some y
 | _=>none
noncomputable def two? {α:Type}:List α->Option (α×α)
 | [y,z]=>some (y,z)
 | _=>none
def A5 (x y:V):Bool:=lvV 1 x&&(lvV 1 y&&PyData.eqv x y)
noncomputable def mY (x:Expr):Option (Const×Nat×Pos):=if h:x.ctorIdx=19 then some (Expr.Constant.elim (motive_1:=fun U=>Const×Nat×Pos) x h fun c k p=>(c,k,p)) else none
noncomputable def AF (x:Expr):Option (Expr×Operator×Expr×Pos):=if h:x.ctorIdx=2 then some (Expr.BinOp.elim (motive_1:=fun U=>Expr×Operator×Expr×Pos) x h fun l o r p=>(l,o,r,p)) else none
noncomputable def yQ (x:Expr):Option (Expr×List CmpOp×List Expr×Pos):=if h:x.ctorIdx=15 then some (Expr.Compare.elim (motive_1:=fun U=>Expr×List CmpOp×List Expr×Pos) x h fun l o r p=>(l,o,r,p)) else none
noncomputable def pW (x:Expr):Option (BoolOp×List Expr×Pos):=if h:x.ctorIdx=0 then some (Expr.BoolOp.elim (motive_1:=fun U=>BoolOp×List Expr×Pos) x h fun o xs p=>(o,xs,p)) else none
noncomputable def vUn (x:Expr):Option (UnaryOp×Expr×Pos):=if h:x.ctorIdx=3 then some (Expr.UnaryOp.elim (motive_1:=fun U=>UnaryOp×Expr×Pos) x h fun o y p=>(o,y,p)) else none
noncomputable def vIf (x:Expr):Option (Expr×Expr×Expr×Pos):=if h:x.ctorIdx=5 then some (Expr.IfExp.elim (motive_1:=fun U=>Expr×Expr×Expr×Pos) x h fun c a b p=>(c,a,b,p)) else none
noncomputable def pU (x:Expr):Option (Expr×List Comprehension×Scope×Pos):=if h:x.ctorIdx=8 then some (Expr.ListComp.elim (motive_1:=fun U=>Expr×List Comprehension×Scope×Pos) x h fun y gs sc p=>(y,gs,sc,p)) else none
@[irreducible] def nCall [BEq Str] (X:Sx) (nm:Str) (x:Expr) (f:List Expr->Bool):Bool:=(kh x).any fun c=>(bA c.1).any fun n=>n.1==nm&&(bW X.sc nm&&(c.2.2.1.isEmpty&&f c.2.1))
def dj [BEq Str] (X:Sx) (nm:Str) (x:Expr) (f:Expr->Bool):Bool:=nCall X nm x fun xs=>(iw xs).any f
@[irreducible] def mCall (x:Expr) (f:Expr->Str->List Expr->Bool):Bool:=(kh x).any fun c=>(iE c.1).any fun a=>c.2.2.1.isEmpty&&(a.2.2.endLine==c.2.2.2.line&&f a.1 a.2.1 c.2.1)
def xp [BEq Str] (X:Sx) (k:List Kid->Bool) (nm:Str) (x:Expr):Bool:=mCall x fun y n xs=>n==nm&&(bR y&&(iw xs).any fun e=>aq e&&k [(X,.val,y),(X,.val,e)])
noncomputable def jl [BEq Str] (X:Sx) (scope:Scope) (x x':Str):Bool:=scope.kind==.function&&(scope.names.lookup x==some .local&&(scope.names.lookup x'==some .local&&(scope.names.all (fun p=>p.2 != .cell)&&(scope.names.all (fun p=>p.2 != .local||scope.names.lookup p.1==some .local)&&(scope.names.all (fun p=>p.2 != .free||((X.sc.lookup p.1==some .cell||X.sc.lookup p.1==some .free)&&(X.ρ.lookup p.1).isSome))&&decide (X.nf+2<=X.ns))))))
noncomputable def Sx.comp [BEq Str] (X:Sx) (scope:Scope) (x x':Str):Sx:=⟨hM X.sc scope.names,(x,X.nf) :: (x',X.nf+1) :: X.ρ.filter (fun p=>scope.names.lookup p.1==some .free),X.nf+2,X.ns,X.nw⟩
@[irreducible] def cCall [BEq Str] (Z:Zx) (X:Sx) (f:Nat) (x:Expr) (k:List Expr->Bool):Bool:=(kh x).any fun c=>(bA c.1).any fun n=>Z.fns.lookup n.1==some f&&(bW X.sc n.1&&(c.2.2.1.isEmpty&&k c.2.1))
noncomputable def Bi:Pz->Bool
 | .val=>true
 | _=>false
noncomputable def isComp (o:Op):Bool:=match o with
 | .comp _=>true
 | .compM _=>true
 | _=>false
def DG (xs:List Expr):Bool:=cn xs&&decide (xs.length < 30)
noncomputable def qt [BEq Str] (Z:Zx) (c f:Nat) (nm:Str):Bool:=Z.meths.any fun m=>m.1==c&&(m.2.1==nm&&m.2.2==f)
noncomputable def qD [BEq Str] (Z:Zx) (c j:Nat) (nm:Str):Bool:=(Z.flds[c]?).any fun l=>l[j]?==some nm
def nt [BEq Str] (X:Sx) (i:Nat) (y:Expr):Bool:=(bA y).any fun m=>X.ρ.lookup m.1==some i&&aP m.1
def qP [BEq Str] (Z:Zx) (X:Sx) (i c j:Nat) (y:Expr):Bool:=(iE y).any fun q=>qD Z c j q.2.1&&nt X i q.1
def ri (x:Expr):Bool:=(uA x).any fun q=>q.1.isEmpty&&q.2.1.isEmpty
def xL (x:Expr):Bool:=(wQ x).any fun q=>q.1.isEmpty
section
variable [BEq Str] (Z:Zx) (o:Op) (k:List Kid->Bool) (X:Sx)
def mO (p:Pz) (x:Expr):Bool:=match o with
 | .lit v=>(mY x).any (fun q=>th q.1 v&&k [])||(bA x).any fun m=>bW X.sc m.1&&((Z.cons.lookup m.1).any (A5 v)&&k [])
 | .var j=>(bA x).any fun m=>X.ρ.lookup m.1==some j&&(aP m.1&&k [])
 | .bin op=>(AF x).any fun q=>decide (op=q.2.1)&&k [(X,.val,q.1),(X,.val,q.2.2.1)]
 | .cmp c=>(yQ x).any fun q=>(iw q.2.1).any fun c'=>decide (c=c')&&(iw q.2.2.1).any fun r=>bw r&&k [(X,.val,q.1),(X,.val,r)]
 | .chain=>(yQ x).any fun q=>(two? q.2.1).any fun c=>decide (.LtE=c.1)&&(decide (.Lt=c.2)&&(two? q.2.2.1).any fun r=>bw r.2&&k [(X,.val,q.1),(X,.val,r.1),(X,.val,r.2)])
 | .and=>(pW x).any fun q=>decide (.And=q.1)&&(!q.2.1.isEmpty&&k (q.2.1.map fun x=>(X,p,x)))
 | .or=>(pW x).any fun q=>decide (.Or=q.1)&&(!q.2.1.isEmpty&&k (q.2.1.map fun x=>(X,p,x)))
 | .not=>(vUn x).any fun q=>decide (.Not=q.1)&&k [(X,p,q.2.1)]
 | .neg=>(vUn x).any fun q=>decide (.USub=q.1)&&k [(X,.val,q.2.1)]
 | .ite=>(vIf x).any fun q=>Bi p&&k [(X,.test,q.1),(X,.val,q.2.1),(X,.val,q.2.2.1)]
 | .tuple=>(lQ x).any fun q=>cn q.1&&k (q.1.map fun x=>(X,.val,x))
 | .list=>(wQ x).any fun q=>cn q.1&&k (q.1.map fun x=>(X,.val,x))
 | .sub=>(pS x).any fun q=>k [(X,.val,q.1),(X,.val,q.2.1)]
 | .slice bl bh=>(pS x).any fun v=>(AB v.2.1).any fun q=>q.2.2.1.isNone&&(q.1.isSome==bl&&(q.2.1.isSome==bh&&k ((X,.val,v.1) :: (q.1.toList++q.2.1.toList).map fun x=>(X,.val,x))))
 | .attr c j=>(iE x).any fun q=>bR q.1&&(qD Z c j q.2.1&&k [(X,.val,q.1)])
 | .comp j=>(pU x).any fun q=>(iw q.2.1).any fun c=>c.is_async==0&&(bA c.target).any fun n=>jl X q.2.2.1 n.1 n.1&&(j==X.nf&&(bw c.iter&&k ((X,.src false (.Name n.1 n.2),c.iter) :: (X.comp q.2.2.1 n.1 n.1,.val,q.1) :: c.ifs.map fun x=>(X.comp q.2.2.1 n.1 n.1,.test,x))))
 | .compM js=>(pU x).any fun q=>(iw q.2.1).any fun c=>c.is_async==0&&(lQ c.target).any fun T=>(two? T.1).any fun y=>(bA y.1).any fun n=>(bA y.2).any fun n'=>jl X q.2.2.1 n.1 n'.1&&(!(n'.1==n.1)&&(js==[X.nf,X.nf+1]&&(bw c.iter&&k ((X,.src false (.Tuple [.Name n.1 n.2,.Name n'.1 n'.2] T.2.1 T.2.2),c.iter) :: (X.comp q.2.2.1 n.1 n'.1,.val,q.1) :: c.ifs.map fun x=>(X.comp q.2.2.1 n.1 n'.1,.test,x)))))
 | .peek=>k [(X,p,x)]
 | .peekN=>Bi p&&k [(X,.new,x)]
 | .getD=>mCall x fun y nm xs=>nm==("get" : Str)&&(bR y&&(two? xs).any fun e=>aq e.1&&(aq e.2&&k [(X,.val,y),(X,.val,e.1),(X,.val,e.2)]))
 | .isinst t=>nCall X "isinstance" x fun xs=>(two? xs).any fun y=>aq y.1&&(bA y.2).any fun T=>bW X.sc T.1&&((iG[t]?).any (fun T'=>T.1==ofString T')&&k [(X,.val,y.1)])
 | .len=>dj X "len" x fun y=>aq y&&k [(X,.val,y)]
 | .lenSet=>dj X "len" x fun y=>dj X "set" y fun z=>aq z&&k [(X,.val,z)]
 | .listOf=>dj X "list" x fun y=>aq y&&k [(X,.val,y)]
 | .sorted=>dj X "sorted" x fun y=>aq y&&k [(X,.val,y)]
 | .tupleOf=>dj X "tuple" x fun y=>aq y&&k [(X,.val,y)]
 | .sortedP=>dj X "sorted" x fun y=>aq y&&k [(X,.val,y)]
 | .sortedSet=>dj X "sorted" x fun y=>dj X "set" y fun z=>aq z&&k [(X,.val,z)]
 | .call f=>cCall Z X f x fun xs=>cn xs&&k (xs.map fun x=>(X,.val,x))
 | .join=>xp X k "join" x
 | .meth c f=>mCall x fun y nm xs=>bR y&&(qt Z c f nm&&(DG xs&&k ((X,.val,y) :: xs.map fun x=>(X,.val,x))))
 | _=>false
def DI (f:Str) (x:Expr):Bool:=nCall X f x fun xs=>cn xs&&k (xs.map fun x=>(X,.val,x))
def BF (x:Expr):Bool:=b8 x&&mO Z o k X .val x||isComp o&&mO Z o k X .val x
noncomputable def EY:Bool:=match o with
 | .listOf=>true
 | _=>false
def BE (p:Pz) (x:Expr):Bool:=match p with
 | .val=>mO Z o k X .val x
 | .test=>mO Z o k X .test x
 | .new=>EY o&&mO Z o k X .val x
 | .src st T=>match o with
  | .range=>DI k X "range" x
  | .zip=>(lQ T).any fun U=>DI k X "zip" x
  | .own j=>!st&&(bA x).any fun m=>X.ρ.lookup m.1==some j&&(aP m.1&&k [])
  | _=>mO Z o k X .val x
 | .asg _ _ _=>BF Z o k X x
end
noncomputable abbrev Ck:=Kid->Bool
noncomputable def qx (cs:List Ck):List Kid->Bool:=
 List.rec (motive:=fun U=>List Kid->Bool) (fun ts=>ts.isEmpty) (fun c U ih ts=>match ts with | []=>false | t :: r=>c t&&ih r) cs
def Av [BEq Str] (Z:Zx) (e:E):Ck:=
 E.rec (motive_1:=fun U=>Ck) (motive_2:=fun U=>List Ck) (fun o U ih t=>BE Z o (qx ih) t.1 t.2.1 t.2.2) [] (fun U U i is=>i :: is) e
noncomputable def iI [BEq Str] (X:Sx) (m:Str) (j:Nat):Bool:=X.ρ.lookup m==some j&&!(X.sc.lookup m==some .free)
noncomputable def jV [BEq Str] (X:Sx):List Expr->List Nat->Bool
 | [],js=>js.isEmpty
 | t :: r,js=>(bA t).any fun m=>match js with | []=>false | j :: q=>iI X m.1 j&&jV X r q
def iv (x:Stmt) (f:Expr->Expr->Pos->Bool):Bool:=if h:x.ctorIdx=5 then Stmt.Assign.elim (motive_2:=fun U=>Bool) x h fun ts v p=>(iw ts).any fun t=>f t v p else false
noncomputable def yP (x:Stmt) (f:Expr->Bool):Bool:=if h:x.ctorIdx=24 then Stmt.Expr.elim (motive_2:=fun U=>Bool) x h fun e U=>f e else false
noncomputable def AC (x:Stmt) (f:Expr->Bool):Bool:=if h:x.ctorIdx=3 then Stmt.Return.elim (motive_2:=fun U=>Bool) x h fun e U=>e.any f else false
noncomputable def AE (x:Stmt) (f:Expr->List Stmt->List Stmt->Bool):Bool:=if h:x.ctorIdx=12 then Stmt.If.elim (motive_2:=fun U=>Bool) x h fun c a b U=>f c a b else false
noncomputable def yO (x:Stmt) (f:Expr->Expr->List Stmt->Bool):Bool:=if h:x.ctorIdx=9 then Stmt.For.elim (motive_2:=fun U=>Bool) x h fun T it body el U=>el.isEmpty&&f T it body else false
noncomputable def vRs (x:Stmt):Bool:=x.ctorIdx==16
noncomputable def vWh (x:Stmt) (f:Expr->List Stmt->Bool):Bool:=if h:x.ctorIdx=11 then Stmt.While.elim (motive_2:=fun U=>Bool) x h fun t body el U=>el.isEmpty&&f t body else false
noncomputable def Fa:Fld->Bool
 | .L []=>true
 | .D []=>true
 | _=>false
noncomputable def DE:Fld->Bool
 | .L _=>false
 | _=>true
def AD (x:Stmt) (f:Expr->Str->List Expr->Bool):Bool:=yP x fun e=>mCall e f
noncomputable def ni [BEq Str] (Z:Zx) (X:Sx) (i c f:Nat):List Expr->List Bool->(List Expr->Bool)->Bool
 | [],ms,k=>ms.isEmpty&&k []
 | x :: xs,ms,k=>match ms with
  | []=>false
  | true :: ms=>mCall x fun y nm zs=>nt X i y&&(qt Z c f nm&&(iw zs).any fun e=>aq e&&ni Z X i c f xs ms fun es=>k (e :: es))
  | false :: ms=>aq x&&ni Z X i c f xs ms fun es=>k (x :: es)
noncomputable def DO (l:List Expr):Option (Expr×Expr×Expr×Expr):=match l with
 | [a,b,c,d]=>some (a,b,c,d)
 | _=>none
def Fp [BEq Str] (X:Sx) (i:Nat) (x:Expr):Bool:=mCall x fun y nm xs=>nm==("pop" : Str)&&(nt X i y&&xs.isEmpty)
noncomputable abbrev CkS:=Sx->List Stmt->Bool
noncomputable abbrev CkM:=Sx->List Stmt->(List Stmt->Bool)->Bool
noncomputable def EX (c:Stmt->Bool) (FT:List Stmt->Bool):List Stmt->Bool
 | []=>false
 | x :: r=>c x&&FT r
section
variable [BEq Str] (Z:Zx) (o:SOp) (k:List Kid->Bool) (ca cb:CkS) (X:Sx)
def yq (x:Stmt):Bool:=match o with
 | .assign j=>iv x fun t v p=>(bA t).any fun m=>iI X m.1 j&&k [(X,.asg m.1 m.2 p,v)]
 | .assignM js=>iv x fun t v p=>(lQ t).any fun q=>jV X q.1 js&&(q6 v&&k [(X,.val,v)])
 | .ownL j=>iv x fun t v p=>(bA t).any fun m=>iI X m.1 j&&(wQ v).any fun q=>cn q.1&&k (q.1.map fun x=>(X,.val,x))
 | .ownD j=>iv x fun t v p=>(bA t).any fun m=>iI X m.1 j&&(ri v&&k [])
 | .setD j=>iv x fun t v p=>(pS t).any fun q=>(bA q.1).any fun m=>X.ρ.lookup m.1==some j&&(aP m.1&&(b8 v&&k [(X,.val,v),(X,.val,q.2.1)]))
 | .setAttr i c j=>iv x fun t v p=>(iE t).any fun u=>(bA u.1).any fun m=>X.ρ.lookup m.1==some i&&(aP m.1&&(qD Z c j u.2.1&&(b8 v&&k [(X,.val,v)])))
 | .setAttrO i c j f=>iv x fun t v p=>(iE t).any fun u=>(bA u.1).any fun m=>X.ρ.lookup m.1==some i&&(aP m.1&&(qD Z c j u.2.1&&(Fa f&&((if DE f=true then ri v else xL v)&&k []))))
 | .call f=>yP x fun e=>cCall Z X f e fun xs=>cn xs&&k (xs.map fun x=>(X,.val,x))
 | .append j=>AD x fun y nm xs=>nm==("append" : Str)&&((iw xs).any (fun e=>aq e&&k [(X,.val,e)])&&(bA y).any fun m=>X.ρ.lookup m.1==some j&&aP m.1)
 | .ret=>AC x fun e=>if X.nw then k [(X,.new,e)] else k [(X,.val,e)]
 | .ite=>AE x fun c a b=>k [(X,.test,c)]&&(ca X a&&cb X b)
 | .while=>vWh x fun c a=>k [(X,.test,c)]&&ca X a
 | .forS j=>yO x fun T it body=>bw it&&(ca X body&&(bA T).any fun m=>iI X m.1 j&&k [(X,.src true (.Name m.1 m.2),it)])
 | .forM js=>yO x fun T it body=>bw it&&(ca X body&&(lQ T).any fun q=>jV X q.1 js&&k [(X,.src true (.Tuple q.1 q.2.1 q.2.2),it)])
 | .raise=>vRs x
 | .mkO j f=>iv x fun t v p=>(bA t).any fun m=>iI X m.1 j&&cCall Z X f v fun xs=>cn xs&&k (xs.map fun x=>(X,.val,x))
 | .oCall i c f=>AD x fun y nm xs=>nt X i y&&(qt Z c f nm&&(DG xs&&k (xs.map fun x=>(X,.val,x))))
 | .oPopM i c j ks=>iv x fun t v p=>(lQ t).any fun q=>jV X q.1 ks&&(k []&&mCall v fun u n zs=>n==("pop" : Str)&&(qP Z X i c j u&&zs.isEmpty))
 | .oApp i c j=>AD x fun y nm xs=>nm==("append" : Str)&&(qP Z X i c j y&&(iw xs).any fun e=>aq e&&k [(X,.val,e)])
 | .oSet i c j=>iv x fun t v p=>(pS t).any fun q=>qP Z X i c j q.1&&(b8 v&&k [(X,.val,v),(X,.val,q.2.1)])
 | .oSetF i c j f ms=>iv x fun t v p=>(pS t).any fun q=>qP Z X i c j q.1&&(lQ q.2.1).any fun T=>mCall v fun y nm xs=>nt X i y&&(qt Z c f nm&&(iw xs).any fun e=>aq e&&ni Z X i c f T.1 ms fun es=>k ((X,.val,e) :: es.map fun x=>(X,.val,x)))
 | .popS j i=>iv x fun t v p=>(bA t).any fun m=>iI X m.1 j&&(pS v).any fun q=>(lQ q.2.1).any fun T=>(DO T.1).any fun y=>Fp X i y.2.2.1&&(cn [y.1,y.2.1,y.2.2.2]&&k [(X,.val,q.1),(X,.val,y.1),(X,.val,y.2.1),(X,.val,y.2.2.2)])
 | _=>false
def yt (F7:List Stmt) (FT:List Stmt->Bool):Bool:=match o with
 | .freeze _=>FT F7
 | .freezeD _=>FT F7
 | .freezeO _=>FT F7
 | _=>EX (yq Z o k ca cb X) FT F7
end
def DH [BEq Str] (Z:Zx) (s:S):CkM:=
 S.rec (motive_1:=fun U=>CkM) (motive_2:=fun U=>CkS) (fun o es U U a b X F7 FT=>yt Z o (qx (es.map (Av Z))) a b X F7 FT) (fun U F7=>F7.isEmpty) (fun U U i is X F7=>i X F7 (is X)) s
def yr [BEq Str] (Z:Zx) (l:List S):CkS:=List.rec (motive:=fun U=>CkS) (fun U F7=>F7.isEmpty) (fun s U is X F7=>DH Z s X F7 (is X)) l
noncomputable def Du:Value->Option Addr
 | .ref c=>some c
 | _=>none
noncomputable def Bs:Data->Option (Array Value)
 | .fields vs=>some vs
 | _=>none
noncomputable def EV:Data->Option (Array Value)
 | .seq vs _=>some vs
 | _=>none
noncomputable def Bq:Data->Option FuncData
 | .func fd=>some fd
 | _=>none
noncomputable def jW:FuncBody->Option (List Stmt)
 | .stmts b=>some b
 | _=>none
noncomputable def rc [BEq Str]:Value->Str->Bool
 | .str s _,n=>s==n
 | _,_=>false
def tn [BEq Str] (K:Frag) (cd:Value) (q:Str):Bool:=(Du cd).any fun c=>(K.lookup c).any fun o=>(Bs o.data).any fun vs=>(vs[1]?).any (rc · q)
noncomputable def DY:Value->Bool
 | .none=>true
 | _=>false
noncomputable abbrev gy:=List Stmt×Scope×Arguments
def fnD (K:Frag) (a:Addr):Option FuncData:=(K.lookup a).bind fun o=>Bq o.data
def eW (K:Frag) (a:Addr):Option gy:=(fnD K a).bind fun fd=>(jW fd.body).map fun b=>(b,fd.scope,fd.params)
def xE [BEq Str] (K:Frag) (a:Addr):Bool:=(fnD K a).any fun fd=>tn K fd.code fd.qualname&&(fd.globals==mainGlobals&&(fd.builtins==builtinsNs&&(fd.closure.isEmpty&&DY fd.defaults)))
def eV [BEq Str] (Z:Zx) (fn:Fn) (nms:List Str) (nw:Bool) (b:Option gy):Bool:=match b with
 | some (body,scope,params)=>!scope.isCoroutine&&(!scope.isGenerator&&(scope.kind==.function&&(params.posonlyargs.isEmpty&&((params.args.map (·.arg))==nms.take fn.npar&&(params.kwonlyargs.isEmpty&&(params.vararg.isNone&&(params.kwarg.isNone &&
    (qY nms&&(decide (fn.npar<=nms.length)&&(decide (nms.length<=fn.nslots)&&(nms.all (fun x=>scope.names.lookup x==some .local||scope.names.lookup x==some .cell) &&
    yr Z fn.body ⟨scope.names,nms.zipIdx,nms.length,fn.nslots,nw⟩ body)))))))))))
 | none=>false
noncomputable def DT (u:Value):V->Bool
 | .int j=>Value.isInt j u
 | _=>false
def pD (K:Frag) (u:Value) (v:V):Bool:=match v with
 | .int j=>Value.isInt j u
 | .str l=>Value.isStrOf l u
 | .tuple l=>(Du u).any fun a=>(K.lookup a).any fun o=>o.cls==.type "tuple"&&(EV o.data).any fun vs=>(iw vs.toList).any fun w=>(iw l).any (DT w)
 | _=>false
def nsF [BEq Str] (K:Frag) (ns:Addr) (name:Str):Option (Option Value):=match K.lookup ns with
 | some ⟨_,_,.dict es _,_⟩=>(match es.toList.find? (fun e=>rc e.key name) with
   | some e=>some (some e.val)
   | none=>if es.toList.any (·.refKey) then none else some none)
 | _=>none
def xh (K:Frag) (ns:Addr) (name:Str):nsF K ns name=nsIn K ns name:=rfl
def xM [BEq Str] (K:Frag) (p:Str×V):Bool:=((nsF K mainGlobals p.1).bind id).any fun u=>pD K u p.2
noncomputable def rB (K:Frag) (C:Addr) (flds:List Str):Bool:=
 findIn K (.ref C) "__getattribute__"==some (some (.builtin "object.__getattribute__"))&&(findIn K (.ref C) "__getattr__"==some none&&(findIn K (.ref C) "__setattr__"==some (some (.builtin "object.__setattr__"))&&(plainOver K C&&((clsIn K C).any (·.hasDict) &&
 (flds.all (fun x=>findIn K (.ref C) x==some none)&&(makesIn K C&&(decide flds.Nodup&&decide (flds.length<=1000))))))))
noncomputable def xl [BEq Str] (K:Frag) (C:Addr) (flds:List Str) (fn:Nat->Addr) (p:Str×Nat):Bool:=!flds.elem p.1&&(findIn K (.ref C) p.1==some (some (.ref (fn p.2)))&&(typeIn K (.ref (fn p.2))==some (.type "function")&&keepIn K (.ref (fn p.2))))
end Mine
end
noncomputable section
namespace Mine.L05
open PySem
noncomputable def abc:Str:=⟨#[97,98,99,100,101,102,103,104,105,106,107,108,109,110,111,112,113,114,115,116,117,118,119,120,121,122]⟩
noncomputable def a6:Str:=⟨#[111,112,101,110]⟩
noncomputable def aC:Str:=⟨#[99,108,111,115,101]⟩
noncomputable def kOn:Str:=⟨#[111,110]⟩
noncomputable def k0:Str:=⟨#[]⟩
noncomputable def ii (i:Int):E:=.nd (.lit (.int i)) []
noncomputable def ss (t:Str):E:=.nd (.lit (.str t)) []
noncomputable def bb (b:Bool):E:=.nd (.lit (.bool b)) []
noncomputable def nn:E:=.nd (.lit .none) []
noncomputable def oo:E:=.nd (.lit (.tuple [.int (-1)])) []
noncomputable abbrev sbE (a b:E):E:=.nd .sub [a,b]
noncomputable abbrev mdE (a b:E):E:=.nd (.bin .Mod) [a,b]
noncomputable abbrev fdE (a b:E):E:=.nd (.bin .FloorDiv) [a,b]
noncomputable abbrev adE (a b:E):E:=.nd (.bin .Add) [a,b]
noncomputable abbrev mlE (a b:E):E:=.nd (.bin .Mult) [a,b]
noncomputable abbrev siE (a b:E):E:=.nd (.bin .Sub) [a,b]
noncomputable abbrev eqE (a b:E):E:=.nd (.cmp .Eq) [a,b]
noncomputable abbrev neE (a b:E):E:=.nd (.cmp .NotEq) [a,b]
noncomputable abbrev lnE (a:E):E:=.nd .len [a]
noncomputable def vv (k:Nat):E:=.nd (.var k) []
noncomputable abbrev rt (e:E):S:=.mk .ret [e] [] []
noncomputable abbrev sA (k:Nat) (e:E):S:=.mk (.assign k) [e] [] []
noncomputable abbrev iF (c:E) (a:List S):S:=.mk .ite [c] a []
noncomputable abbrev fS (k:Nat) (e:E) (a:List S):S:=.mk (.forS k) [e] a []
def v0:E:=vv 0
def v1:E:=vv 1
def v2:E:=vv 2
def v3:E:=vv 3
def v4:E:=vv 4
def v5:E:=vv 5
def v6:E:=vv 6
def v7:E:=vv 7
def v8:E:=vv 8
def v9:E:=vv 9
def v10:E:=vv 10
def v11:E:=vv 11
def v12:E:=vv 12
def v13:E:=vv 13
def FI:List S:=[iF (.nd (.cmp .NotIn) [v1,ss abc]) [rt (bb false)]]
def f0:Fn:=⟨1,2,.fn,[iF (.nd .or [.nd .not [.nd (.isinst 0) [v0]],.nd (.cmp .Gt) [lnE v0,ii 4]]) [rt (bb false)],
  fS 1 v0 FI,
  rt (bb true)]⟩
noncomputable def n0:List Str:=["thing", "sign"]
def FH:List S:=[iF (.nd .not [.nd (.call 0) [v1]]) [rt (bb false)]]
def f1:Fn:=⟨1,3,.fn,[iF (.nd .or [.nd .not [.nd (.isinst 1) [v0]],neE (lnE v0) (ii 3)]) [rt (bb false)],
  fS 1 v0 FH,
  sA 2 (adE (adE (sbE v0 (ii 0)) (sbE v0 (ii 1))) (sbE v0 (ii 2))),
  rt (eqE (.nd .lenSet [v2]) (lnE v2))]⟩
def n1:List Str:=["thing", "text", "whole"]
def f2:Fn:=⟨1,1,.fn,[iF (.nd .not [.nd (.call 1) [v0]]) [.mk .raise [] [] []]]⟩
noncomputable def n2:List Str:=["signs"]
def z0:List S:=[iF (.nd (.cmp .In) [v1,v2]) [rt v3]]
def f3:Fn:=⟨2,4,.fn,[iF (.nd .or [.nd .not [.nd (.isinst 0) [v1]],neE (lnE v1) (ii 1)]) [rt (ss k0)],
  .mk (.forM [2,3]) [.nd .zip [v0,.nd .list [ss a6,ss aC,ss kOn]]] z0 [],
  rt (ss k0)]⟩
def n3:List Str:=["signs", "thing", "text", "kind"]
def f4:Fn:=⟨1,1,.fn,[rt (.nd .tupleOf [.nd .sortedP [v0]])]⟩
noncomputable def n4:List Str:=["pairs"]
def Fi:List S:=[.mk (.setD 1) [bb true,.nd .tuple [oo,v2]] [] []]
def f5:Fn:=⟨1,3,.fn,[.mk (.ownD 1) [] [] [],
  fS 2 (.nd (.meth 0 17) [v0]) Fi,
  .mk (.freezeD 1) [] [] [],
  rt (.nd (.call 4) [v1])]⟩
noncomputable def n5:List Str:=["machine", "found", "room"]
def Fh:List S:=[iF (.nd .and [eqE (sbE v6 (ii 0)) (ss kOn),eqE (sbE v6 (ii 1)) v5,eqE (sbE v6 (ii 2)) v2]) [.mk (.setD 3) [bb true,.nd .tuple [v4,sbE v6 (ii 3)]] [] []]]
def Fg:List S:=[fS 6 v0 Fh]
def f6:Fn:=⟨3,7,.fn,[.mk (.ownD 3) [] [] [],
  .mk (.forM [4,5]) [v1] Fg [],
  .mk (.freezeD 3) [] [] [],
  rt v3]⟩
noncomputable def n6:List Str:=["ways", "here", "sign", "found", "begun", "room", "way"]
def Ff:List S:=[iF (.nd .and [eqE (sbE v6 (ii 0)) (ss a6),eqE (sbE v6 (ii 1)) v5,eqE (sbE v6 (ii 2)) v2]) [.mk (.setD 3) [bb true,.nd .tuple [v6,sbE v6 (ii 3)]] [] []]]
def Fe:List S:=[fS 6 v0 Ff]
def f7:Fn:=⟨3,7,.fn,[.mk (.ownD 3) [] [] [],
  .mk (.forM [4,5]) [v1] Fe [],
  .mk (.freezeD 3) [] [] [],
  rt v3]⟩
noncomputable def n7:List Str:=["ways", "here", "sign", "found", "begun", "room", "way"]
def Fd:List S:=[iF (eqE v9 (sbE v5 (ii 1))) [.mk (.setD 4) [bb true,.nd .tuple [v8,sbE v7 (ii 4)]] [] []]]
def Fc:List S:=[iF (.nd .and [eqE (sbE v7 (ii 0)) (ss aC),eqE (sbE v7 (ii 1)) v6,eqE (sbE v7 (ii 2)) (sbE v5 (ii 4)),eqE (sbE v7 (ii 3)) v3]) [.mk (.forM [8,9]) [v1] Fd []]]
def Fb:List S:=[fS 7 v0 Fc]
def f8:Fn:=⟨4,10,.fn,[.mk (.ownD 4) [] [] [],
  .mk (.forM [5,6]) [v2] Fb [],
  .mk (.freezeD 4) [] [] [],
  rt v4]⟩
noncomputable def n8:List Str:=["ways", "outer", "inner", "sign", "found", "opening", "room", "way", "begun", "last"]
def f9:Fn:=⟨2,2,.ocls 1,[.mk (.setAttr 0 1 0) [v1] [] [],
  .mk (.setAttr 0 1 1) [.nd (.meth 0 19) [v1]] [] [],
  .mk (.setAttrO 0 1 2 (.D [])) [] [] [],
  .mk (.setAttrO 0 1 3 (.D [])) [] [] [],
  .mk (.setAttrO 0 1 4 (.L [])) [] [] [],
  .mk (.setAttrO 0 1 5 (.D [])) [] [] []]⟩
noncomputable def n9:List Str:=["self", "machine"]
def f10:Fn:=⟨2,2,.fn,[rt (.nd .and [.nd (.isinst 3) [v0],.nd .not [.nd (.isinst 4) [v0]],.nd .chain [ii 0,v0,v1]])]⟩
noncomputable def n10:List Str:=["thing", "rooms"]
def EF:List S:=[iF (.nd .not [.nd (.call 10) [v2,v1]]) [rt (bb false)]]
def f11:Fn:=⟨2,3,.fn,[iF (.nd .not [.nd (.isinst 2) [v0]]) [rt (bb false)],
  fS 2 v0 EF,
  rt (eqE (.nd .lenSet [v0]) (lnE v0))]⟩
noncomputable def n11:List Str:=["thing", "rooms", "room"]
def EE:List S:=[rt (.nd .and [eqE (lnE v0) (ii 4),eqE (.nd (.call 3) [v1,sbE v0 (ii 2)]) (ss kOn),.nd (.call 10) [sbE v0 (ii 3),v2]])]
def f12:Fn:=⟨3,3,.fn,[iF (.nd .or [.nd .not [.nd (.isinst 1) [v0]],.nd (.cmp .Lt) [lnE v0,ii 4],.nd .not [.nd (.call 10) [sbE v0 (ii 1),v2]]]) [rt (bb false)],
  iF (.nd .not [.nd (.isinst 0) [sbE v0 (ii 0)]]) [rt (bb false)],
  iF (eqE (sbE v0 (ii 0)) (ss kOn)) EE,
  iF (.nd .or [neE (lnE v0) (ii 5),.nd .not [.nd (.call 10) [sbE v0 (ii 4),v2]]]) [rt (bb false)],
  iF (eqE (sbE v0 (ii 0)) (ss a6)) [rt (.nd .and [eqE (.nd (.call 3) [v1,sbE v0 (ii 2)]) (ss a6),.nd (.call 10) [sbE v0 (ii 3),v2]])],
  rt (.nd .and [eqE (sbE v0 (ii 0)) (ss aC),.nd (.call 10) [sbE v0 (ii 2),v2],eqE (.nd (.call 3) [v1,sbE v0 (ii 3)]) (ss aC)])]⟩
noncomputable def n12:List Str:=["thing", "signs", "rooms"]
def ED:List S:=[iF (.nd .not [.nd (.call 12) [v3,v1,v2]]) [rt (bb false)]]
def f13:Fn:=⟨3,4,.fn,[iF (.nd .or [.nd .not [.nd (.isinst 2) [v0]],.nd (.cmp .Gt) [lnE v0,ii 4000]]) [rt (bb false)],
  fS 3 v0 ED,
  rt (bb true)]⟩
noncomputable def n13:List Str:=["thing", "signs", "rooms", "way"]
def f14:Fn:=⟨6,6,.cls 0 5,[.mk (.call 2) [v1] [] [],
  iF (.nd .or [.nd .not [.nd (.call 10) [v2,adE (ii 40) (ii 1)]],.nd (.cmp .Lt) [v2,ii 1]]) [.mk .raise [] [] []],
  iF (.nd .or [.nd .not [.nd (.call 11) [v3,v2]],.nd .not [.nd (.call 11) [v4,v2]],.nd .not [.nd (.call 13) [v5,v1,v2]]]) [.mk .raise [] [] []],
  .mk (.setAttr 0 0 0) [v1] [] [],
  .mk (.setAttr 0 0 1) [v2] [] [],
  .mk (.setAttr 0 0 2) [.nd .sorted [v3]] [] [],
  .mk (.setAttr 0 0 3) [.nd .sorted [v4]] [] [],
  .mk (.setAttr 0 0 4) [.nd .sortedSet [v5]] [] []]⟩
noncomputable def n14:List Str:=["self", "signs", "rooms", "starts", "ends", "ways"]
def f15:Fn:=⟨1,1,.fn,[rt (.nd (.attr 0 0) [v0])]⟩
noncomputable def n15:List Str:=["self"]
def f16:Fn:=⟨1,1,.fn,[rt (.nd (.attr 0 1) [v0])]⟩
noncomputable def n16:List Str:=["self"]
def f17:Fn:=⟨1,1,.fn,[rt (.nd .listOf [.nd (.attr 0 2) [v0]])]⟩
noncomputable def n17:List Str:=["self"]
def f18:Fn:=⟨1,1,.fn,[rt (.nd .listOf [.nd (.attr 0 3) [v0]])]⟩
noncomputable def n18:List Str:=["self"]
def f19:Fn:=⟨1,1,.fn,[rt (.nd .listOf [.nd (.attr 0 4) [v0]])]⟩
noncomputable def n19:List Str:=["self"]
def f20:Fn:=⟨2,2,.fn,[iF (.nd (.cmp .Lt) [v1,lnE v0]) [rt (sbE v0 v1)],
  rt (ii 0)]⟩
noncomputable def n20:List Str:=["_law_script", "_law_k"]
def f21:Fn:=⟨2,2,.fn,[rt (mdE (adE (mlE v0 (ii 48271)) (mlE (ii 7919) v1)) (ii 1000003))]⟩
noncomputable def n21:List Str:=["_law_cell", "_law_k"]
def EC:List S:=[iF (.nd .peek [eqE (lnE (.nd (.attr 1 2) [v0])) (ii 40)]) [.mk .raise [] [] []],
  .mk (.oSet 0 1 2) [.nd .peek [lnE (.nd (.attr 1 2) [v0])],v1] [] []]
def f22:Fn:=⟨2,2,.met,[iF (.nd .peek [.nd (.cmp .NotIn) [v1,.nd (.attr 1 2) [v0]]]) EC,
  rt (.nd .peek [sbE (.nd (.attr 1 2) [v0]) v1])]⟩
noncomputable def n22:List Str:=["self", "pairs"]
def yn:E:=(sbE v1 (mdE (adE v0 (mlE v2 v6)) (ii 26)))
def f23:Fn:=⟨1,8,.fn,[sA 1 (ss abc),
  sA 2 (adE (ii 1) (mlE (ii 2) (mdE (fdE v0 (ii 26)) (ii 5)))),
  sA 3 (.nd .join [ss k0,.nd (.comp 6) [.nd .range [ii 6],yn]]),
  sA 4 (sbE (.nd .list [ii 1,ii 1,ii 2,ii 0]) (mdE (fdE v0 (ii 130)) (ii 4))),
  sA 5 (adE v4 (sbE (.nd .list [ii 1,ii 2,ii 1,ii 1,ii 0]) (mdE (fdE v0 (ii 520)) (ii 5)))),
  rt (.nd .tuple [.nd (.slice false true) [v3,v4],.nd (.slice true true) [v3,v4,v5],.nd (.slice true true) [v3,v5,adE v5 (mdE (fdE v0 (ii 2600)) (ii 3))]])]⟩
noncomputable def n23:List Str:=["_law_cell", "_law_letters", "_law_step_here", "_law_row", "_law_one", "_law_other"]
def f24:Fn:=⟨3,3,.met,[.mk (.oCall 0 1 22) [v2] [] [],
  iF (.nd .peek [.nd (.cmp .NotIn) [.nd .tuple [v1,v2],.nd (.attr 1 3) [v0]]]) [.mk (.oSet 0 1 3) [bb true,.nd .tuple [v1,v2]] [] [],
  .mk (.oApp 0 1 4) [.nd .tuple [v1,v2]] [] []]]⟩
noncomputable def n24:List Str:=["self", "kept", "pairs"]
def EB:List S:=[rt (.nd .tuple [ss a6,siE (siE v2 (ii 1)) (sbE (sbE v3 (ii 0)) (ii 1)),sbE (sbE v3 (ii 0)) (ii 2),v6,v7])]
def BB:List S:=[iF (.nd .and [neE v3 (.nd .list []),eqE (mdE (fdE v0 (ii 1024)) (ii 3)) (ii 0)]) [rt (adE (.nd (.slice false true) [sbE v3 (ii 0),ii 3]) (.nd .tuple [v6,v7]))],
  iF (.nd .and [neE v3 (.nd .list []),eqE (mdE (fdE v0 (ii 1024)) (ii 3)) (ii 1)]) EB,
  rt (.nd .tuple [ss a6,v5,sbE (sbE v1 (ii 0)) (mdE (fdE v0 (ii 256)) (lnE (sbE v1 (ii 0)))),v6,v7])]
def BA:List S:=[iF (.nd .and [neE v3 (.nd .list []),.nd (.cmp .Gt) [mdE (fdE v0 (ii 1024)) (ii 4),ii 0]]) [.mk (.assignM [5,6]) [.nd (.slice true false) [sbE v3 (mdE (fdE v0 (ii 16)) (lnE v3)),ii 3]] [] []],
  rt (.nd .tuple [ss aC,v5,v6,sbE (sbE v1 (ii 1)) (mdE (fdE v0 (ii 256)) (lnE (sbE v1 (ii 1)))),v7])]
def EA:List S:=[rt (.nd .tuple [ss kOn,v5,sbE (sbE v1 (ii 2)) (mdE (fdE v0 (ii 256)) (lnE (sbE v1 (ii 2)))),v6])]
def f25:Fn:=⟨5,8,.fn,[sA 5 (mdE (fdE v0 (ii 4)) v2),
  sA 6 (mdE (fdE v0 (ii 16)) v2),
  sA 7 (mdE (fdE v0 (ii 64)) v2),
  iF (.nd .and [eqE (mdE v0 (ii 4)) (ii 0),.nd (.cmp .Lt) [lnE v3,v4],neE (sbE v1 (ii 0)) (ss k0)]) BB,
  iF (.nd .and [.nd (.cmp .Lt) [mdE v0 (ii 4),ii 2],neE (sbE v1 (ii 1)) (ss k0)]) BA,
  iF (neE (sbE v1 (ii 2)) (ss k0)) EA,
  rt nn]⟩
noncomputable def n25:List Str:=["_law_cell", "_law_signs", "_law_rooms", "_law_opens", "_law_most", "_law_one", "_law_other", "_law_third"]
def f26c0:E:=v12
def f26c1:E:=v12
def f26c2:E:=v12
def Ez:List S:=[sA 10 (.nd (.comp 12) [.nd (.own 8) [],f26c2,eqE (sbE v12 (ii 0)) (ss a6)]),
  sA 11 (.nd (.call 25) [.nd (.call 21) [.nd (.call 20) [v0,adE (adE v1 (ii 2)) v9],v9],v2,v4,v10,v5]),
  iF (.nd (.cmp .IsNot) [v11,nn]) [.mk (.append 8) [v11] [] []]]
def f26:Fn:=⟨4,14,.fn,[sA 4 (adE (ii 1) (mdE (.nd (.call 20) [v0,v1]) v3)),
  sA 5 (sbE (.nd .list [ii 4,ii 2,ii 1,ii 1]) (siE v4 (ii 1))),
  sA 6 (.nd (.comp 12) [.nd .range [v4],f26c0,.nd (.cmp .Gt) [mdE (fdE (.nd (.call 20) [v0,adE v1 (ii 1)]) (adE (mlE (ii 4) v12) (ii 1))) (ii 3),ii 0]]),
  sA 7 (.nd (.comp 12) [.nd .range [v4],f26c1,eqE (mdE (fdE (.nd (.call 20) [v0,adE v1 (ii 1)]) (adE (mlE (ii 5) v12) (ii 7))) (ii 2)) (ii 0)]),
  .mk (.ownL 8) [] [] [],
  fS 9 (.nd .range [adE (ii 2) (mdE (fdE (.nd (.call 20) [v0,v1]) (ii 4)) (ii 9))]) Ez,
  .mk (.freeze 8) [] [] [],
  rt (.nd .tuple [v2,v4,v6,v7,v8])]⟩
noncomputable def n26:List Str:=["_law_script", "_law_at", "_law_signs", "_law_most", "_law_rooms", "_law_many", "_law_starts", "_law_ends", "_law_ways", "_law_k", "_law_opens", "_law_way"]
def f27:Fn:=⟨1,1,.fn,[rt (.nd (.call 14) [sbE v0 (ii 0),sbE v0 (ii 1),.nd .listOf [sbE v0 (ii 2)],.nd .listOf [sbE v0 (ii 3)],.nd .listOf [sbE v0 (ii 4)]])]⟩
noncomputable def n27:List Str:=["_law_parts"]
def Ey:List S:=[iF (.nd .or [eqE v2 (.nd .list []),neE (sbE v0 (ii 2)) (sbE v2 (.nd .neg [ii 1])),neE (sbE v0 (ii 3)) v3]) [rt nn],
  rt (.nd .tuple [sbE v0 (ii 4),.nd (.slice false true) [v2,.nd .neg [ii 1]]])]
def f28:Fn:=⟨4,4,.fn,[iF (neE (sbE v0 (ii 1)) v1) [rt nn],
  iF (eqE (sbE v0 (ii 0)) (ss aC)) Ey,
  iF (neE (sbE v0 (ii 2)) v3) [rt nn],
  iF (eqE (sbE v0 (ii 0)) (ss a6)) [rt (.nd .tuple [sbE v0 (ii 3),adE v2 (.nd .list [sbE v0 (ii 4)])])],
  rt (.nd .tuple [sbE v0 (ii 3),v2])]⟩
noncomputable def n28:List Str:=["_law_way", "_law_room", "_law_pile", "_law_sign"]
def Ex:E:=(.nd .tuple [v9,.nd .list []])
def Bz:List S:=[sA 8 (.nd (.call 28) [v7,v5,v6,v3]),
  iF (.nd .and [.nd (.cmp .IsNot) [v8,nn],.nd .peek [.nd (.cmp .NotIn) [v8,v4]]]) [.mk (.append 4) [v8] [] []]]
def By:List S:=[fS 7 (sbE v0 (ii 4)) Bz]
def Ew:List S:=[.mk (.ownL 4) [] [] [],
  .mk (.forM [5,6]) [v2] By [],
  .mk (.freeze 4) [] [] [],
  sA 2 v4]
def f29c4:E:=v9
def f29:Fn:=⟨2,11,.fn,[sA 2 (.nd (.comp 9) [sbE v0 (ii 2),Ex]),
  fS 3 v1 Ew,
  rt (neE (.nd (.compM [9,10]) [v2,f29c4,.nd (.cmp .In) [v9,sbE v0 (ii 3)]]) (.nd .list []))]⟩
noncomputable def n29:List Str:=["_law_parts", "_law_word", "_law_now", "_law_sign", "_law_found", "_law_room", "_law_pile", "_law_way", "_law_state"]
def Eu:List S:=[sA 2 (adE v2 (sbE (sbE v0 (ii 0)) (mdE (fdE v4 (ii 3)) (lnE (sbE v0 (ii 0)))))),
  sA 3 (adE v3 (ii 1))]
def Et:List S:=[sA 2 (adE v2 (sbE (sbE v0 (ii 1)) (mdE (fdE v4 (ii 3)) (lnE (sbE v0 (ii 1)))))),
  sA 3 (siE v3 (ii 1))]
def Es:List S:=[iF (neE (sbE v0 (ii 2)) (ss k0)) [sA 2 (adE v2 (sbE (sbE v0 (ii 2)) (mdE (fdE v4 (ii 3)) (lnE (sbE v0 (ii 2))))))]]
def Er:List S:=[.mk .ite [.nd .and [eqE (mdE v4 (ii 3)) (ii 0),.nd (.cmp .Lt) [v3,ii 4],neE (sbE v0 (ii 0)) (ss k0),neE (sbE v0 (ii 1)) (ss k0)]] Eu [.mk .ite [.nd .and [eqE (mdE v4 (ii 3)) (ii 1),.nd (.cmp .Gt) [v3,ii 0]]] Et Es]]
def Ep:List S:=[sA 2 (adE v2 (sbE (sbE v0 (ii 1)) (mdE (adE (lnE v2) v5) (lnE (sbE v0 (ii 1))))))]
def f30:Fn:=⟨2,6,.fn,[sA 2 (ss k0),
  sA 3 (ii 0),
  fS 4 v1 Er,
  fS 5 (.nd .range [v3]) Ep,
  rt v2]⟩
noncomputable def n30:List Str:=["_law_signs", "_law_cells", "_law_word", "_law_deep", "_law_cell", "_law_k"]
def f31c0:E:=v8
def Eo:E:=(.nd .tuple [adE v6 v8,v7])
def Em:E:=(.nd .tuple [adE v6 v8,adE v7 (ii 1)])
def El:E:=(.nd .tuple [adE v6 v8,siE v7 (ii 1)])
def ym:List S:=[iF (.nd (.cmp .LtE) [adE (adE v4 (ii 1)) v7,v1]) [sA 5 (adE v5 (.nd (.comp 8) [sbE v0 (ii 2),Eo]))],
  iF (.nd (.cmp .LtE) [adE (adE v4 (ii 2)) v7,v1]) [sA 5 (adE v5 (.nd (.comp 8) [sbE v0 (ii 0),Em]))],
  iF (.nd (.cmp .Gt) [v7,ii 0]) [sA 5 (adE v5 (.nd (.comp 8) [sbE v0 (ii 1),El]))]]
def Ek:List S:=[sA 3 (adE v3 (.nd (.compM [8,9]) [v2,f31c0,eqE v9 (ii 0)])),
  sA 5 (.nd .list []),
  .mk (.forM [6,7]) [v2] ym [],
  sA 2 v5]
def f31:Fn:=⟨2,10,.fn,[sA 2 (.nd .list [.nd .tuple [ss k0,ii 0]]),
  sA 3 (.nd .list []),
  fS 4 (.nd .range [adE v1 (ii 1)]) Ek,
  rt v3]⟩
noncomputable def n31:List Str:=["_law_signs", "_law_most", "_law_rows", "_law_found", "_law_size", "_law_fresh", "_law_text", "_law_deep"]
def yl:List S:=[iF (eqE v6 v1) [.mk (.oCall 0 1 24) [v5,v4] [] []]]
def Ej:List S:=[sA 4 (.nd .peek [.nd (.call 4) [.nd (.call 8) [.nd (.attr 1 1) [v0],v1,v2,v3]]]),
  .mk (.oSetF 0 1 5 22 [false,true,true,false]) [v4,ss aC,v2,v1,v3] [] [],
  .mk (.forM [5,6]) [.nd .peekN [.nd .listOf [.nd (.attr 1 3) [v0]]]] yl []]
def f32:Fn:=⟨3,7,.met,[fS 3 (.nd .peek [sbE (.nd (.meth 0 15) [.nd (.attr 1 0) [v0]]) (ii 1)]) Ej]⟩
noncomputable def n32:List Str:=["self", "outer", "inner", "sign", "later", "kept", "pairs"]
def Ei:List S:=[sA 4 (.nd .peek [.nd (.call 4) [.nd (.call 6) [.nd (.attr 1 1) [v0],v2,v3]]]),
  .mk (.oCall 0 1 24) [v1,v4] [] [],
  .mk (.oSetF 0 1 5 22 [false,true,false]) [v4,ss kOn,v2,v3] [] []]
def Eh:List S:=[sA 4 (.nd .peek [.nd (.call 4) [.nd (.call 7) [.nd (.attr 1 1) [v0],v2,v3]]]),
  .mk (.oCall 0 1 24) [v2,v4] [] [],
  .mk (.oSetF 0 1 5 22 [false,true,false]) [v4,ss a6,v2,v3] [] []]
def yk:List S:=[iF (eqE v5 v2) [.mk (.oCall 0 1 32) [v5,v6] [] []]]
def f33:Fn:=⟨3,7,.met,[fS 3 (.nd .peek [sbE (.nd (.meth 0 15) [.nd (.attr 1 0) [v0]]) (ii 2)]) Ei,
  fS 3 (.nd .peek [sbE (.nd (.meth 0 15) [.nd (.attr 1 0) [v0]]) (ii 0)]) Eh,
  .mk (.forM [5,6]) [.nd .peekN [.nd .listOf [.nd (.attr 1 3) [v0]]]] yk [],
  iF (.nd (.cmp .IsNot) [v1,nn]) [.mk (.oCall 0 1 32) [v1,v2] [] []]]⟩
noncomputable def n33:List Str:=["self", "kept", "pairs", "sign", "later", "outer", "inner"]
def Eg:List S:=[.mk .ite [eqE (sbE v2 (ii 0)) (ss aC)] [.mk (.setD 1) [sbE v2 (ii 4),.nd (.slice false true) [v2,ii 4]] [] []] [.mk (.setD 1) [.nd (.slice true false) [v2,ii 3],.nd (.slice false true) [v2,ii 3]] [] []]]
def f34:Fn:=⟨1,3,.fn,[.mk (.ownD 1) [] [] [],
  fS 2 (sbE v0 (ii 4)) Eg,
  .mk (.freezeD 1) [] [] [],
  rt v1]⟩
noncomputable def n34:List Str:=["_law_parts", "_law_found", "_law_way"]
def Ef:List S:=[.mk .ite [.nd (.cmp .In) [v5,sbE (sbE v0 (ii 0)) (ii 1)]] [.mk (.popS 3 4) [v1,ss aC,v3,v5] [] []] [sA 3 (sbE (sbE v1 (.nd .tuple [ss kOn,v3,v5])) (ii 0))]]
def Ee:List S:=[.mk .ite [.nd (.cmp .In) [v5,sbE (sbE v0 (ii 0)) (ii 0)]] [.mk (.assignM [3,6]) [sbE v1 (.nd .tuple [ss a6,v3,v5])] [] [],
  .mk (.append 4) [v6] [] []] Ef]
def f35:Fn:=⟨3,7,.fn,[sA 3 (sbE (sbE v0 (ii 2)) (ii 0)),
  .mk (.ownL 4) [] [] [],
  fS 5 v2 Ee,
  rt (.nd (.cmp .In) [v3,sbE v0 (ii 3)])]⟩
noncomputable def n35:List Str:=["_law_parts", "_law_paths_here", "_law_word", "_law_room", "_law_pile", "_law_sign", "_law_kept"]
def Ed:List S:=[.mk (.append 5) [.nd .tuple [ss kOn,v6,v7,sbE (.nd (.attr 1 5) [v0]) (.nd .tuple [ss kOn,v6,v7])]] [] []]
def Ec:List S:=[.mk (.append 5) [.nd .tuple [ss a6,v6,v7,sbE (.nd (.attr 1 5) [v0]) (.nd .tuple [ss a6,v6,v7]),v6]] [] []]
def Eb:List S:=[.mk (.append 5) [.nd .tuple [ss aC,v6,v8,v7,.nd .getD [.nd (.attr 1 5) [v0],.nd .tuple [ss aC,v6,v8,v7],ii 0]]] [] []]
def Ea:List S:=[fS 8 (.nd .range [v1]) Eb]
def D9:List S:=[fS 7 v4 Ed,
  fS 7 v2 Ec,
  fS 7 v3 Ea]
def f36:Fn:=⟨2,9,.fn,[.mk (.assignM [2,3,4]) [.nd (.meth 0 15) [.nd (.attr 1 0) [v0]]] [] [],
  .mk (.ownL 5) [] [] [],
  fS 6 (.nd .range [v1]) D9,
  .mk (.freeze 5) [] [] [],
  rt v5]⟩
noncomputable def n36:List Str:=["making", "rooms", "opening", "closing", "others", "found", "room", "sign", "kept"]
def f37:Fn:=⟨1,1,.fn,[rt (.nd .tuple [.nd (.meth 0 15) [v0],.nd (.meth 0 16) [v0],.nd (.meth 0 17) [v0],.nd (.meth 0 18) [v0],.nd (.meth 0 19) [v0]])]⟩
noncomputable def n37:List Str:=["_law_machine"]
def Bx:E:=(.nd .peek [neE (.nd (.attr 1 4) [v2]) (.nd .list [])])
def Bw:List S:=[.mk (.oPopM 2 1 4 [3,4]) [] [] [],
  .mk (.oCall 2 1 33) [v3,v4] [] []]
def yj:List S:=[sA 9 (.nd .or [v9,.nd .and [eqE v10 oo,.nd (.cmp .In) [v11,v8]]])]
def Bv:List S:=[sA 9 (bb false),
  .mk (.forM [10,11]) [v4] yj [],
  iF (neE v9 v1) [.mk (.append 7) [sbE (.nd (.attr 1 2) [v2]) v4] [] []]]
def f38:Fn:=⟨2,12,.fn,[.mk (.mkO 2 9) [v0] [] [],
  .mk (.oCall 2 1 24) [nn,.nd (.call 5) [v0]] [] [],
  .mk .while [Bx] Bw [],
  sA 5 (.nd .peek [lnE (.nd (.attr 1 2) [v2])]),
  .mk (.freezeO 2) [] [] [],
  sA 6 (.nd (.call 36) [v2,v5]),
  iF (.nd (.cmp .Gt) [lnE v6,ii 4000]) [.mk .raise [] [] []],
  .mk (.ownL 7) [] [] [],
  sA 8 (.nd (.meth 0 18) [v0]),
  fS 4 (.nd (.attr 1 2) [v2]) Bv,
  .mk (.freeze 7) [] [] [],
  rt (.nd (.call 14) [.nd (.meth 0 15) [v0],v5,.nd .list [ii 0],v7,v6])]⟩
noncomputable def n38:List Str:=["machine", "is_turned", "making", "kept", "pairs", "rooms", "ways", "ends", "old_ends", "is_end", "begun", "room"]
def f39:Fn:=⟨1,1,.fn,[rt (.nd (.call 38) [v0,bb false])]⟩
noncomputable def n39:List Str:=["machine"]
def f40:Fn:=⟨1,1,.fn,[rt (.nd (.call 38) [v0,bb true])]⟩
noncomputable def n40:List Str:=["machine"]
def D8:List S:=[sA 8 (.nd .ite [eqE (sbE v7 (ii 0)) (ss aC),.nd (.slice false true) [v7,ii 4],.nd (.slice false true) [v7,ii 3]]),
  .mk (.setD 6) [adE (.nd .peek [.nd .getD [v6,v8,ii 0]]) (ii 1),v8] [] []]
def f41:Fn:=⟨1,10,.fn,[.mk (.assignM [1,2,3,4,5]) [v0] [] [],
  .mk (.ownD 6) [] [] [],
  fS 7 v5 D8,
  sA 9 (mlE v2 (adE (adE (lnE (sbE v1 (ii 0))) (lnE (sbE v1 (ii 2)))) (mlE v2 (lnE (sbE v1 (ii 1)))))),
  .mk (.freezeD 6) [] [] [],
  rt (.nd .and [eqE (lnE v3) (ii 1),eqE (lnE v6) v9,eqE (lnE v5) v9])]⟩
noncomputable def n41:List Str:=["_law_parts", "_law_signs", "_law_rooms", "_law_starts", "_law_ends", "_law_ways", "_law_heads", "_law_way", "_law_head", "_law_due"]
def Bu:E:=(.nd (.call 21) [v13,ii 9])
def Bt:List S:=[sA 12 (.nd (.call 29) [v2,v11]),
  iF (.nd .or [neE (.nd (.call 35) [v6,sbE v10 (ii 0),v11]) v12,eqE (.nd (.call 35) [v7,sbE v10 (ii 1),v11]) v12]) [rt (bb false)]]
def f42:Fn:=⟨1,15,.fn,[sA 1 (.nd (.call 23) [.nd (.call 20) [v0,ii 0]]),
  sA 2 (.nd (.call 26) [v0,ii 1,v1,ii 4]),
  sA 3 (.nd (.call 27) [v2]),
  sA 4 (.nd (.call 39) [v3]),
  sA 5 (.nd (.call 40) [v3]),
  iF (neE (.nd (.meth 0 19) [v3]) (.nd (.meth 0 19) [.nd (.call 27) [v2]])) [rt (bb false)],
  sA 6 (.nd (.call 37) [v4]),
  sA 7 (.nd (.call 37) [v5]),
  iF (.nd .or [neE (sbE v6 (ii 0)) v1,neE (sbE v7 (ii 0)) v1,.nd .not [.nd (.call 41) [v6]],.nd .not [.nd (.call 41) [v7]]]) [rt (bb false)],
  sA 8 (sbE (.nd .list [ii 6,ii 6,ii 6,ii 5,ii 4,ii 3,ii 3]) (lnE (adE (adE (sbE v1 (ii 0)) (sbE v1 (ii 1))) (sbE v1 (ii 2))))),
  sA 9 (adE (.nd (.call 31) [v1,v8]) (.nd .list [.nd (.call 30) [v1,.nd (.comp 13) [.nd (.slice true true) [v0,ii 14,ii 34],Bu]]])),
  sA 10 (.nd .tuple [.nd (.call 34) [v6],.nd (.call 34) [v7]]),
  fS 11 v9 Bt,
  rt (bb true)]⟩
noncomputable def n42:List Str:=["_law_script", "_law_signs", "_law_parts", "_law_machine", "_law_first", "_law_second", "_law_found", "_law_other", "_law_most", "_law_words_here", "_law_paths_here", "_law_word", "_law_due"]
def fns:List Fn:=[f0,f1,f2,f3,f4,f5,f6,f7,f8,f9,f10,f11,f12,f13,f14,f15,f16,f17,f18,f19,f20,f21,f22,f23,f24,f25,f26,f27,f28,f29,f30,f31,f32,f33,f34,f35,f36,f37,f38,f39,f40,f41,f42]
def prog:Prog:=⟨fns⟩
noncomputable def newf (f:Nat):Bool:=false
noncomputable def fnM:List (Str×Nat):=[("_law_made",27),("_law_step",28),("_law_lets",29),("_law_word_by",30),("_law_words",31),("_law_paths",34),("_law_goes",35),("new_ways",36),("_law_of",37),("plain_by",38),("plain",39),("turned",40),("_law_is_plain",41),("law",42)]
def fnN:List (Str×Nat):=("are_letters",0) :: ("are_signs",1) :: ("need_signs",2) :: ("kind_of",3) :: ("shape",4) :: ("begun_pairs",5) :: ("gone_on",6) :: ("opened",7) :: ("closed",8) :: ("Making",9) :: ("is_room",10) :: ("are_rooms",11) :: ("is_way",12) :: ("are_ways",13) :: ("Machine",14) :: ("_law_cell_at",20) :: ("_law_mixed",21) :: ("_law_signs_by",23) :: ("_law_way_by",25) :: ("_law_parts_by",26) :: fnM
noncomputable def metN:List (Nat×Str×Nat):=[(0, "signs",15),(0, "rooms",16),(0, "starts",17),(0, "ends",18),(0, "ways",19),(1, "number",22),(1, "come_to",24),(1, "close_both",32),(1, "gone",33)]
noncomputable def fldN:List (List Str):=[["marks", "many", "first", "last", "told"],["machine", "old", "numbers", "met", "waiting", "made"]]
def conN:List (Str×V):=[("LETTERS",.str abc),("MOST_SIGNS",.int 4),("MOST_ROOMS",.int 40),("MOST_WAYS",.int 4000),("OUTSIDE",.tuple [.int (-1)])]
end Mine.L05
end
noncomputable section
namespace Mine.L05
open PySem PySem.Calls PyProof.Rows PySem.W
def Z:Zx:=⟨fnN,conN,fldN,metN,newf⟩
noncomputable def xN:List Addr:=[171,256]
noncomputable def Bk:List Addr:=[133,225]
noncomputable def fnA:List Addr:=[70,77,84,91,204,211,182,189,196,256,98,105,112,119,171,140,147,154,161,168,295,302,232,307,239,314,319,326,333,338,345,350,246,253,371,378,267,357,274,281,288,364,383]
noncomputable def fnB:List Addr:=[70,77,84,91,204,211,182,189,196,225,98,105,112,119,133,140,147,154,161,168,295,302,232,307,239,314,319,326,333,338,345,350,246,253,371,378,267,357,274,281,288,364,383]
def DJ:List Addr:=[3,1,171,170,176,256,255,261,197]++fnB++[69,76,83,90,203,210,181,188,195,224,97,104,111,118,132,139,146,153,160,167,294,301,231,306,238,313,318,325,332,337,344,349,245,252,370,377,266,356,273,280,287,363,382]
def nms:List (List Str):=[n0,n1,n2,n3,n4,n5,n6,n7,n8,n9,n10,n11,n12,n13,n14,n15,n16,n17,n18,n19,n20,n21,n22,n23,n24,n25,n26,n27,n28,n29,n30,n31,n32,n33,n34,n35,n36,n37,n38,n39,n40,n41,n42]
noncomputable def txt (s:Stmt):Option gy:=if h:s.ctorIdx=0 then Stmt.FunctionDef.elim (motive_2:=fun U=>Option gy) s h fun U args body U U U scope U U U=>some (body,scope,args) else none
noncomputable def Au (s:Stmt):List Stmt:=if h:s.ctorIdx=2 then Stmt.ClassDef.elim (motive_2:=fun U=>List Stmt) s h fun U U U body U U U U U U U=>body else []
def b7 (i:Nat):Option gy:=(PySem.Challenge.rw_uf010006_05.row.prog.main.body[i]?).bind txt
def l8 (c i:Nat):Option gy:=((PySem.Challenge.rw_uf010006_05.row.prog.main.body[c]?).bind fun c=>(Au c)[i]?).bind txt
def yM:List (Option gy):=[b7 8,b7 9,b7 10,b7 11,b7 26,b7 27,b7 21,b7 22,b7 23,l8 28 0,b7 15,b7 16,b7 17,b7 18,l8 19 0,l8 19 1,l8 19 2,l8 19 3,l8 19 4,l8 19 5,b7 34,b7 35,l8 28 1,b7 36,l8 28 2,b7 37,b7 38,b7 39,b7 40,b7 41,b7 42,b7 43,l8 28 3,l8 28 4,b7 46,b7 47,b7 29,b7 44,b7 30,b7 31,b7 32,b7 45,b7 48]
noncomputable def ju [BEq Str]:Nat->List Fn->List (List Str)->List (Option gy)->Bool
 | _,[],_,_=>true
 | i,fn :: r,n :: m,a :: b=>eV Z fn n (newf i) a&&ju (i+1) r m b
 | _,_,_,_=>false
def rA (K:Frag) (c:Nat):Bool:=rB K (xN.getD c 0) (fldN.getD c [])&&(findIn K (.ref (xN.getD c 0)) "__init__"==some (some (.ref (Bk.getD c 0)))&&typeIn K (.ref (Bk.getD c 0))==some (.type "function"))
def chk [BEq Str] (K:Frag):Bool:=
 (K.lookup sysModules).isSome&&(rA K 0&&(rA K 1&&(fnN.all (fun p=>nsF K mainGlobals p.1==some (some (.ref (fnA.getD p.2 0))))&&(conN.all (xM K)&&(bD.all (fun p=>nsF K mainGlobals p.1==some none)&&(fnN.all (fun p=>keepIn K (.ref (fnA.getD p.2 0))) &&
 (metN.all (fun m=>decide (m.1 < 2)&&xl K (xN.getD m.1 0) (fldN.getD m.1 []) (fun f=>fnA.getD f 0) m.2)&&fnB.all (xE K))))))))
noncomputable def du (h:Heap):List Addr->Frag
 | []=>[]
 | a :: r=>match h.get? a with
  | some o=>(a,o) :: du h r
  | none=>du h r
theorem gS (h:Heap):∀ as:List Addr,Frag.In (du h as) h
 | [],a,o,e=>nN e.symm
 | b :: r,a,o,e=>by
  unfold du at e;cases hb:h.get? b with
  | none=>rw [hb] at e; exact gS h r a o e
  | some p=>
   rw [hb] at e;by_cases q:a=b
   ·subst q;have:lookup a ((a,p) :: du h r)=some p:=List.lookup_cons_self;rw [hb]; exact this.symm.trans e
   ·have:lookup a ((b,p) :: du h r)=lookup a (du h r):=by rw [lookup_cons,beq_false_of_ne q]
    exact gS h r a o (this.symm.trans e)
def qA:Hook:=⟨Bool×List (Option gy),fun s=>(@chk mG (du s.heap DJ),fnB.map (eW (du s.heap DJ))),fun U=>(true,yM),fun U h=>∃ K:Frag,K.In h/\chk K=true/\fnB.map (eW K)=yM,fun U s e=>⟨du s.heap DJ,gS _ _,sX▸NO Prod.fst e,NO Prod.snd e⟩,fun U U U y k=>y.elim fun K x=>⟨K,fun a o e=>k a o (x.1 a o e),x.2⟩⟩
end Mine.L05
end
noncomputable section
open PySem PySem.W PyProof.Rows
namespace Mine.L05
noncomputable abbrev pg:Program:=PySem.Challenge.rw_uf010006_05.row.toRowW.prog
noncomputable def vw:Program:=view pg [1,2,3,4,6,7,8,9,10,11,13,14,15,16,17,18,19,21,22,23,25,26,27,28,29,30,31,32,34,35,36,37,38,39,40,41,42,43,44,45,46,47,48]
def vwX (s:Shared):Bool:=xlAt vw [] s&&recOk (RowW.records PySem.Challenge.rw_uf010006_05.row.toRowW) s
def E1 {α β γ:Type} {o:Option α} {f:α->β} {g:α->γ} {x:β} {y:γ} (h:o.map f=some x) (h':o.map g=some y):o.map (fun s=>(f s,g s))=some (x,y):=by
 cases o with
 | none=>(injection h; done)
 | some s=>exact NO some (Prod.ext (LE h) (LE h'))
noncomputable def pA {α β:Type} (p:α×β):α:=Prod.rec (fun a U=>a) p
noncomputable def pB {α β:Type} (p:α×β):β:=Prod.rec (fun U b=>b) p
noncomputable abbrev uC (s:Shared):=openSeen vw [] (importedModules pg.main.body) vwX true s
def D4:∀ w,(openEnds treeTable pg w 5496).map (fun s=>((uC s).1,(uC s).2.1,(uC s).2.2.1))=some (pA (openGood vw []),pA (pB (openGood vw [])),pA (pB (pB (openGood vw [])))):=fun w=>by kernel_rfl
def D3:∀ w,(openEnds treeTable pg w 5496).map (fun s=>(uC s).2.2.2)=some (pB (pB (pB (openGood vw [])))):=fun w=>by kernel_rfl
def D2:∀ w,(openEnds treeTable pg w 5496).map qA.obs=some (qA.val w):=fun w=>by kernel_rfl
def CI:LeftO pg vw [] vwX (Hook.obs qA) (Hook.val qA) 5496:=fun w=>by
 have z:=NO (Option.map fun z=>((z.1.1,z.1.2.1,z.1.2.2,z.2.1),z.2.2)) (E1 (D4 w) (E1 (D3 w) (D2 w)));rw [Option.map_map] at z;exact z
end Mine.L05
end
noncomputable section
namespace Mine
open PySem
noncomputable def j5:Sc->Value->Bool
 | .inl i,v=>Value.isInt i v
 | .inr x,v=>Value.isStrOf x v
def aS {C:Sc->Value->Prop} (h:j5 k v=true) (hi:∀ i t,C (.inl i) (.int i t)) (hs:∀ x t,C (.inr x) (.str x t)):C k v:=by
 cases k with
 | inl i=>obtain ⟨t,rfl⟩:=Value.isInt_shape h; exact hi i t
 | inr x=>obtain ⟨t,rfl⟩:=Value.isStrOf_shape h; exact hs x t
def aw (prog:Program) (w:World):KeyKind prog w Sc where
 is:=j5
 hash:=fun k=>match k with | .inl i=>hashInt i | .inr x=>hashStr w x
 inj:=fun v a b ha hb=>aS (C:=fun a v=>j5 b v=true->a=b) ha (fun i t hb=>by cases b with | inl j=>exact NO _ (Value.isInt_inj (.int i t) i j (by simp [Value.isInt]) hb) | inr y=>(injection hb; done))
  (fun x t hb=>by cases b with | inl j=>(injection hb; done) | inr y=>exact NO _ (Value.isStrOf_inj (.str x t) x y (by simp [Value.isStrOf]) hb)) hb
 byValue:=fun k v h=>aS (C:=fun U v=>carriedByValue v=true) h (fun U U=>rfl) fun U U=>rfl
 pyHash:=fun {A E s k v Q} h hq=>aS (C:=fun k v=>Q (match k with | .inl i=>hashInt i | .inr x=>hashStr w x) { s with toks:=s.toks+1 }->GM prog w A (PySem.pyHash v) Q E s) h (fun U U hq=>wpAny_pyHash_int hq) (fun U U hq=>wpAny_pyHash_str hq) hq
 eqBool:=fun {A E s a b u v Q} hu hv hq=>aS (C:=fun a u=>Q (decide (a=b)) s->GM prog w A (PySem.eqBool u v) Q E s) hu
  (fun i t hq=>aS (C:=fun b v=>Q (decide (Sum.inl i=b)) s->GM prog w A (PySem.eqBool (.int i t) v) Q E s) hv (fun j u hq=>wpAny_eqBool_int (by rw [show (i==j)=decide ((Sum.inl i:Sc)=.inl j) by by_cases e:i=j <;> simp [e]]; exact hq)) (fun y u hq=>SeqAt.EqAt.int_str i t y u _ _ _ _ (by simpa using hq)) hq)
  (fun x t hq=>aS (C:=fun b v=>Q (decide (Sum.inr x=b)) s->GM prog w A (PySem.eqBool (.str x t) v) Q E s) hv (fun j u hq=>SeqAt.EqAt.str_int x t j u _ _ _ _ (by simpa using hq)) (fun y u hq=>wpAny_eqBool_str (by rw [show decide (x=y)=decide ((Sum.inr x:Sc)=.inr y) by by_cases e:x=y <;> simp [e]]; exact hq)) hq) hq
 «strs»:=fun k x t v h=>by
  cases k with
  | inl i=>(injection h; done)
  | inr y=>exact (strKind prog w).«strs» y x t v h
end Mine
end
noncomputable section
namespace Mine
open PySem PySem.W
noncomputable def scH (w:World) (x:V):Int:=match x with
 | .int i=>hashInt i
 | .str s=>hashStr w s
 | _=>0xFCA86420
noncomputable def Dt (l:List Int):Int:=reduceHash (Builtin.Tuple.tupleHashOf l)
def lvH (w:World) (n:Nat):V->Int:=Nat.rec (motive:=fun U=>V->Int) (scH w) (fun U ih x=>match x with | .tuple l=>Dt (l.map ih) | x=>scH w x) n
def xw (w:World) (x:V):Int:=match x with
 | .tuple l=>Dt (l.map (lvH w 3))
 | _=>0
noncomputable def lvN (n:Nat):V->Nat:=Nat.rec (motive:=fun U=>V->Nat) (fun U=>1) (fun U ih x=>match x with | .tuple l=>(l.map ih).sum+1 | _=>1) n
def E7 (x:V):Nat:=match x with
 | .tuple l=>(l.map (lvN 3)).sum+1
 | _=>0
section
variable {prog:Program} {w:World} {A:Around} {E:GE} {s:Shared}
def kf (prog:Program) (w:World) (A:Around) (E:GE) (ok:V->Bool) (H:V->Int) (N:V->Nat):Prop:=∀ x v as (s:Shared) (Q:Int->Shared->Prop),ok x=true->Reads s.heap v x as->Q (H x) { s with toks:=s.toks+N x }->GM prog w A (pyHash v) Q E s
theorem k8 (hk:kf prog w A E ok H N):∀ (xs:List V) (vs:List Value) (as:List Addr) (s:Shared) (b:Array Int) (Q:Array Int->Shared->Prop),xs.all ok=true->ReadsAll s.heap vs xs as->(∀ b',b'.toList=b.toList++xs.map H->Q b' { s with toks:=s.toks+(xs.map N).sum }) ->
  GM prog w A (forIn vs b fun x r=>do let h <- pyHash x; pure PUnit.unit; pure (ForInStep.yield (r.push h))) Q E s
 | [],_,_,s,b,Q,_,r,h=>by
  cases r
  exact zC2 (h b (append_nil _).symm)
 | x :: xs,_,_,s,b,Q,ok,r,h=>by
  cases r with
  | cons r rs=>
  have ok:=zA2 ok;rw [forIn_cons];refine zC1 (zC1 (hk x _ _ s _ ok.1 r ((bPu (zC2 ?_)))));refine k8 hk xs _ _ _ _ Q ok.2 rs fun b' hb=>?_;have q:=h b' (by rw [hb,toList_push,Qa]; rfl);rw [map_cons,sum_cons,<- add_assoc] at q;exact q
def pi (hk:kf prog w A.in1 E ok H N) (hu:A.units < cLine) (ho:s.heap.get? a=some o) (hc:o.cls=.type "tuple") (hd:o.data=.seq vs n) (hl:l.all ok=true) (r:ReadsAll s.heap vs.toList l as)
  (h:Q (Dt (l.map H)) { s with toks:=s.toks+((l.map N).sum+1) }):GM prog w A (pyHash (.ref a)) Q E s:=by
 refine pyHash_slot (T:="tuple") ⟨o,ho,hc⟩ F.slot_tuple_hash F.entry_tuple_hash (F.args_tuple_hash_1 _) (beq_builtin_none _) (.inr hu) ?_;refine (?_:wpAny _ _ (Builtin.Tuple.tupleItemsOf (.ref a) >>= _) _ _ s);refine zC1 (wpAny_tupleItemsOf ho hd (zC1 ?_));rw [<- forIn_toList];refine k8 hk l _ _ s #[] _ hl r fun b hb=>?_;refine (?_:wpAny _ _ (retInt (Builtin.Tuple.tupleHashOf b.toList)) _ _ _);exact hb.symm▸zC1 (wpAny_mkInt (zC2 ⟨_,_,rfl,h⟩))
def zR:kf prog w A E aA (scH w) (fun U=>1):=fun x v as s Q ok r h=>by
 cases r with
 | int i t=>exact wpAny_pyHash_int h
 | str x t=>exact wpAny_pyHash_str h
 | _=>exact nB ok
theorem sP:∀ (n:Nat) {A:Around},A.units+n < cLine->kf prog w A E (lvV n) (lvH w n) (lvN n)
 | 0,_,_=>zR
 | n+1,A,hu=>fun x v as s Q ok r h=>by
  have hu1:A.units+1+n < cLine:=add_right_comm A.units n 1▸hu;have hu0:A.units < cLine:=Q0 (Q3 _ _) hu;cases r with
  | none=>exact pyHash_slot (T:="NoneType") rfl F.slot_NoneType_hash F.entry_NoneType_hash (F.args_NoneType_hash_1 _) (beq_builtin_none _) (.inr hu0) ((bPu (zC1 (wpAny_mkInt (zC2 ⟨_,_,rfl,h⟩)))))
  | int i t=>exact wpAny_pyHash_int h
  | str x t=>exact wpAny_pyHash_str h
  | tuple ho hc hd hl=>exact pi (sP n (A:=A.in1) hu1) hu0 ho hc hd ok hl h
  | _=>exact nB ok
def wd (hu:A.units+4 < cLine):kf prog w A E aZ (xw w) E7:=fun x v as s Q ok r h=>by
 cases r with
 | tuple ho hc hd hl=>exact pi (sP 3 (A:=A.in1) hu) (Q0 (Q3 _ _) hu) ho hc hd ok hl h
 | _=>exact nB ok
def Cd (h:aA x=true):x.canLay0=true/\x.depth<=0:=by
 cases x with
 | int=>exact ⟨rfl,le_refl _⟩
 | str=>exact ⟨h,le_refl _⟩
 | _=>exact nB h
theorem mT (hk:∀ x,ok x=true->x.canLay0=true/\x.depth<=n):∀ l:List V,l.all ok=true->canLayAll0 l=true/\depthAll l<=n
 | [],_=>⟨rfl,zero_le _⟩
 | x :: l,h=>by
  have h:=zA2 h;have q:=mT hk l h.2;exact ⟨zA3 ⟨(hk x h.1).1,q.1⟩,max_le.mpr ⟨(hk x h.1).2,q.2⟩⟩
theorem xq:∀ (n:Nat) {x:V},lvV n x=true->x.canLay0=true/\x.depth<=n
 | 0,_,h=>Cd h
 | n+1,x,h=>by
  cases x with
  | none=>exact ⟨rfl,zero_le _⟩
  | tuple l=>exact (mT (fun x=>xq n) l h).imp id succ_le_succ
  | int=>exact ⟨rfl,zero_le _⟩
  | str=>exact ⟨h,zero_le _⟩
  | _=>exact nB h
def eP (h:aZ x=true):x.canLay0=true/\x.depth<=4:=by
 cases x with
 | tuple l=>exact (mT (fun x=>xq 3) l h).imp id succ_le_succ
 | _=>exact nB h
def yD (ok:V->Bool):Prop:=∀ x y,ok x=true->ok y=true->PyData.eqv x y=true->x=y
def mK (hk:yD ok) {l:List V}:∀ m:List V,l.all ok=true->m.all ok=true->eqvAll l m=true->l=m:=by
 induction l with
 | nil=>exact fun m U U h=>by cases m with | nil=>rfl | cons=>exact nB h
 | cons x l ih=>
  intro m h1 h2 h;cases m with
  | nil=>exact nB h
  | cons y m=>
   have h1:=zA2 h1;have h2:=zA2 h2;have h:=zA2 h;rw [hk x y h1.1 h2.1 h.1,ih m h1.2 h2.2 h.2]
def xJ:yD aA:=fun x y hx hy h=>by
 cases x <;> first | exact nB hx | (cases y <;> first | exact nB h | exact nB hy | exact NO _ (Id h))
def xK (n:Nat):yD (lvV n):=by
 induction n with
 | zero=>exact xJ
 | succ n ih=>
  intro x y hx hy h;cases x <;> first | exact nB hx | (cases y <;> first | exact nB h | exact nB hy | rfl | exact NO _ (Id h) | exact NO _ (mK ih _ hx hy h))
def cH (x y:V) (hx:aZ x=true) (hy:aZ y=true):PyData.eqv x y=true ↔ x=y:=⟨fun h=>by
 cases x <;> first | exact nB hx | (cases y <;> first | exact nB hy | exact NO _ (mK (xK 3) _ hx hy h)),fun e=>e▸PySem.SeqAt.eqv_refl x (eP hx).1⟩
end
section
variable {prog:Program} {w:World} {A:Around} {E:GE} {s:Shared}
def jy (prog:Program) (w:World) (A:Around) (E:GE) (ok:V->Bool) (m:Nat):Prop:=∀ x v as (s:Shared) (Q:Bool->Shared->Prop),ok x=true->Reads s.heap v x as->Q true s->GM prog w A (eqIsQuiet m v) Q E s
def kM (hk:jy prog w A E ok m) (ho:s.heap.get? a=some o) (hc:o.cls=.type "tuple") (hd:o.data=.seq vs n) (hl:l.all ok=true) (r:ReadsAll s.heap vs.toList l as) (h:Q true s) :
  GM prog w A (eqIsQuiet (m+1) (.ref a)) Q E s:=by
 have hT:s.TypeIs (.ref a) "tuple":=⟨o,ho,hc⟩;unfold eqIsQuiet;refine zC1 (wpAny_specialOf hT F.slot_tuple_eq.lookup ?_);refine (?_:wpAny _ _ (isInstance (.ref a) (.type "tuple") >>= _) _ _ s);refine zC1 (wpAny_isInstance hT isSubtype_tuple_tuple ?_);refine bI (c:=(!true)=true) NK (zC1 (wpAny_seqItems ho hd (zC1 ?_)));refine (?_:wpAny _ _ (forIn vs _ _) _ _ s);rw [<- forIn_toList];refine wpAny_forIn_list _ (fun FT r s'=>r.1=none/\s'=s/\∃ l' as',l'.all ok=true/\ReadsAll s.heap FT l' as') _ ?_ ?_ _ _ ⟨rfl,rfl,l,as,hl,r⟩
 ·rintro v FT r s' ⟨hr,rfl,l',as',G4,rr⟩;cases rr with
  | cons r1 rs=>
   have q:=zA2 G4;refine zC1 (hk _ _ _ s' _ q.1 r1 ?_);exact bI (c:=(!true)=true) NK (zC2 ⟨rfl,rfl,_,_,q.2,rs⟩)
 ·rintro ⟨r1,r2⟩ s' ⟨hr,rfl,_⟩;obtain rfl:r1=none:=hr;exact wpAny_pure h
def c9 (hv:carriedByValue v=true) (h:Q true s):GM prog w A (eqIsQuiet m v) Q E s:=by
 rw [eqIsQuiet_byValue _ hv]; exact wpAny_pure h
def vA:jy prog w A E aA m:=fun x v as s Q ok r h=>by
 cases r with
 | int i t=>exact c9 rfl h
 | str x t=>exact c9 rfl h
 | _=>exact nB ok
theorem oQ:∀ n m:Nat,jy prog w A E (lvV n) (m+n)
 | 0,_=>vA
 | n+1,m=>fun x v as s Q ok r h=>by
  cases r with
  | none=>exact c9 rfl h
  | int i t=>exact c9 rfl h
  | str x t=>exact c9 rfl h
  | tuple ho hc hd hl=>exact kM (m:=m+n) (oQ n m) ho hc hd ok hl h
  | _=>exact nB ok
def tU:jy prog w A E aZ 8:=fun x v as s Q ok r h=>by
 cases r with
 | tuple ho hc hd hl=>exact kM (m:=7) (oQ 3 4) ho hc hd ok hl h
 | _=>exact nB ok
end
def nQ (h h':Heap) (ok:V->Bool):Prop:=∀ x v as,ok x=true->Reads h v x as->Reads h' v x as
section
variable {h h':Heap}
theorem rC (hk:nQ h h' ok):∀ (l:List V) (vs:List Value) (as:List Addr),l.all ok=true->ReadsAll h vs l as->ReadsAll h' vs l as
 | [],_,_,_,r=>by
  cases r; exact .nil
 | x :: l,_,_,q,r=>by
  cases r with
  | cons r rs=>exact .cons (hk x _ _ (zA2 q).1 r) (rC hk l _ _ (zA2 q).2 rs)
def DQ:nQ h h' aA:=fun x v as ok r=>by
 cases r with
 | int i t=>exact .int i t
 | str x t=>exact .str x t
 | _=>exact nB ok
theorem A3 (k:∀ b o vs n,h.get? b=some o->o.data=.seq vs n->h'.get? b=some o):∀ n:Nat,nQ h h' (lvV n)
 | 0=>DQ
 | n+1=>fun x v as ok r=>by
  cases r with
  | none=>exact .none
  | int i t=>exact .int i t
  | str x t=>exact .str x t
  | tuple ho hc hd hl=>exact .tuple (k _ _ _ _ ho hd) hc hd (rC (A3 k n) _ _ _ ok hl)
  | _=>exact nB ok
def CL (k:∀ b o vs n,h.get? b=some o->o.data=.seq vs n->h'.get? b=some o):nQ h h' aZ:=fun x v as ok r=>by
 cases r with
 | tuple ho hc hd hl=>exact .tuple (k _ _ _ _ ho hd) hc hd (rC (A3 k 3) _ _ _ ok hl)
 | _=>exact nB ok
end
def KIs (h:Heap) (x:V) (a:Addr):Prop:=aZ x=true/\∃ as,Reads h (.ref a) x as
theorem KIs.keep (r:KIs h x a) (k:∀ b o vs n,h.get? b=some o->o.data=.seq vs n->h'.get? b=some o):KIs h' x a:=⟨r.1,r.2.imp fun as q=>CL k x _ _ r.1 q⟩
def zm {h:Heap} {d:Addr} {o o':Obj} {es:Array DictEntry} {ep n:Nat} {vs:Array Value} (hd:o.data=.dict es ep) (ho:h.get? d=some o) (c:o'.data=.seq vs n) (e:h.get? d=some o'):False:=by
 rw [ho] at e;injection e with e
 subst e;exact nomatch hd.symm.trans c
noncomputable def dG:DecidableEq V:=fun a b=>propDecidable (a=b)
def mJ (hx:aZ x=true) (hy:aZ y=true):PyData.eqv x y=@decide (x=y) (dG x y):=by
 rw [Bool.eq_iff_iff,cH x y hx hy];exact (@decide_eq_true_iff _ (dG x y)).symm
def eQ (prog:Program) (w:World):@HeapKind prog w V dG:=
 @HeapKind.mk prog w V dG KIs (xw w) E7 (fun A=>A.units+4 < cLine)
  (fun hx hy=>hx.2.elim fun U r=>hy.2.elim fun U r'=>SeqAt.Reads.unique _ _ _ _ _ (eP hx.1).1 r r')
  (fun r ho hd hs=>r.keep fun b o' vs n e c=>(hs.2 b fun q=>zm hd ho c (q▸e)).trans e)
  (fun hu hk h=>hk.2.elim fun U r=>wd hu _ _ _ _ _ hk.1 r h)
  (fun hu hx hy h=>hx.2.elim fun U r=>hy.2.elim fun U r'=>SeqAt.eqBoolOverData _ _ _ _ _ _ _ _ _ _ _ _ r r' (eP hx.1).1 (eP hy.1).1 (Q0 (Q7 (zB1 (min_le_right _ _) (eP hy.1).2) _) hu) ((mJ hx.1 hy.1).symm▸h))
  (fun hk h=>hk.2.elim fun U r=>tU _ _ _ _ _ hk.1 r h)
end Mine
end
noncomputable section
namespace Mine
open PySem PySem.Calls PyProof.Rows PySem.W
section
def ao (h h':Heap):Prop:=∀ b o,h.get? b=some o->h'.get? b=some o
def aL (h:Heap) (a:Addr):Prop:=∃ o,h.get? a=some o
theorem ao.refl (h:Heap):ao h h:=fun U U e=>e
theorem ao.trans (x:ao Gf Hn) (y:ao Hn Gy):ao Gf Gy:=fun b o e=>y b o (x b o e)
theorem ao.live (x:ao h h'):aL h a->aL h' a:=fun q=>q.elim fun o e=>⟨o,x a o e⟩
def lB (h:Heap) (v:Value):Prop:=∀ a b,v=.ref a->aL h b->b < a
theorem lB.le (x:lB h' v) (k:∀ b,aL h b->aL h' b):lB h v:=fun a b e l=>x a b e (k b l)
def eB (q:h.objs.size<=n):lB h (.ref n):=fun a b e Ib=>Ib.elim fun o l=>by (injection e with e; subst e); exact Q1 (lt_size l) q
def ak (h:Heap):h.get? h.objs.size=none:=by
 cases e:h.get? h.objs.size with
 | none=>rfl
 | some o=>exact absurd (lt_size e) (lt_irrefl _)
def aK (l:aL h a->aL h' a) (e:h'.get? a=none):h.get? a=none:=by
 cases q:h.get? a with
 | none=>rfl
 | some o=>obtain ⟨o',e'⟩:=l ⟨o,q⟩; rw [e] at e'; (injection e'; done)
def am (h:Heap) (o:Obj):ao h (h.push o):=fun U U e=>Q4 _ e
structure Gl where
 prog:Program
 w:World
 h0:Heap
 mg:Str->Option Value
 mb:Str->Option Value
 fn:Nat->Addr
 C:Nat->Addr
 K:Frag
 flds:Nat->List Str
 os:OsState
 P:Prog
 newf:Nat->Bool
 fns:List (Str×Nat)
 cons:List (Str×V)
structure Base (g:Gl) (s:Shared):Prop where
 stays:ao g.h0 s.heap
 os:s.os=g.os
 gens:s.gens=#[]
def bZ (g:Gl) (c:Nat) (o:Obj) (ws:List Value):Prop:=o.ExactDict/\∃ es n,o.data=.dict es n/\es.toList.map (·.val)=ws/\∀ (j:Nat) e,es[j]?=some e->∃ x t,(g.flds c)[j]?=some x/\e.key=.str x t
def DOk (w:World) (FP:List (V×V)) (es:Array DictEntry):Prop:=dkV FP=true/\(FP.map (·.1)).Nodup/\es.toList.map (·.hash)=FP.map fun p=>xw w p.1
mutual
inductive Rp (g:Gl) (bad:Addr->Prop) (h:Heap):Value->V->Prop
 | none:Rp g bad h .none .none
 | bool (b:Bool):Rp g bad h (.bool b) (.bool b)
 | int (i:Int) (t:Tok):Rp g bad h (.int i t) (.int i)
 | str (x:Str) (t:Tok):Rp g bad h (.str x t) (.str x)
 | list {a:Addr} {o:Obj} {vs:Array Value} {n:Nat} {l:List V}:¬ bad a->h.get? a=some o->o.cls=.type "list"/\o.dict=none->o.data=.seq vs n->RpAll g bad h vs.toList l->Rp g bad h (.ref a) (.list l)
 | tuple {a:Addr} {o:Obj} {vs:Array Value} {n:Nat} {l:List V}:¬ bad a->h.get? a=some o->o.cls=.type "tuple"->o.data=.seq vs n->RpAll g bad h vs.toList l->Rp g bad h (.ref a) (.tuple l)
 | inst {a d:Addr} {c:Nat} {o:Obj} {ws:List Value} {FP:List (V×V)} {l:List V}:¬ bad a->¬ bad d->h.get? a=some (instObj (g.C c) d)->h.get? d=some o->bZ g c o ws->ikO FP=some c->FP.map (·.2)=l->RpAll g bad h ws l->Rp g bad h (.ref a) (.dict FP)
 | dict {a:Addr} {o:Obj} {es:Array DictEntry} {n:Nat} {FP:List (V×V)} {l m:List V}:¬ bad a->a≠sysModules->h.get? a=some o->o.ExactDict->o.data=.dict es n->DOk g.w FP es->FP.map (·.1)=l->FP.map (·.2)=m->RpAll g bad h (es.toList.map (·.key)) l->RpAll g bad h (es.toList.map (·.val)) m->Rp g bad h (.ref a) (.dict FP)
inductive RpAll (g:Gl) (bad:Addr->Prop) (h:Heap):List Value->List V->Prop
 | nil:RpAll g bad h [] []
 | cons {v:Value} {vs:List Value} {x:V} {l:List V}:Rp g bad h v x->RpAll g bad h vs l->RpAll g bad h (v :: vs) (x :: l)
end
section
variable {g:Gl} {bad FR:Addr->Prop} {h h':Heap} {v:Value} {x:V} {vs ws:List Value} {l m:List V}
def bK (bad FR:Addr->Prop) (h h':Heap):Prop:=∀ a o,h.get? a=some o->¬ bad a->¬ FR a/\h'.get? a=some o
theorem Rp.ind {C:Value->V->Prop} {D:List Value->List V->Prop} (none:C .none .none) (bool:∀ b,C (.bool b) (.bool b)) (int:∀ i t,C (.int i t) (.int i)) (str:∀ x t,C (.str x t) (.str x))
  (list:∀ a (o:Obj) vs n l,¬ bad a->h.get? a=some o->o.cls=.type "list"/\o.dict=.none->o.data=.seq vs n->RpAll g bad h vs.toList l->D vs.toList l->C (.ref a) (.list l))
  (tuple:∀ a (o:Obj) vs n l,¬ bad a->h.get? a=some o->o.cls=.type "tuple"->o.data=.seq vs n->RpAll g bad h vs.toList l->D vs.toList l->C (.ref a) (.tuple l))
  (inst:∀ a d c o ws FP,¬ bad a->¬ bad d->h.get? a=some (instObj (g.C c) d)->h.get? d=some o->bZ g c o ws->ikO FP=some c->RpAll g bad h ws (FP.map (·.2))->D ws (FP.map (·.2))->C (.ref a) (.dict FP))
  (dict:∀ a (o:Obj) es n FP,¬ bad a->a≠sysModules->h.get? a=some o->o.ExactDict->o.data=.dict es n->DOk g.w FP es->RpAll g bad h (es.toList.map (·.key)) (FP.map (·.1))->RpAll g bad h (es.toList.map (·.val)) (FP.map (·.2))->D (es.toList.map (·.key)) (FP.map (·.1))->D (es.toList.map (·.val)) (FP.map (·.2))->C (.ref a) (.dict FP))
  (nil:D [] []) (cons:∀ v vs x l,Rp g bad h v x->RpAll g bad h vs l->C v x->D vs l->D (v :: vs) (x :: l)):(Rp g bad h v x->C v x)/\(RpAll g bad h vs l->D vs l):=by
 constructor
 ·exact fun r=>Rp.rec (motive_1:=fun v x U=>C v x) (motive_2:=fun vs l U=>D vs l) none bool int str (fun a b c d e i=>list _ _ _ _ _ a b c d e i) (fun a b c d e i=>tuple _ _ _ _ _ a b c d e i) (fun a b c d e k q r i=>by subst q; exact inst _ _ _ _ _ _ a b c d e k r i) (fun a f b c d e q1 q2 r1 r2 i j=>by subst q1 q2; exact dict _ _ _ _ _ a f b c d e r1 r2 i j) nil (fun a b c d=>cons _ _ _ _ a b c d) r
 ·exact fun r=>RpAll.rec (motive_1:=fun v x U=>C v x) (motive_2:=fun vs l U=>D vs l) none bool int str (fun a b c d e i=>list _ _ _ _ _ a b c d e i) (fun a b c d e i=>tuple _ _ _ _ _ a b c d e i) (fun a b c d e k q r i=>by subst q; exact inst _ _ _ _ _ _ a b c d e k r i) (fun a f b c d e q1 q2 r1 r2 i j=>by subst q1 q2; exact dict _ _ _ _ _ a f b c d e r1 r2 i j) nil (fun a b c d=>cons _ _ _ _ a b c d) r
def w4 (k:bK bad FR h h'):(Rp g bad h v x->Rp g FR h' v x)/\(RpAll g bad h vs l->RpAll g FR h' vs l):=
 Rp.ind .none .bool .int .str (fun a o vs n l hb ha hc hd U ih=>let q:=k a o ha hb; .list q.1 q.2 hc hd ih) (fun a o vs n l hb ha hc hd U ih=>let q:=k a o ha hb; .tuple q.1 q.2 hc hd ih)
  (fun a d c o ws FP hb HA ha hd hf hi r ih=>let q:=k a _ ha hb; let q':=k d o hd HA; .inst q.1 q'.1 q.2 q'.2 hf hi rfl ih)
  (fun a o es n FP hb hm ha hc hd he U U i j=>let q:=k a o ha hb; .dict q.1 hm q.2 hc hd he rfl rfl i j) .nil fun U U U U U U i j=>.cons i j
theorem Rp.map (r:Rp g bad h v x) (k:bK bad FR h h'):Rp g FR h' v x:=(w4 (vs:=[]) (l:=[]) k).1 r
theorem RpAll.map (r:RpAll g bad h vs l) (k:bK bad FR h h'):RpAll g FR h' vs l:=(w4 (v:=.none) (x:=.none) k).2 r
theorem ao.mapK (k:ao h h'):bK bad bad h h':=fun a o e n=>⟨n,k a o e⟩
theorem Rp.keep (r:Rp g bad h v x) (k:ao h h'):Rp g bad h' v x:=r.map k.mapK
theorem RpAll.keep (r:RpAll g bad h vs l) (k:ao h h'):RpAll g bad h' vs l:=r.map k.mapK
theorem RpAll.ind {D:List Value->List V->Prop} (r:RpAll g bad h vs l) (n:D [] []) (c:∀ v vs x l,Rp g bad h v x->RpAll g bad h vs l->D vs l->D (v :: vs) (x :: l)):D vs l:=
 (Rp.ind (v:=.none) (x:=.none) (C:=fun U U=>True) trivial (fun U=>trivial) (fun U U=>trivial) (fun U U=>trivial) (fun U U U U U U U U U U U=>trivial) (fun U U U U U U U U U U U=>trivial) (fun U U U U U U U U U U U U U U=>trivial) (fun U U U U U U U U U U U U U U U=>trivial) n fun v vs x l r rs U i=>c v vs x l r rs i).2 r
theorem RpAll.length (r:RpAll g bad h vs l):vs.length=l.length:=r.ind (D:=fun vs l=>vs.length=l.length) rfl fun U U U U U U i=>NO (· + 1) i
theorem RpAll.get {i:Nat} (r:RpAll g bad h vs l):l[i]?=some x->∃ v,vs[i]?=some v/\Rp g bad h v x:=by
 refine r.ind (D:=fun vs l=>∀ i,l[i]?=some x->∃ v,vs[i]?=some v/\Rp g bad h v x) (fun i e=>absurd (List.getElem?_nil (i:=i)▸e) nofun) (fun v vs y l r U ih i e=>?_) i;cases i with
 | zero=>(injection e with e; subst e); exact ⟨_,rfl,r⟩
 | succ i=>exact ih i e
theorem RpAll.append (r:RpAll g bad h vs l) (q:RpAll g bad h ws m):RpAll g bad h (vs++ws) (l++m):=r.ind (D:=fun vs l=>RpAll g bad h (vs++ws) (l++m)) q fun U U U U r U i=>.cons r i
theorem RpAll.take (n:Nat) (r:RpAll g bad h vs l):RpAll g bad h (vs.take n) (l.take n):=by
 refine r.ind (D:=fun vs l=>∀ n,RpAll g bad h (vs.take n) (l.take n)) (fun n=>?_) (fun v vs x l r U ih n=>?_) n
 ·rw [take_nil,take_nil]; exact .nil
 ·cases n with
  | zero=>exact .nil
  | succ n=>exact .cons r (ih n)
theorem RpAll.drop (n:Nat) (r:RpAll g bad h vs l):RpAll g bad h (vs.drop n) (l.drop n):=by
 refine r.ind (D:=fun vs l=>∀ n,RpAll g bad h (vs.drop n) (l.drop n)) (fun n=>?_) (fun v vs x l r rs ih n=>?_) n
 ·rw [drop_nil,drop_nil]; exact .nil
 ·cases n with
  | zero=>exact .cons r rs
  | succ n=>exact ih n
def vm:(Rp g bad h v x->x.canLay0=true->∃ as,Reads h v x as)/\(RpAll g bad h vs l->canLayAll0 l=true->∃ as,ReadsAll h vs l as):=
 Rp.ind (C:=fun v x=>x.canLay0=true->∃ as,Reads h v x as) (D:=fun vs l=>canLayAll0 l=true->∃ as,ReadsAll h vs l as) (fun U=>⟨_,.none⟩) (fun b U=>⟨_,.bool b⟩) (fun i t U=>⟨_,.int i t⟩) (fun x t U=>⟨_,.str x t⟩)
  (fun a o vs n l hb ha hc hd U ih q=>(ih q).elim fun U r=>⟨_,.list ha hc.1 hd r⟩) (fun a o vs n l hb ha hc hd U ih q=>(ih q).elim fun U r=>⟨_,.tuple ha hc hd r⟩) (fun U U U U U U U U U U U U U U q=>nB q) (fun U U U U U U U U U U U U U U U q=>nB q) (fun U=>⟨_,.nil⟩)
  fun v vs x l U U i j q=>by
   have q:=zA2 q;obtain ⟨as,r⟩:=i q.1;obtain ⟨bs,rs⟩:=j q.2;exact ⟨_,.cons r rs⟩
theorem Rp.reads (r:Rp g bad h v x) (q:x.canLay0=true):∃ as,Reads h v x as:=(vm (vs:=[]) (l:=[])).1 r q
@[elab_as_elim] theorem Rp.none_elim {C:Value->Prop} (r:Rp g bad h v .none) (k:C .none):C v:=by cases r; exact k
@[elab_as_elim] theorem Rp.bool_elim {C:Value->Prop} {b:Bool} (r:Rp g bad h v (.bool b)) (k:C (.bool b)):C v:=by cases r; exact k
@[elab_as_elim] theorem Rp.int_elim {C:Value->Prop} {i:Int} (r:Rp g bad h v (.int i)) (k:∀ t,C (.int i t)):C v:=by cases r; exact k _
@[elab_as_elim] theorem Rp.str_elim {C:Value->Prop} {x:Str} (r:Rp g bad h v (.str x)) (k:∀ t,C (.str x t)):C v:=by cases r with | str _ t=>exact k t
@[elab_as_elim] theorem Rp.list_elim {C:Value->Prop} (r:Rp g bad h v (.list l)) (k:∀ a (o:Obj) vs n,¬ bad a->h.get? a=some o->o.cls=.type "list"/\o.dict=Option.none->o.data=.seq vs n->RpAll g bad h vs.toList l->C (.ref a)):C v:=by
 cases r with | list hb ha hc hd hl=>exact k _ _ _ _ hb ha hc hd hl
@[elab_as_elim] theorem Rp.tuple_elim {C:Value->Prop} (r:Rp g bad h v (.tuple l)) (k:∀ a (o:Obj) vs n,¬ bad a->h.get? a=some o->o.cls=.type "tuple"->o.data=.seq vs n->RpAll g bad h vs.toList l->C (.ref a)):C v:=by
 cases r with | tuple hb ha hc hd hl=>exact k _ _ _ _ hb ha hc hd hl
def Bm (q:ikO FP=some c) (d:dkV FP=true):False:=by
 cases FP with
 | nil=>exact nN q.symm
 | cons p r=>
  obtain ⟨x,y⟩:=p;cases x with
  | int=>exact nomatch (Q6.mp d _ (.head _):false=true)
  | _=>exact nN q.symm
@[elab_as_elim] theorem Rp.inst_elim {C:Value->Prop} {FP:List (V×V)} (r:Rp g bad h v (.dict FP)) (q:ikO FP=some c) (k:∀ a d o ws,¬ bad a->¬ bad d->h.get? a=some (instObj (g.C c) d)->h.get? d=some o->bZ g c o ws->RpAll g bad h ws (FP.map (·.2))->C (.ref a)):C v:=by
 cases r with
 | inst hb HA ha hd hf e' e hl=>subst e; obtain rfl:=LE (e'.symm.trans q); exact k _ _ _ _ hb HA ha hd hf hl
 | dict _ _ _ _ _ he=>exact (Bm q he.1).elim
@[elab_as_elim] theorem Rp.dict_elim {C:Value->Prop} {FP:List (V×V)} (r:Rp g bad h v (.dict FP)) (q:dkV FP=true) (k:∀ a (o:Obj) es n,¬ bad a->a≠sysModules->h.get? a=some o->o.ExactDict->o.data=.dict es n->DOk g.w FP es->RpAll g bad h (es.toList.map (·.key)) (FP.map (·.1))->RpAll g bad h (es.toList.map (·.val)) (FP.map (·.2))->C (.ref a)):C v:=by
 cases r with
 | inst _ _ _ _ _ q'=>exact (Bm q' q).elim
 | dict hb hm ha hc hd he e1 e2 r1 r2=>subst e1 e2; exact k _ _ _ _ hb hm ha hc hd he r1 r2
end
end
inductive Pl where
 | ns (a:Addr) (x:Str)
 | cell (c:Addr)
 | off
noncomputable def Pl.addr:Pl->Option Addr
 | .ns a _=>some a
 | .cell c=>some c
 | .off=>none
noncomputable def ay (h:Heap):Pl->Option Value->Prop
 | .ns a x,v=>∃ m,h.Ns a m/\m x=v
 | .cell c,v=>h.IsCell c v
 | .off,v=>v=none
structure Fx where
 g:Gl
 A:Around
 env:Env
 ρ:List (Str×Nat)
 pl:Nat->Pl
 Mo:Addr->Prop
 nf:Nat
 ns:Nat
 d:Nat
 nw:Bool
structure Ct where
 fx:Fx
 oa:Nat->List (List Addr)
 G:Gs
def Ct.own (Φ:Ct) (a:Addr):Prop:=(∃ k,(Φ.fx.pl k).addr=some a)\/∃ k,a∈(Φ.oa k).flatten
def Ct.bad (Φ:Ct) (a:Addr):Prop:=Φ.fx.Mo a\/Φ.own a
inductive OwnLAt (g:Gl) (bad:Addr->Prop) (h:Heap) (a:Addr) (l:List V):Prop
 | mk (o:Obj) (vs:Array Value) (n:Nat) (ho:h.get? a=some o) (hc:o.cls=.type "list"/\o.dict=none) (hd:o.data=.seq vs n) (hl:RpAll g bad h vs.toList l):OwnLAt g bad h a l
inductive OwnDAt (g:Gl) (bad:Addr->Prop) (h:Heap) (a:Addr) (l:List (V×V)):Prop
 | mk (o:Obj) (es:Array DictEntry) (n:Nat) (ho:h.get? a=some o) (hc:o.ExactDict) (hd:o.data=.dict es n) (hk:DOk g.w l es) (r1:RpAll g bad h (es.toList.map (·.key)) (l.map (·.1))) (r2:RpAll g bad h (es.toList.map (·.val)) (l.map (·.2))):OwnDAt g bad h a l
inductive FldAt (g:Gl) (bad:Addr->Prop) (h:Heap):Value->Fld->List Addr->Prop
 | val {w:Value} {x:V}:Rp g bad h w x->FldAt g bad h w (.val x) []
 | L {a:Addr} {l:List V}:OwnLAt g bad h a l->FldAt g bad h (.ref a) (.L l) [a]
 | D {a:Addr} {l:List (V×V)}:OwnDAt g bad h a l->FldAt g bad h (.ref a) (.D l) [a]
inductive FldsAt (g:Gl) (bad:Addr->Prop) (h:Heap):List Value->List Fld->List (List Addr)->Prop
 | nil:FldsAt g bad h [] [] []
 | cons {w:Value} {f:Fld} {fa:List Addr} {ws:List Value} {fs:List Fld} {F:List (List Addr)}:FldAt g bad h w f fa->FldsAt g bad h ws fs F->FldsAt g bad h (w :: ws) (f :: fs) (fa :: F)
inductive OwnIAt (g:Gl) (bad:Addr->Prop) (h:Heap) (a:Addr) (F:List (List Addr)) (u:Value) (o:Ob):Prop
 | mk (b:Addr) (od:Obj) (ws:List Value) (e:u=.ref b) (nb:¬ bad b) (hb:h.get? b=some (instObj (g.C o.c) a)) (ho:h.get? a=some od) (hf:bZ g o.c od ws) (hl:FldsAt g bad h ws o.fs F) (nd:(a :: F.flatten).Nodup):OwnIAt g bad h a F u o
inductive ObjAt (g:Gl) (bad:Addr->Prop) (h:Heap) (F:List (List Addr)) (u:Value) (o:Ob):Prop
 | mk (b a:Addr) (od:Obj) (ws:List Value) (e:u=.ref b) (nb:¬ bad b) (na:¬ bad a) (hb:h.get? b=some (instObj (g.C o.c) a)) (ho:h.get? a=some od) (hf:bZ g o.c od ws) (hl:FldsAt g bad h ws o.fs F) (nd:F.flatten.Nodup):ObjAt g bad h F u o
noncomputable def bz (g:Gl) (bad:Addr->Prop) (h:Heap) (oak:List (List Addr)) (v:Option Value):Slot->Prop
 | .unset=>oak=[]/\v=none
 | .junk=>oak=[]/\∃ u,v=some u
 | .v x=>oak=[]/\∃ u,v=some u/\Rp g bad h u x
 | .ownL l=>∃ a,oak=[[a]]/\v=some (.ref a)/\OwnLAt g bad h a l
 | .ownD l=>∃ a,oak=[[a]]/\v=some (.ref a)/\OwnDAt g bad h a l
 | .ownI o=>∃ a F u,oak=[a] :: F/\v=some u/\OwnIAt g bad h a F u o
 | .obj o=>∃ u,v=some u/\ObjAt g bad h oak u o
inductive CallP (g:Gl) (bad:Addr->Prop) (f:Nat) (s:Shared) (K:V->Prop) (v:Value) (s':Shared):Prop
 | mk:Base g s'->ao s.heap s'.heap->∀ y,K y->Rp g bad s'.heap v y->(g.newf f=true->lB s.heap v)->CallP g bad f s K v s'
def mP (bad:Addr->Prop) (F:List (List Addr)) (a:Addr):Prop:=bad a\/a∈F.flatten
inductive CallM (g:Gl) (bad:Addr->Prop) (s:Shared) (K:Ob->Prop) (v:Value) (s':Shared):Prop
 | mk:Base g s'->ao s.heap s'.heap->∀ o F,K o->ObjAt g (mP bad F) s'.heap F v o->(∀ a∈F.flatten,s.heap.get? a=none/\aL s'.heap a)->CallM g bad s K v s'
inductive CallO (g:Gl) (bad:Addr->Prop) (F:List (List Addr)) (u:Value) (s:Shared) (K:V->Ob->Prop) (v:Value) (s':Shared):Prop
 | mk:Base g s'->(∀ b o,s.heap.get? b=some o->b∉F.flatten->s'.heap.get? b=some o)->∀ y o,K y o->Rp g (mP bad F) s'.heap v y->ObjAt g (mP bad F) s'.heap F u o->(∀ a∈F.flatten,aL s'.heap a)->CallO g bad F u s K v s'
structure CallC (g:Gl) (d:Nat) (bad:Addr->Prop) (A:Around) (s:Shared):Prop where
 hand:A.handled=none
 room:A.depth+2 * d < 990
 units:A.units+4 * d+100 < cLine
 base:Base g s
 live:∀ a,bad a->aL s.heap a
 zero:∀ a,bad a->g.h0.get? a=none
structure CallOk (g:Gl) (cf:CallF) (d:Nat):Prop where
 p:∀ f args K A s bad vals E,cf.p f args K->CallC g d bad A s->RpAll g bad s.heap vals args->wpAny (model g.prog g.w) A (call (.ref (g.fn f)) vals) (CallP g bad f s K) E s
 m:∀ f args K A s bad vals E,cf.m f args K->CallC g d bad A s->RpAll g bad s.heap vals args->wpAny (model g.prog g.w) A (call (.ref (g.fn f)) vals) (CallM g bad s K) E s
 o:∀ f o args K A s bad F vals u E,cf.o f o args K->CallC g d (mP bad F) A s->(∀ a∈F.flatten,¬ bad a)->ObjAt g (mP bad F) s.heap F u o->RpAll g (mP bad F) s.heap vals args->wpAny (model g.prog g.w) A (call (.ref (g.fn f)) (u :: vals)) (CallO g bad F u s K) E s
structure ClsOk (g:Gl) (c:Nat):Prop where
 hga:findIn g.K (.ref (g.C c)) "__getattribute__"=some (some (.builtin "object.__getattribute__"))
 hgk:findIn g.K (.ref (g.C c)) "__getattr__"=some none
 hsa:findIn g.K (.ref (g.C c)) "__setattr__"=some (some (.builtin "object.__setattr__"))
 over:plainOver g.K (g.C c)=true
 hdict:(clsIn g.K (g.C c)).any (·.hasDict)=true
 flds:∀ x∈g.flds c,findIn g.K (.ref (g.C c)) x=some none
 makes:makesIn g.K (g.C c)=true
 nodup:(g.flds c).Nodup
 few:(g.flds c).length<=1000
structure Ground (g:Gl):Prop where
 main:g.h0.Ns mainGlobals g.mg
 blt:g.h0.Ns builtinsNs g.mb
 nolim:g.h0.NoLimit
 sysm:aL g.h0 sysModules
 frag:g.K.In g.h0
 cls:∀ c,c < 2->ClsOk g c
 fns:∀ x f,g.fns.lookup x=some f->g.mg x=some (.ref (g.fn f))
 cons:∀ x v,g.cons.lookup x=some v->∃ u,g.mg x=some u/\∀ (bad:Addr->Prop) h,ao g.h0 h->(∀ a,bad a->g.h0.get? a=none)->Rp g bad h u v
 blts:∀ x v,bD.lookup x=some v->g.mg x=none/\g.mb x=some v
structure FxOk (fx:Fx):Prop where
 gr:Ground fx.g
 hand:fx.A.handled=none
 kind:fx.env.scope.kind=.function
 globals:fx.env.globals=mainGlobals
 builtins:fx.env.builtins=builtinsNs
 vis:∀ x k,fx.ρ.lookup x=some k->(fx.env.kindOf x=some .local/\fx.pl k=.ns fx.env.locals x)\/((fx.env.kindOf x=some .cell\/fx.env.kindOf x=some .free)/\∃ c,fx.env.cells.lookup x=some c/\fx.pl k=.cell c)
 inj:∀ k j,fx.pl k=fx.pl j->fx.pl k≠.off->k=j
 apart:∀ k j a x c,fx.pl k=.ns a x->fx.pl j=.cell c->a≠c
 offs:∀ k,fx.nf<=k->fx.pl k=.off
 nfs:fx.nf<=fx.ns
 room:fx.A.depth+2 * fx.d < 990
 units:fx.A.units+4 * fx.d+100 < cLine
 call:CallOk fx.g (aj fx.g.P fx.d) fx.d
 mo0:∀ a,fx.Mo a->fx.g.h0.get? a=none
structure Inv (Φ:Ct) (s:Shared):Prop where
 ok:FxOk Φ.fx
 base:Base Φ.fx.g s
 slot:∀ k,∃ v,ay s.heap (Φ.fx.pl k) v/\bz Φ.fx.g Φ.bad s.heap (Φ.oa k) v (getSlot Φ.G k)
 new:∀ a,Φ.own a->aL s.heap a/\Φ.fx.g.h0.get? a=none/\¬ Φ.fx.Mo a
 inj:∀ k j a,a∈(Φ.oa k).flatten->a∈(Φ.oa j).flatten->k=j
 off:∀ k a,a∈(Φ.oa k).flatten->∀ j,(Φ.fx.pl j).addr≠some a
 gl:Φ.G.length=Φ.fx.ns
 mo:∀ a,Φ.fx.Mo a->aL s.heap a
section
variable {g:Gl} {Φ:Ct} {s s' s₁:Shared} {h h':Heap} {bad FR:Addr->Prop} {α β γ δ:Type}
theorem ay.keep (k:ao h h') (r:ay h p v):ay h' p v:=by
 cases p with
 | ns a x=>obtain ⟨m,hn,hv⟩:=r; exact ⟨m,hn.keeps k,hv⟩
 | cell c=>obtain ⟨o,ho,hd⟩:=r; exact ⟨o,k c o ho,hd⟩
 | off=>exact r
theorem OwnLAt.map (r:OwnLAt g bad h a l) (k:bK bad FR h h') (t:∀ o,h.get? a=some o->h'.get? a=some o):OwnLAt g FR h' a l:=by
 cases r with | mk o vs n ho hc hd hl=>exact ⟨o,vs,n,t o ho,hc,hd,hl.map k⟩
theorem OwnDAt.map (r:OwnDAt g bad h a l) (k:bK bad FR h h') (t:∀ o,h.get? a=some o->h'.get? a=some o):OwnDAt g FR h' a l:=by
 cases r with | mk o es n ho hc hd hk r1 r2=>exact ⟨o,es,n,t o ho,hc,hd,hk,r1.map k,r2.map k⟩
theorem FldAt.map (r:FldAt g bad h w f fa) (k:bK bad FR h h') (t:∀ a∈fa,∀ o,h.get? a=some o->h'.get? a=some o):FldAt g FR h' w f fa:=by
 cases r with
 | val x=>exact .val (x.map k)
 | L x=>exact .L (x.map k (t _ (.head _)))
 | D x=>exact .D (x.map k (t _ (.head _)))
theorem FldsAt.map (r:FldsAt g bad h ws fs F) (k:bK bad FR h h'):(∀ a∈F.flatten,∀ o,h.get? a=some o->h'.get? a=some o)->FldsAt g FR h' ws fs F:=by
 induction r with
 | nil=>exact fun U=>.nil
 | cons x _ ih=>exact fun t=>.cons (x.map k fun a m=>t a (Qc _ m)) (ih fun a m=>t a (mem_append_right _ m))
theorem ObjAt.map (r:ObjAt g bad h F u o) (k:bK bad FR h h') (t:∀ a∈F.flatten,∀ o,h.get? a=some o->h'.get? a=some o):ObjAt g FR h' F u o:=by
 cases r with | mk b a od ws e nb na hb ho hf hl nd=>exact ⟨b,a,od,ws,e,(k _ _ hb nb).1,(k _ _ ho na).1,(k _ _ hb nb).2,(k _ _ ho na).2,hf,hl.map k t,nd⟩
theorem bz.map (r:bz g bad h oak v sl) (k:bK bad FR h h') (t:∀ a∈oak.flatten,∀ o,h.get? a=some o->h'.get? a=some o):bz g FR h' oak v sl:=by
 cases sl with
 | unset=>exact r
 | junk=>exact r
 | v x=>obtain ⟨e,u,q,rp⟩:=r; exact ⟨e,u,q,rp.map k⟩
 | ownL l=>obtain ⟨a,rfl,q,x⟩:=r; exact ⟨a,rfl,q,x.map k (t a (.head _))⟩
 | ownD l=>obtain ⟨a,rfl,q,x⟩:=r; exact ⟨a,rfl,q,x.map k (t a (.head _))⟩
 | ownI o=>obtain ⟨a,F,u,rfl,q,b,od,ws,e,nb,hb,ho,hf,hl,nd⟩:=r; exact ⟨a,F,u,rfl,q,b,od,ws,e,(k _ _ hb nb).1,(k _ _ hb nb).2,t a (.head _) _ ho,hf,hl.map k fun a m=>t a (.tail _ m),nd⟩
 | obj o=>obtain ⟨u,q,x⟩:=r; exact ⟨u,q,x.map k t⟩
theorem Inv.keep (I:Inv Φ s) (B:Base Φ.fx.g s') (k:ao s.heap s'.heap):Inv Φ s' where
 ok:=I.ok
 base:=B
 slot:=fun j=>by obtain ⟨v,r,x⟩:=I.slot j; exact ⟨v,r.keep k,x.map k.mapK fun a U o e=>k a o e⟩
 new:=fun a q=>by obtain ⟨x,y⟩:=I.new a q; exact ⟨k.live x,y⟩
 inj:=I.inj
 off:=I.off
 gl:=I.gl
 mo:=fun a q=>k.live (I.mo a q)
theorem Inv.bad0 (I:Inv Φ s) (b:Φ.bad a):Φ.fx.g.h0.get? a=none:=b.elim (I.ok.mo0 a) fun b=>(I.new a b).2.1
theorem Inv.badLive (I:Inv Φ s) (b:Φ.bad a):aL s.heap a:=b.elim (I.mo a) fun b=>(I.new a b).1
abbrev Ct.wp (Φ:Ct) (t:Sem α) (Q:α->Shared->Prop) (s:Shared):Prop:=∀ E,wpAny (model Φ.fx.g.prog Φ.fx.g.w) Φ.fx.A t Q E s
inductive Post (Φ:Ct) (R:Heap->α->β->Prop) (s:Shared) (K:β->Prop) (a:α) (s':Shared):Prop
 | mk:Base Φ.fx.g s'->ao s.heap s'.heap->∀ y,K y->R s'.heap a y->Post Φ R s K a s'
def EvR (Φ:Ct) (R:Heap->α->β->Prop) (t:Sem α) (d:(β->Prop)->Prop):Prop:=∀ K s,d K->Inv Φ s->Φ.wp t (Post Φ R s K) s
noncomputable abbrev Ct.rp (Φ:Ct):Heap->Value->V->Prop:=Rp Φ.fx.g Φ.bad
noncomputable abbrev Ct.rps (Φ:Ct):Heap->List Value->List V->Prop:=RpAll Φ.fx.g Φ.bad
abbrev Ev (Φ:Ct) (t:Sem Value) (d:(V->Prop)->Prop):Prop:=EvR Φ Φ.rp t d
abbrev EvT (Φ:Ct) (t:Sem Bool) (d:(Bool->Prop)->Prop):Prop:=EvR Φ (fun U=>Eq) t d
abbrev EvL (Φ:Ct) (t:Sem (List Value)) (d:(List V->Prop)->Prop):Prop:=EvR Φ Φ.rps t d
def gx (Φ:Ct) (s:Shared) (K:V->Prop) (v:Value) (s':Shared):Prop:=Post Φ (Rp Φ.fx.g Φ.bad) s K v s'/\lB s.heap v
def EvN (Φ:Ct) (t:Sem Value) (d:(V->Prop)->Prop):Prop:=∀ K s,d K->Inv Φ s->Φ.wp t (gx Φ s K) s
theorem Post.lift {R:Heap->α->β->Prop} {K:β->Prop} (p:Post Φ R s₁ K a s') (k:ao s.heap s₁.heap):Post Φ R s K a s':=by
 cases p with | mk B k' y ky r=>exact ⟨B,k.trans k',y,ky,r⟩
theorem gx.lift {K:V->Prop} (p:gx Φ s₁ K v s') (k:ao s.heap s₁.heap):gx Φ s K v s':=⟨p.1.lift k,p.2.le fun U=>k.live⟩
def jz (Φ:Ct) (n:Bool) (s:Shared) (K:V->Prop) (v:Value) (s':Shared):Prop:=Post Φ (Rp Φ.fx.g Φ.bad) s K v s'/\(n=true->lB s.heap v)
def EvC (Φ:Ct) (n:Bool) (t:Sem Value) (d:(V->Prop)->Prop):Prop:=∀ K s,d K->Inv Φ s->Φ.wp t (jz Φ n s K) s
theorem jz.lift {K:V->Prop} (p:jz Φ n s₁ K v s') (k:ao s.heap s₁.heap):jz Φ n s K v s':=⟨p.1.lift k,fun q=>(p.2 q).le fun U=>k.live⟩
theorem EvC.ev (x:EvC Φ n t d):Ev Φ t d:=fun K s hd I E=>LT (x K s hd I E) (fun U U p=>p.1) fun U U z=>z
theorem EvN.ev (x:EvN Φ t d):Ev Φ t d:=fun K s hd I E=>LT (x K s hd I E) (fun U U p=>p.1) fun U U z=>z
theorem EvR.bind {R:Heap->α->β->Prop} {R':Heap->γ->δ->Prop} {f:α->Sem γ} {d:(β->Prop)->Prop} {K₁:β->Prop} {K:δ->Prop} (x:EvR Φ R t d) (hd:d K₁) (I:Inv Φ s)
  (y:∀ a b s₁,Inv Φ s₁->ao s.heap s₁.heap->K₁ b->R s₁.heap a b->Φ.wp (f a) (Post Φ R' s₁ K) s₁):Φ.wp (t >>= f) (Post Φ R' s K) s:=fun E=>
 zC1 (LT (x K₁ s hd I E) ((by rintro a s₁ ⟨B,k,b,kb,r⟩; exact LT (y a b s₁ (I.keep B k) k kb r E) (fun U U p=>p.lift k) fun U U z=>z)) fun U U z=>z)
theorem EvR.bindC {R:Heap->α->β->Prop} {f:α->Sem Value} {d:(β->Prop)->Prop} {K₁:β->Prop} {K:V->Prop} (x:EvR Φ R t d) (hd:d K₁) (I:Inv Φ s)
  (y:∀ a b s₁,Inv Φ s₁->ao s.heap s₁.heap->K₁ b->R s₁.heap a b->Φ.wp (f a) (jz Φ n s₁ K) s₁):Φ.wp (t >>= f) (jz Φ n s K) s:=fun E=>
 zC1 (LT (x K₁ s hd I E) ((by rintro a s₁ ⟨B,k,b,kb,r⟩; exact LT (y a b s₁ (I.keep B k) k kb r E) (fun U U p=>p.lift k) fun U U z=>z)) fun U U z=>z)
theorem EvR.holding (x:EvR Φ R t d):EvR Φ R (holding vs t) d:=fun K s hd I E=>NN (x K s hd I E)
theorem EvR.pure {R:Heap->α->β->Prop} {K:β->Prop} (I:Inv Φ s) (k:K b) (r:R s.heap a b):Φ.wp (pure a) (Post Φ R s K) s:=fun E=>zC2 ⟨I.base,.refl _,b,k,r⟩
def a8 (x:Φ.wp (t ()) Q s):Φ.wp (standAt p >>= t) Q s:=fun E=>(bSt (x E))
structure Grown (s s':Shared):Prop where
 keeps:ao s.heap s'.heap
 os:s'.os=s.os
 gens:s'.gens=s.gens
theorem Grown.refl (s:Shared):Grown s s:=⟨fun U U e=>e,rfl,rfl⟩
theorem Grown.trans (x:Grown s₁ FN) (y:Grown FN Gi):Grown s₁ Gi:=⟨x.keeps.trans y.keeps,y.os.trans x.os,y.gens.trans x.gens⟩
theorem Grown.toks (s:Shared) (n:Nat):Grown s { s with toks:=n }:=⟨fun U U e=>e,rfl,rfl⟩
theorem Grown.push (s:Shared) (o:Obj) (n:Nat):Grown s { s with heap:=s.heap.push o,toks:=n }:=⟨am _ _,rfl,rfl⟩
theorem Base.grown (B:Base g s) (x:Grown s s'):Base g s':=⟨B.stays.trans x.keeps,x.os.trans B.os,x.gens.trans B.gens⟩
abbrev Ct.Gives (Φ:Ct) (s:Shared) (z:V) (v:Value) (s':Shared):Prop:=Grown s s'/\Φ.rp s'.heap v z
def step {R:Heap->α->β->Prop} {K:β->Prop} (I:Inv Φ s) (kz:K z) (h:Φ.wp t (fun a s'=>Grown s s'/\R s'.heap a z) s):Φ.wp t (Post Φ R s K) s:=fun E=>
 LT (h E) (fun a s' p=>⟨I.base.grown p.1,p.1.keeps,z,kz,p.2⟩) fun U U z=>z
def ae {o:Option α} {K:α->Prop} {C:Prop} (h:okK o K) (k:∀ z,o=some z->K z->C):C:=by
 cases o with
 | none=>exact h.elim
 | some z=>exact k z rfl h
def bv {E:GE} {Q:Unit->Shared->Prop} (h:Q () s):wpAny M A (release vs keep) Q E s:=by
 unfold release;generalize (vs.filter fun | .ref _=>true | _=>false)=l;induction l with
 | nil=>exact wpAny_pure h
 | cons x r ih=>
  cases r with
  | nil=>exact wpAny_pure h
  | cons y r=>
   unfold release.go;exact zC1 (NN (wpAny_point ih))
def dz (x:Φ.wp t Q s):Φ.wp (operate vs t) Q s:=fun E=>by
 unfold PySem.operate;exact zC1 (NN (LT (x E) (fun a s' p=>zC1 (bv (wpAny_pure p))) fun U U z=>z))
end
section
variable {Φ:Ct} {s:Shared}
def bq (ok:FxOk Φ.fx) (hx:Φ.fx.ρ.lookup x=some k) (hn:aP x=true) (r:ay s.heap (Φ.fx.pl k) (some v)) (h:Q v s):Φ.wp (eval (.Name x pos) Φ.fx.env) Q s:=fun E=>by
 have hn:=zA2 hn;have h1:=not_eq_true' _▸hn.1;rcases ok.vis x k hx with ⟨hl,hp⟩ | ⟨hl,c,hc,hp⟩
 ·rw [hp] at r;obtain ⟨m,LF,hv⟩:=r;exact wpAny_Name (wpAny_loadName_local ok.kind hl LF hv h) h1
 ·rw [hp] at r;rcases hl with hl | hl
  ·exact wpAny_Name (wpAny_loadName_cell ok.kind hl hc r h) h1
  ·exact wpAny_Name (wpAny_loadName_free ok.kind hl hc r h (not_eq_true' _▸hn.2)) h1
def uV (e:AA G k=some x):getSlot G k=.v x:=by
 unfold AA at e
 revert e
 cases getSlot G k with
 | v m=>exact fun e=>NO Slot.v (LE e)
 | _=>exact fun e=>nN e.symm
def C3 {x:Str} {k:Nat} {pos:Pos} (hx:Φ.fx.ρ.lookup x=some k) (hn:aP x=true):Ev Φ (eval (.Name x pos) Φ.fx.env) (okK (AA Φ.G k)):=fun K s hd I=>ae hd fun y e ky=>by
 obtain ⟨v,pr,so⟩:=I.slot k;rw [uV e] at so;obtain ⟨_,u,rfl,rp⟩:=so;exact bq I.ok hx hn pr ⟨I.base,.refl _,y,ky,rp⟩
end
section
variable {α:Type} {C:V->Prop} {x:V} {z:α}
def bJ (e:pd x f=some z) (k:∀ i,f i=some z->C (.int i)):C x:=by
 cases x <;> first | exact k _ e | (injection e; done)
def eg (e:wU x f=some z) (k:∀ t:Str,f t.cps.toList=some z->C (.str t)):C x:=by
 cases x <;> first | exact k _ e | (injection e; done)
def cD (e:gc x f=some z) (k:∀ l,f l=some z->C (.list l)):C x:=by
 cases x <;> first | exact k _ e | (injection e; done)
def tD (e:Ds x f=some z) (k:∀ l,f l=some z->C (.tuple l)):C x:=by
 cases x <;> first | exact k _ e | (injection e; done)
def fy (e:bY x f=some z) (k:∀ b,f b=some z->C (.bool b)):C x:=by
 cases x <;> first | exact k _ e | (injection e; done)
end
section
variable {α β:Type}
@[elab_as_elim] theorem some_elim {C:α->Prop} {a b:α} (e:some a=some b) (k:C a):C b:=LE e▸k
@[elab_as_elim] theorem if_elim {C:α->Prop} {p:Prop} [Decidable p] {a z:α} (e:(if p then some a else none)=some z) (k:p->C a):C z:=by
 by_cases h:p
 ·rw [NP h] at e; exact some_elim e (k h)
 ·rw [NQ h] at e; (injection e; done)
@[elab_as_elim] theorem ifn_elim {C:α->Prop} {p:Prop} [Decidable p] {a z:α} (e:(if p then none else some a)=some z) (k:¬ p->C a):C z:=by
 by_cases h:p
 ·rw [NP h] at e; (injection e; done)
 ·rw [NQ h] at e; exact some_elim e (k h)
def aU {C:Prop} {p:Prop} [Decidable p] {a:Option α} {z:α} (e:(if p then a else none)=some z) (k:p->a=some z->C):C:=by
 by_cases h:p
 ·rw [NP h] at e; exact k h e
 ·rw [NQ h] at e; (injection e; done)
@[elab_as_elim] theorem map_elim {C:β->Prop} {f:α->β} {o:Option α} {z:β} (e:o.map f=some z) (k:∀ a,o=some a->C (f a)):C z:=by
 cases o with
 | none=>(injection e; done)
 | some a=>exact some_elim e (k a rfl)
@[elab_as_elim] theorem fit_elim {C:β->Prop} {l:List α} {a z:β} (e:cq l a=some z) (k:l.length<=af->C a):C z:=if_elim e k
end
def bF (h:n<=af):n<=sizeLine:=zB1 h (by decide)
section
variable {Φ:Ct} {s:Shared} {v u:Value} {x y z:V}
theorem Inv.fresh (I:Inv Φ s):¬ Φ.bad s.heap.objs.size:=fun q=>by obtain ⟨o,e⟩:=I.badLive q; rw [ak] at e; (injection e; done)
theorem Inv.room (I:Inv Φ s):Φ.fx.A.units+100 < cLine:=by exact Q0 (add_le_add_right (Q3 _ _) _) I.ok.units
def gM (I:Inv Φ s) (r:Φ.rps s.heap vs l):Φ.Gives s (.list l) (.ref s.heap.objs.size) { s with heap:=s.heap.push { cls:=.type "list",data:=.seq vs.toArray n },toks:=tk }:=
 ⟨Grown.push _ _ _,.list I.fresh (Q2 _ rfl) ⟨rfl,rfl⟩ rfl (r.keep (am _ _))⟩
def cC (I:Inv Φ s) (r:Φ.rps s.heap vs l):Φ.Gives s (.tuple l) (.ref s.heap.objs.size) { s with heap:=s.heap.push { cls:=.type "tuple",data:=.seq vs.toArray n },toks:=tk }:=
 ⟨Grown.push _ _ _,.tuple I.fresh (Q2 _ rfl) rfl rfl (r.keep (am _ _))⟩
def Dz {b:Int} (h:b.natAbs<=1000000):b < 2 ^ 64:=Int.lt_of_le_of_lt le_natAbs (Int.lt_of_le_of_lt (ofNat_le.mpr h) (by decide))
def E8 (h:b.natAbs<=1000000):-2 ^ 64 < b:=Int.neg_lt_of_neg_lt (Dz ((Int.natAbs_neg b).symm▸h))
def ud (h:b.natAbs<=1000000\/a.natAbs<=1000000):IntMulOk a b:=by
 rcases h with h | h
 ·exact .of_right (intBits_le_64 (E8 h) (Dz h))
 ·exact .of_left (intBits_le_64 (E8 h) (Dz h))
def iK (x:Str):(⟨x.cps.toList.toArray⟩:Str)=x:=by cases x; simp
theorem Rp.text {g:Gl} {bad:Addr->Prop} {h:Heap} {x:Str} {l:List Nat} {t:Tok} (e:x.cps.toList=l):Rp g bad h (.str x t) (text l):=by
 subst e; unfold Mine.text; rw [iK]; exact .str x t
def qR (hz:(a.cps.toList++b.cps.toList).length<=af):Φ.wp (binaryOp .Add (.str a t) (.str b t')) (Φ.Gives s (text (a.cps.toList++b.cps.toList))) s:=fun E=>by
 refine P.add_str ?_;split
 ·rename_i h0;have:a.cps.toList=[]:=length_eq_zero_iff.mp (length_toList.trans (Id h0));exact ⟨.refl _,.text (by rw [this]; rfl)⟩
 ·split
  ·rename_i h0;have:b.cps.toList=[]:=length_eq_zero_iff.mp (length_toList.trans (Id h0));exact ⟨.refl _,.text (by rw [this,append_nil])⟩
  ·refine ⟨?_,.toks _ _,.text toList_append⟩;refine (?_:(_++_:Array Nat).size<=sizeLine);rw [zB5,zB3,zB3] at hz;rw [Array.size_append]; exact bF hz
def oy (I:Inv Φ s) (hz:(l++m).length<=af) (r1:Φ.rp s.heap v (.list l)) (r2:Φ.rp s.heap u (.list m)):Φ.wp (binaryOp .Add v u) (Φ.Gives s (.list (l++m))) s:=fun E=>by
 refine r1.list_elim fun a1 o1 HS n1 U GN IG Jw hl1=>r2.list_elim fun a2 o2 HR n2 U II IF IE hl2=>?_;obtain ⟨cls,dd,data,sl⟩:=o1;obtain ⟨M6,LY,Lh,Kf⟩:=o2;obtain ⟨rfl,rfl⟩:=IG;obtain ⟨rfl,rfl⟩:=IF;subst Jw;subst IE;refine concat_meets ⟨_,GN,rfl⟩ ⟨_,II,rfl⟩ noFill_list_add seq_list_add PySem.F.slot_list_add PySem.F.entry_list_add (PySem.F.args_list_add_2 _ _) (list_addW a1 a2 HS HR n1 n2 _ _ sl Kf ?_) ⟨GN,II,?_⟩
 ·have:=(hl1.append hl2).length;rw [zB5,zB3,zB3] at this;rw [this]; exact bF hz
 ·have q:=gM (n:=0) (tk:=s.toks) I (hl1.append hl2);rw [show (HS.toList++HR.toList).toArray=HS++HR by simp] at q;exact q
def lK (I:Inv Φ s) (hz:(l++m).length<=af) (r1:Φ.rp s.heap v (.tuple l)) (r2:Φ.rp s.heap u (.tuple m)):Φ.wp (binaryOp .Add v u) (Φ.Gives s (.tuple (l++m))) s:=fun E=>by
 refine Rp.tuple_elim (C:=fun v=>Φ.rp s.heap v (.tuple l)->wpAny (model Φ.fx.g.prog Φ.fx.g.w) Φ.fx.A (binaryOp .Add v u) (Φ.Gives s (.tuple (l++m))) E s) r1 (fun a1 o1 HS n1 U GN IG Jw hl1 r1=>?_) r1;refine Rp.tuple_elim (C:=fun u=>Φ.rp s.heap u (.tuple m)->wpAny (model Φ.fx.g.prog Φ.fx.g.w) Φ.fx.A (binaryOp .Add (.ref a1) u) (Φ.Gives s (.tuple (l++m))) E s) r2 (fun a2 o2 HR n2 U II IF IE hl2 r2=>?_) r2;obtain ⟨cls,dd,data,sl⟩:=o1;obtain ⟨M6,LY,Lh,Kf⟩:=o2;subst IG;subst IF;subst Jw;subst IE;have len:=(hl1.append hl2).length;replace len:=length_toList▸length_toList▸length_append▸len;by_cases c0:HS.isEmpty=true
 ·have:HS.toList=[]:=by simpa using c0
  have hl:l=[]:=length_eq_zero_iff.mp (by rw [<- hl1.length,this]; rfl);subst hl;exact concat_meets ⟨_,GN,rfl⟩ ⟨_,II,rfl⟩ noFill_tuple_add seq_tuple_add PySem.F.slot_tuple_add PySem.F.entry_tuple_add (PySem.F.args_tuple_add_2 _ _) (tuple_addW0 a1 a2 HS HR n1 n2 dd LY sl Kf c0) ⟨GN,II,.refl _,r2⟩
 ·by_cases c1:HR.isEmpty=true
  ·have:HR.toList=[]:=by simpa using c1
   have hl:m=[]:=length_eq_zero_iff.mp (by rw [<- hl2.length,this]; rfl);subst hl;rw [append_nil];exact concat_meets ⟨_,GN,rfl⟩ ⟨_,II,rfl⟩ noFill_tuple_add seq_tuple_add PySem.F.slot_tuple_add PySem.F.entry_tuple_add (PySem.F.args_tuple_add_2 _ _) (tuple_addW1 a1 a2 HS HR n1 n2 dd LY sl Kf c0 c1) ⟨GN,II,.refl _,r1⟩
  ·refine concat_meets ⟨_,GN,rfl⟩ ⟨_,II,rfl⟩ noFill_tuple_add seq_tuple_add PySem.F.slot_tuple_add PySem.F.entry_tuple_add (PySem.F.args_tuple_add_2 _ _) (tuple_addW2 a1 a2 HS HR n1 n2 dd LY sl Kf c0 c1 (by rw [len]; exact bF hz)) ⟨GN,II,?_⟩;have q:=cC (n:=0) (tk:=s.toks) I (hl1.append hl2);rw [show (HS.toList++HR.toList).toArray=HS++HR by simp] at q;exact q
def Dq (e:Fo x y=some z) (I:Inv Φ s) (r1:Φ.rp s.heap v x) (r2:Φ.rp s.heap u y):Φ.wp (binaryOp .Add v u) (Φ.Gives s z) s:=by
 cases x with
 | int a=>exact bJ (C:=fun y=>Φ.rp s.heap u y->Φ.wp (binaryOp .Add v u) (Φ.Gives s z) s) e (fun b e r2=>some_elim e (r1.int_elim fun t=>r2.int_elim fun t' E=>PyProof.Rows.add_int ⟨.toks _ _,.int _ _⟩)) r2
 | str a=>exact eg (f:=fun b=>cq (a.cps.toList++b) (text (a.cps.toList++b))) (C:=fun y=>Φ.rp s.heap u y->Φ.wp (binaryOp .Add v u) (Φ.Gives s z) s) e (fun b e r2=>fit_elim e fun q=>r1.str_elim fun t=>r2.str_elim fun t'=>qR q) r2
 | list l=>exact cD (C:=fun y=>Φ.rp s.heap u y->Φ.wp (binaryOp .Add v u) (Φ.Gives s z) s) e (fun m e r2=>fit_elim e fun q=>oy I q r1 r2) r2
 | tuple l=>exact tD (C:=fun y=>Φ.rp s.heap u y->Φ.wp (binaryOp .Add v u) (Φ.Gives s z) s) e (fun m e r2=>fit_elim e fun q=>lK I q r1 r2) r2
 | _=>(injection e; done)
def cF {α:Type} {f:Int->Int->Option α} {w:α} {C:Value->Value->Prop} (e:pf x y f=some w) (r1:Φ.rp s.heap v x) (r2:Φ.rp s.heap u y) (k:∀ i j t t',f i j=some w->C (.int i t) (.int j t')):C v u:=
 bJ (C:=fun x=>Φ.rp s.heap v x->C v u) e (fun i e r1=>bJ (C:=fun y=>Φ.rp s.heap u y->C v u) e (fun j e r2=>r1.int_elim fun t=>r2.int_elim fun t'=>k i j t t' e) r2) r1
def Dm {o:Operator} (e:uL o x y=some z) (I:Inv Φ s) (r1:Φ.rp s.heap v x) (r2:Φ.rp s.heap u y):Φ.wp (binaryOp o v u) (Φ.Gives s z) s:=by
 cases o with
 | Add=>exact Dq e I r1 r2
 | Sub=>exact cF (C:=fun v u=>Φ.wp (binaryOp .Sub v u) (Φ.Gives s z) s) e r1 r2 fun i j t t' q=>some_elim q fun E=>PyProof.Rows.sub_int ⟨.toks _ _,.int _ _⟩
 | Mult=>exact cF (C:=fun v u=>Φ.wp (binaryOp .Mult v u) (Φ.Gives s z) s) e r1 r2 fun i j t t' q=>if_elim q fun q E=>PyProof.Rows.mul_int ⟨.toks _ _,.int _ _⟩ (ud q)
 | FloorDiv=>exact cF (C:=fun v u=>Φ.wp (binaryOp .FloorDiv v u) (Φ.Gives s z) s) e r1 r2 fun i j t t' q=>ifn_elim q fun q E=>floordiv_int (fun z=>q (.inl z)) ⟨.toks _ _,.int _ _⟩ (.inl (PyProof.noPylong_small (by omega)))
 | Mod=>exact cF (C:=fun v u=>Φ.wp (binaryOp .Mod v u) (Φ.Gives s z) s) e r1 r2 fun i j t t' q=>ifn_elim q fun q E=>PyProof.Rows.mod_int q ⟨.toks _ _,.int _ _⟩
 | _=>(injection e; done)
def okd (h:fj x=true):x.canLay0=true/\x.depth<=64:=(zA2 h).imp id IO
def j8 (I:Inv Φ s) (h:n<=64):Φ.fx.A.units+1+min m n < cLine:=Q0 (by rw [add_assoc]; exact Q7 (zB1 (Q7 (zB1 (min_le_right m n) h) 1) (by decide:65<=100)) _) I.room
abbrev Is (s:Shared) (c:Bool) (v:Value) (s':Shared):Prop:=Grown s s'/\v=.bool c
def BC (I:Inv Φ s) (q:(fj x&&fj y)=true) (r1:Φ.rp s.heap v x) (r2:Φ.rp s.heap u y):Φ.wp (compareOp .Eq v u) (Is s (PyData.eqv x y)) s/\Φ.wp (compareOp .NotEq v u) (Is s (!PyData.eqv x y)) s:=
 have q:=zA2 q;have h1:=okd q.1;have h2:=okd q.2
 (r1.reads h1.1).elim fun U p1=>(r2.reads h2.1).elim fun U p2=>have m:=Q0 (by exact add_le_add_right (Q3 _ _) _) (j8 I (m:=x.depth) h2.2); ⟨fun E=>SeqAt.compareEq_reads p1 p2 h1.1 h2.1 m ⟨.refl _,rfl⟩,fun E=>SeqAt.compareNe_reads p1 p2 h1.1 h2.1 m ⟨.refl _,rfl⟩⟩
def Bh (r:Φ.rp s.heap v x):Φ.wp (compareOp .Is v .none) (Is s (isNone x)) s/\Φ.wp (compareOp .IsNot v .none) (Is s (!isNone x)) s:=by
 cases r with
 | none=>exact ⟨fun E=>is_none_gen ⟨.refl _,rfl⟩,fun E=>isnot_none_gen ⟨.refl _,rfl⟩⟩
 | _=>exact ⟨fun E=>is_none_ne nofun ⟨.refl _,rfl⟩,fun E=>isnot_none_ne nofun ⟨.refl _,rfl⟩⟩
def ue (e:a.cps.toList=[c]):Φ.wp (compareOp .In (.str a t) (.str b t')) (Is s (b.cps.toList.elem c)) s/\Φ.wp (compareOp .NotIn (.str a t) (.str b t')) (Is s (!b.cps.toList.elem c)) s:=by
 have f:(!(Builtin.Str.occurrences b a 0 b.length 1).isEmpty)=b.cps.toList.elem c:=by
  rw [<- iK a,e,show (⟨[c].toArray⟩:Str)=⟨#[c]⟩ from rfl,StrLaws.found_one];rw [Bool.eq_iff_iff]; simp
 exact ⟨fun E=>P.in_str ⟨.refl _,by rw [f]⟩,fun E=>P.notIn_str ⟨.refl _,by rw [f]⟩⟩
end
noncomputable abbrev atK (xs:List (V×Addr×Value)) (k:V):Option (Addr×Value):=@atKey V dG xs k
noncomputable abbrev stK (xs:List (V×Addr×Value)) (k:V) (a:Addr) (v:Value):List (V×Addr×Value):=@storedH V dG xs k a v
abbrev BR (g:Gl) (h:Heap) (d:Addr) (xs:List (V×Addr×Value)):Prop:=@Heap.DictOfH g.prog g.w V dG (eQ g.prog g.w) h d xs
noncomputable abbrev enK (g:Gl) (x:V×Addr×Value):DictEntry:=@entryOfKey g.prog g.w V dG (eQ g.prog g.w) x
inductive Ent (g:Gl) (bad:Addr->Prop) (h:Heap):List (V×Addr×Value)->List (V×V)->Prop
 | nil:Ent g bad h [] []
 | cons {x y:V} {a:Addr} {v:Value} {xs:List (V×Addr×Value)} {FP:List (V×V)}:aZ x=true->Rp g bad h (.ref a) x->Rp g bad h v y->Ent g bad h xs FP->Ent g bad h ((x,a,v) :: xs) ((x,y) :: FP)
section
variable {g:Gl} {bad FR:Addr->Prop} {h h':Heap} {xs:List (V×Addr×Value)} {FP:List (V×V)}
def gE (r:Rp g bad h v x) (q:aZ x=true):∃ a,v=.ref a:=by
 cases r with
 | tuple=>exact ⟨_,rfl⟩
 | _=>exact nB q
theorem Ent.of:∀ {FP:List (V×V)} {es:List DictEntry},dkV FP=true->es.map (·.hash)=FP.map (fun p=>xw g.w p.1)->RpAll g bad h (es.map (·.key)) (FP.map (·.1))->RpAll g bad h (es.map (·.val)) (FP.map (·.2))->∃ xs,es=xs.map (enK g)/\Ent g bad h xs FP:=by
 intro FP;induction FP with
 | nil=>
  intro es _ e _ _;exact ⟨[],map_eq_nil_iff.mp e,.nil⟩
 | cons p FP ih=>
  intro es d e r1 r2;obtain ⟨x,y⟩:=p;cases es with
  | nil=>exact nomatch e
  | cons en es=>
   obtain ⟨e1,e2⟩:=zA5 e;cases r1 with
   | cons k1 r1=>cases r2 with
    | cons v1 r2=>
     have d:=zA2 (d:(aZ x&&dkV FP)=true);obtain ⟨xs,ex,E⟩:=ih d.2 e2 r1 r2;obtain ⟨a,ea⟩:=gE k1 d.1;obtain ⟨hs,ky,vl⟩:=en;obtain rfl:ky=.ref a:=ea;obtain rfl:hs=xw g.w x:=e1;exact ⟨(x,a,vl) :: xs,NO (_ :: ·) ex,.cons d.1 k1 v1 E⟩
theorem Ent.back (E:Ent g bad h xs FP):dkV FP=true/\xs.map (·.1)=FP.map (·.1)/\(xs.map (enK g)).map (·.hash)=FP.map (fun p=>xw g.w p.1)/\RpAll g bad h ((xs.map (enK g)).map (·.key)) (FP.map (·.1))/\RpAll g bad h ((xs.map (enK g)).map (·.val)) (FP.map (·.2)):=by
 induction E with
 | nil=>exact ⟨rfl,rfl,rfl,.nil,.nil⟩
 | cons q r1 r2 _ ih=>exact ⟨zA3 ⟨q,ih.1⟩,NO (_ :: ·) ih.2.1,NO (_ :: ·) ih.2.2.1,.cons r1 ih.2.2.2.1,.cons r2 ih.2.2.2.2⟩
theorem KIs.of (q:aZ x=true) (r:Rp g bad h (.ref a) x):KIs h x a:=⟨q,r.reads (eP q).1⟩
theorem Ent.kis (E:Ent g bad h xs FP):∀ x∈xs,KIs h x.1 x.2.1:=by
 induction E with
 | nil=>exact fun U m=>nM m
 | cons q r1 r2 _ ih=>exact zA1 ⟨.of q r1,ih⟩
theorem Ent.length (E:Ent g bad h xs FP):xs.length=FP.length:=by
 induction E with
 | nil=>rfl
 | cons _ _ _ _ ih=>exact NO (· + 1) ih
theorem Ent.map (E:Ent g bad h xs FP) (k:bK bad FR h h'):Ent g FR h' xs FP:=by
 induction E with
 | nil=>exact .nil
 | cons q r1 r2 _ ih=>exact .cons q (r1.map k) (r2.map k) ih
theorem Ent.app (E:Ent g bad h xs FP) (q:aZ x=true) (r1:Rp g bad h (.ref a) x) (r2:Rp g bad h v y):Ent g bad h (xs++[(x,a,v)]) (FP++[(x,y)]):=by
 induction E with
 | nil=>exact .cons q r1 r2 .nil
 | cons q' s1 s2 _ ih=>exact .cons q' s1 s2 ih
theorem Ent.at (E:Ent g bad h xs FP) (q:aZ y=true):(atK xs y=none/\bt FP y=none/\(FP.any fun p=>PyData.eqv p.1 y)=false)\/∃ p z,atK xs y=some p/\bt FP y=some z/\(FP.any fun p=>PyData.eqv p.1 y)=true/\Rp g bad h p.2 z:=by
 induction E with
 | nil=>exact .inl ⟨rfl,rfl,rfl⟩
 | @cons x z a v xs FP hk r1 r2 _ ih=>
  have e:=mJ hk q;unfold atK atKey bt at ih ⊢;rw [find?_cons,find?_cons,any_cons];cases c:PyData.eqv x y with
  | true=>
   rw [show @decide (x=y) (dG x y)=true from e.symm.trans c];exact .inr ⟨_,z,rfl,rfl,rfl,r2⟩
  | false=>
   rw [show @decide (x=y) (dG x y)=false from e.symm.trans c];exact ih
theorem Ent.put0 (E:Ent g bad h xs FP) (q:aZ y=true) (r:Rp g bad h v z):Ent g bad h (xs.map (@putAt V dG y v)) (FP.map fun p=>if PyData.eqv p.1 y=true then (p.1,z) else p):=by
 induction E with
 | nil=>exact .nil
 | @cons x u a v' xs FP hk r1 r2 _ ih=>
  have e:=mJ hk q;rw [map_cons,map_cons];unfold putAt;refine (?_:Ent g bad h ((@ite _ (x=y) (dG x y) (x,a,v) (x,a,v')) :: _) ((if PyData.eqv x y=true then (x,z) else (x,u)) :: _));by_cases c:x=y
  ·rw [@if_pos _ (dG x y) c,NP ((cH x y hk q).mpr c)]; exact .cons hk r1 r ih
  ·rw [@if_neg _ (dG x y) c,NQ fun z=>c ((cH x y hk q).mp z)]; exact .cons hk r1 r2 ih
theorem Ent.put (E:Ent g bad h xs FP) (q:aZ y=true) (r1:Rp g bad h (.ref a) y) (r:Rp g bad h v z):Ent g bad h (stK xs y a v) (cX FP y z):=by
 unfold cX;rcases E.at q with ⟨e1,_,e2⟩ | ⟨p,_,e1,_,e2,_⟩
 ·rw [e2,NQ NK,show stK xs y a v=_ from @storedH_new V dG _ _ e1 a v]; exact E.app q r1 r
 ·rw [e2,NP rfl,show stK xs y a v=_ from @storedH_old V dG _ _ _ e1 a v]; exact E.put0 q r
theorem Inv.room3 (I:Inv Φ s):Φ.fx.A.units+1+4 < cLine:=Q0 (Q7 (by decide:5<=100) _) I.room
abbrev DAt (g:Gl) (bad:Addr->Prop) (h:Heap) (a:Addr) (FP:List (V×V)):Prop:=OwnDAt g bad h a FP
theorem DAt.dk (r:DAt g bad h a FP):∃ xs,BR g h a xs/\Ent g bad h xs FP:=by
 obtain ⟨o,es,n,ho,hc,hd,hk,r1,r2⟩:=r;obtain ⟨xs,e,E⟩:=Ent.of hk.1 hk.2.2 r1 r2;exact ⟨xs,⟨o,es,n,ho,hc,hd,e,E.kis,E.back.2.1▸hk.2.1⟩,E⟩
theorem DAt.of (d:BR g h a xs) (E:Ent g bad h xs FP):DAt g bad h a FP:=by
 obtain ⟨o,es,n,ho,hc,hd,e,_,hn⟩:=d;obtain ⟨b1,b2,b3,b4,b5⟩:=E.back;rw [<- e] at b3 b4 b5;exact ⟨o,es,n,ho,hc,hd,⟨b1,b2▸hn,b3⟩,b4,b5⟩
end
section
variable {prog:Program} {w:World} {K:Type} [DecidableEq K] {knd:HeapKind prog w K} {A:Around} {E:GE} {s:Shared} {d a:Addr} {k:K} {xs:List (K×Addr×Value)}
def j9 {Q:Bool->Shared->Prop} (hu:knd.room A.in1) (HG:knd.is s.heap k a) (hd:(d==sysModules)=false) (hm:s.heap.DictOfH knd d xs)
  (h:Q (atKey xs k).isSome { s with toks:=s.toks+knd.draws k }):GM prog w A (contains (.ref d) (.ref a)) Q E s:=by
 unfold contains;refine NN ?_;refine zC1 (wpAny_specialOf hm.typeIs PySem.F.slot_dict_contains.lookup ?_);refine bI (c:=(some (Value.builtin "dict.__contains__")==some Value.none)=true) (by rw [beq_builtin_none]; exact NK) ?_;refine zC1 (wpAny_callSpecialUnlessNone?_slot (name:=ofString "__contains__") hm.typeIs PySem.F.slot_dict_contains (wpAny_call_entry PySem.F.slot_dict_contains hm.typeIs PySem.F.entry_dict_contains ?_ (PySem.F.args_dict_contains_2 _ _)));refine (?_:wpAny _ _ (dictGet d (.ref a) >>= _) _ _ s);refine zC1 (wpAny_dictGet_heap hu HG hm ?_);cases hf:atKey xs k with
 | some p=>
  rw [hf] at h;exact zC2 ⟨_,rfl,wpAny_truthy_bool h⟩
 | none=>
  rw [hf] at h;exact zC1 (wpAny_pendingKey_other hd (zC2 ⟨_,rfl,wpAny_truthy_bool h⟩))
end
section
variable {Φ:Ct} {s:Shared} {v u:Value} {x y z:V}
def Bl (I:Inv Φ s) (e:inO x y=some c) (r1:Φ.rp s.heap v x) (r2:Φ.rp s.heap u y):Φ.wp (compareOp .In v u) (Is s c) s/\Φ.wp (compareOp .NotIn v u) (Is s (!c)) s:=by
 cases y with
 | str b=>
  have e:wU x (fun s=>match s with | [c]=>some (b.cps.toList.elem c) | _=>none)=some c:=e;refine eg (C:=fun x=>Φ.rp s.heap v x->Φ.wp (compareOp .In v u) (Is s c) s/\Φ.wp (compareOp .NotIn v u) (Is s (!c)) s) e (fun a e r1=>?_) r1;split at e
  ·rename_i d q; exact some_elim e (r1.str_elim fun t=>r2.str_elim fun t'=>ue q)
  ·(injection e; done)
 | list l=>
  refine if_elim e fun q=>?_;have q:=zA2 q;have h1:=okd q.1;have h2:=okd q.2;obtain ⟨_,p1⟩:=r1.reads h1.1;obtain ⟨_,p2⟩:=r2.reads h2.1;exact ⟨fun E=>SeqAt.in_list_reads p2 p1 h2.1 h1.1 (j8 I h1.2) ⟨.refl _,rfl⟩,fun E=>SeqAt.notIn_list_reads p2 p1 h2.1 h1.1 (j8 I h1.2) ⟨.refl _,rfl⟩⟩
 | tuple l=>
  refine if_elim e fun q=>?_;have q:=zA2 q;have h1:=okd q.1;have h2:=okd q.2;obtain ⟨_,p1⟩:=r1.reads h1.1;obtain ⟨_,p2⟩:=r2.reads h2.1;exact ⟨fun E=>SeqAt.in_tuple_reads p2 p1 h2.1 h1.1 (j8 I h1.2) ⟨.refl _,rfl⟩,fun E=>SeqAt.notIn_tuple_reads p2 p1 h2.1 h1.1 (j8 I h1.2) ⟨.refl _,rfl⟩⟩
 | dict l=>
  refine if_elim e fun q=>?_;have q:=zA2 q;refine r2.dict_elim (C:=fun u=>Φ.wp (compareOp .In v u) (Is s (bt l x).isSome) s/\Φ.wp (compareOp .NotIn v u) (Is s (!(bt l x).isSome)) s) q.1 fun a o es n hb hm ha hc hd he k1 k2=>?_;obtain ⟨b,rfl⟩:=gE r1 q.2;obtain ⟨xs,D,E⟩:=DAt.dk ⟨o,es,n,ha,hc,hd,he,k1,k2⟩;have hs:(@atKey V dG xs x).isSome=(bt l x).isSome:=(E.at q.2).elim (fun z=>(NO isSome z.1).trans (NO isSome z.2.1).symm) (by rintro ⟨_,_,z1,z2,_⟩; exact (NO isSome z1).trans (NO isSome z2).symm);have ct:∀ (E:GE) (Q:Bool->Shared->Prop),(∀ n,Q (bt l x).isSome { s with toks:=n })->wpAny (model Φ.fx.g.prog Φ.fx.g.w) Φ.fx.A (contains (.ref a) (.ref b)) Q E s:=fun E Q h=>@j9 _ _ V dG (eQ Φ.fx.g.prog Φ.fx.g.w) _ _ _ _ _ _ _ _ I.room3 (KIs.of q.2 r1) (beq_eq_false_iff_ne.mpr hm) D (hs▸h _);exact ⟨fun E=>zC1 (ct E _ fun n=>zC2 ⟨.toks _ _,rfl⟩),fun E=>zC1 (ct E _ fun n=>zC2 ⟨.toks _ _,rfl⟩)⟩
 | _=>(injection e; done)
def rk {o:CmpOp} {c:Bool} (e:aO o x y=some c) (I:Inv Φ s) (r1:Φ.rp s.heap v x) (r2:Φ.rp s.heap u y):Φ.wp (compareOp o v u) (Is s c) s:=by
 cases o with
 | Eq=>exact if_elim e fun q=>(BC I q r1 r2).1
 | NotEq=>exact map_elim e fun d e=>if_elim (C:=fun d=>Φ.wp (compareOp .NotEq v u) (Is s (!d)) s) e fun q=>(BC I q r1 r2).2
 | Lt=>exact cF (C:=fun v u=>Φ.wp (compareOp .Lt v u) (Is s c) s) e r1 r2 fun i j t t' q=>some_elim q fun E=>P.lt_int ⟨.refl _,rfl⟩
 | LtE=>exact cF (C:=fun v u=>Φ.wp (compareOp .LtE v u) (Is s c) s) e r1 r2 fun i j t t' q=>some_elim q fun E=>P.le_int ⟨.refl _,rfl⟩
 | Gt=>exact cF (C:=fun v u=>Φ.wp (compareOp .Gt v u) (Is s c) s) e r1 r2 fun i j t t' q=>some_elim q fun E=>P.gt_int ⟨.refl _,rfl⟩
 | GtE=>exact cF (C:=fun v u=>Φ.wp (compareOp .GtE v u) (Is s c) s) e r1 r2 fun i j t t' q=>some_elim q fun E=>P.ge_int ⟨.refl _,rfl⟩
 | Is=>
  refine if_elim e fun q=>?_;cases y with
  | none=>exact r2.none_elim (Bh r1).1
  | _=>(injection q; done)
 | IsNot=>
  refine if_elim e fun q=>?_;cases y with
  | none=>exact r2.none_elim (Bh r1).2
  | _=>(injection q; done)
 | In=>exact (Bl I e r1 r2).1
 | NotIn=>exact map_elim e fun d e=>(Bl I e r1 r2).2
end
section
variable {prog:Program} {w:World} {A:Around} {E:GE} {s:Shared} {I d:Addr} {od:Obj} {es:Array DictEntry} {ep i:Nat}
def yS {Q:Option Value->Shared->Prop} {P:Fin->Shared->Prop} (hh:A.handled=none) (h:∀ h',ao s.heap h'->Q none { s with heap:=h' }) :
  GM prog w A.in1 (newExc (.type "StopIteration") [] >>= fun e=>raiseNew e) P (fun e s'=>GM prog w A (isInstance e (.type "StopIteration") >>= fun b=>if b=true then pure none else throw e) Q E s') s:=by
 refine zC1 ?_;simp only [newExc,newTuple];refine zC1 (wpAny_newObj_type ?_ (by size_fits));refine wpAny_bind (m:=firstArgMember _ _) (wpAny_of_eq (a:=Value.none) (by first | rfl | (simp only [firstArgMember]; rfl)) ?_);refine wpAny_newObj_type ?_ (by size_fits);refine zC1 (wpAny_handled ?_);refine (show A.in1.handled=none from hh).symm▸?_;refine (bPu (wpAny_throw ?_));refine zC1 (wpAny_isInstance (T:="StopIteration") (b:=true) ⟨_,Q2 _ rfl,rfl⟩ isSubtype_stop ?_);exact zC2 (h _ ((am _ _).trans (am _ _)))
def kT {Q:Option Value->Shared->Prop} (hh:A.handled=none) (HH:s.heap.IsKeyIter I d i es.size ep) (KL:s.heap.get? d=some od) (G5:od.data=.dict es ep)
  (hQ:∀ e,es[i]?=some e->∀ h',h'.IsKeyIter I d (i+1) es.size ep->SameBut I s.heap h'->Q (some e.key) { s with heap:=h' })
  (hE:es[i]?=none->∀ h',(∀ b o,b≠I->s.heap.get? b=some o->h'.get? b=some o)->Q none { s with heap:=h' }):GM prog w A (pyNext (.ref I)) Q E s:=by
 refine (id HH).elim fun o Ih=>Ih.elim fun ho Ib=>Ib.elim fun hc hd=>?_
 skip
 refine zC1 (wpAny_attempt (wpAny_callSpecial?_slot (name:=ofString "__next__") HH.typeIs F.slot_dict_keyiterator_next
  (wpAny_call_entry F.slot_dict_keyiterator_next HH.typeIs F.entry_dict_keyiterator_next ?_ (F.args_dict_keyiterator_next_1 _))))
 refine (bPu (zC1 (zC1 ?_)));refine zC1 (wpAny_typeNameOfWhole_keyiter HH.typeIs (zC2 ?_));refine zC1 (wpAny_fieldsOf ho hd ?_);have H0:Builtin.Dict_items.ownsTuple "dict_keyiterator"=false:=by decide
 rw [H0];refine bI (c:=(Value.ref d==Value.none)=true) NK ((bPu (zC1 (wpAny_dictEntries KL G5 ?_))));refine bI (by simp) ((bPu (zC1 (wpAny_dictEpoch KL G5 ?_))));refine bI (by simp) (zC2 ?_);simp only [show ¬ ((i:Int) < 0) from Int.not_lt.mpr (natCast_nonneg _),if_false,toNat_natCast];cases ei:es[i]? with
 | some e=>
  refine zC1 ?_;refine zC1 (wpAny_typeNameOfWhole_keyiter HH.typeIs (zC2 ?_));refine zC1 (wpAny_isOneOf_keyiter HH.typeIs ?_);refine (?_:wpAny _ _ (setField (.ref I) 1 (rawInt ((i:Int)+1)) >>= _) _ _ s);refine zC1 (wpAny_setField ho hd (by simp) ?_);have KS:(s.heap.update I (Obj.mapFields (·.setIfInBounds 1 (rawInt ((i:Int)+1))))).IsKeyIter I d (i+1) es.size ep:=
   ⟨_,get?_update_self _ ho (Obj.isFreed_of_fields (data_mapFields hd _)),(Obj.cls_mapFields ..).trans hc,by rw [data_mapFields hd]; simp [rawInt]⟩
  refine zC1 (NN ?_);refine zC1 (wpAny_isOneOf_keyiter (s:={ s with heap:=s.heap.update I (Obj.mapFields (·.setIfInBounds 1 (rawInt ((i:Int)+1)))) }) KS.typeIs ?_);refine (?_:wpAny _ _ (pure e.key) _ _ _);exact zC2 (zC2 ⟨_,rfl,zC2 (hQ e ei _ KS (SameBut.update ..))⟩)
 | none=>
  refine zC1 ?_;refine zC1 (wpAny_typeNameOfWhole_keyiter HH.typeIs (zC2 ?_));refine (?_:wpAny _ _ (setField (.ref I) 0 .none >>= _) _ _ s);refine zC1 (wpAny_setField ho hd (Nat.zero_lt_succ _) ?_);exact yS hh fun h' k=>hE ei h' fun b o q e=>k b o ((get?_update_other _ _ (Ne.symm q)).trans e)
def fc (hh:A.handled=none) (Gc:d≠I) (G5:od.data=.dict es ep):Walks prog w A I [I,d] [I] es.size (fun i v=>(es.toList.map (·.key))[i]?=some v) (fun i h=>h.IsKeyIter I d i es.size ep/\h.get? d=some od) where
 sub:=fun b m=>by obtain rfl:=zA6 m; exact .head _
 frame:=fun i h h' q k=>⟨q.1.at fun o e=>k I (.head _) o e,k d (.tail _ (.head _)) _ q.2⟩
 item:=fun i s Q E hi q hQ=>kT hh q.1 q.2 G5 (fun e ei h' Gp sb=>hQ e.key h' s.toks (by rw [getElem?_map,Q5,ei]; rfl) ⟨Gp,(sb.2 d Gc).trans q.2⟩ fun b o m e=>(sb.2 b fun q=>m (q▸.head _)).trans e) fun z=>nomatch (Array.getElem?_eq_getElem hi).symm.trans z
 done:=fun s Q E q hQ=>kT hh q.1 q.2 G5 (fun e ei=>absurd (Array.getElem?_eq_some_iff.mp ei).1 (lt_irrefl _)) fun U h' k=>hQ h' s.toks fun b o m e=>k b o (fun q=>m (q▸.head _)) e
 self:=fun i s Q E q h=>wpAny_pyIter_keyiter q.1 h
def gQ (hd:(d==sysModules)=false) (ho:s.heap.get? d=some od) (hx:od.ExactDict) (G5:od.data=.dict es ep)
  (hQ:Q (.ref s.heap.objs.size) { s with heap:=s.heap.push { cls:=.type "dict_keyiterator",data:=.fields #[.ref d,.int 0 0,.int es.size 0,.int ep 0] } }):GM prog w A (pyIter (.ref d)) Q E s:=by
 have hT:s.TypeIs (.ref d) "dict":=⟨od,ho,hx.1⟩;refine wpAny_pyIter_slot hT F.slot_dict_iter (wpAny_call_entry F.slot_dict_iter hT F.entry_dict_iter ?_ (F.args_dict_iter_1 _));refine zC1 (zC1 (wpAny_notOrdered_dict hT ?_));refine (?_:wpAny _ _ (pure (Value.ref d)) _ _ s);refine zC2 ?_;refine (?_:wpAny _ _ (Builtin.Dict.showsAll d >>= _) _ _ s)
 skip
 refine zC1 (bI (by rw [hd]; exact NK) (zC2 ?_));refine zC1 (wpAny_dictEntries ho G5 (zC1 (wpAny_dictEpoch ho G5 ?_)));exact zC1 (wpAny_newObj_type (zC2 ⟨_,rfl, "dict_keyiterator",_,⟨_,Q2 _ rfl,rfl⟩,F.slot_dict_keyiterator_next.lookup,hQ⟩))
end
section
variable {prog:Program} {w:World} {A:Around} {E:GE} {s:Shared}
def qu {α:Type} {l m:List α} (hl:l.length=m.length) (h:∀ (j:Nat) v,l[j]?=some v->m[j]?=some v):l=m:=by
 refine List.ext_getElem? fun j=>?_;cases e:l[j]? with
 | some v=>exact (h j v e).symm
 | none=>exact (List.getElem?_eq_none (hl▸List.getElem?_eq_none_iff.mp e)).symm
def fw {R:Result->Shared->Prop} {D X:Addr} {T:String} {c:Nat} {res:Value} (C:List Value->Prop) (hh:A.handled=none) (hD:s.heap.get? D=some { cls:=.type "list",dict:=none,data:=.seq #[] c,slots:=#[] }) (Gc:D≠X) (hT:T="set"\/T="dict_values"\/T="dict") (Mt:s.TypeIs (.ref X) T)
  (KT:∀ (s':Shared) (Q:Bool->Shared->Prop) (E:GE),ao s.heap s'.heap->Q false s'->GM prog w A.in1 (Builtin.List.listLengthHint (.ref X)) Q E s')
  (HH:∀ (Q:GE) (E:GE),(∀ (GW:List Value) I fp wr St h' d,C GW->GW.length<=sizeLine->ao s.heap h'->(∀ b∈wr,s.heap.get? b=none)->D∉fp->Walks prog w A.in1 I fp wr GW.length (fun i v=>GW[i]?=some v) St->St 0 h'->Q (.ref I) { s with heap:=h',drawn:=d })->GM prog w A.in1 (pyIter (.ref X)) Q E s)
  (hR:∀ (out:List Value) h' d tk c',C out->(∀ b o,b≠D->s.heap.get? b=some o->h'.get? b=some o)->h'.get? D=some { cls:=.type "list",dict:=none,data:=.seq out.toArray c',slots:=#[] }->R (.ok (.ret res)) { s with heap:=h',drawn:=d,toks:=tk }) :
  GM prog w A.in1 (Builtin.List.listExtendWith (.ref D) (.ref X) res) (fun fin s'=>match fin with | .done f=>R (.ok f) s' | .again c'=>c'.quiet=true/\codeAny (model prog w) A c' R s') (fun e s'=>R (.error e) s') s:=by
 unfold Builtin.List.listExtendWith;refine zC1 (wpAny_typeOf Mt ?_);have h1:Builtin.List.listSameRef (.ref D) (.ref X)=false:=by simp [Builtin.List.listSameRef,Gc]
 have h2:(Value.type T==Value.type "list")=false:=by rcases hT with rfl | rfl | rfl <;> decide
 have h3:(Value.type T==Value.type "tuple")=false:=by rcases hT with rfl | rfl | rfl <;> decide
 simp only [h1,h2,h3,Bool.or_false,false_eq_true,if_false];refine zC1 (HH _ _ fun GW I fp wr St h' d hC hz k hw hf W GY=>?_);refine zC1 (NN (KT _ _ _ k ?_));rw [NP (by rcases hT with rfl | rfl | rfl <;> decide)];refine (bRu (zC1 ?_));have hS1:=k _ _ hD;refine (?_:wpAny _ A.in1 (updateSeq D (·.push .none) >>= fun U=>updateSeq D (·.pop)) _ _ _);refine zC1 (wpAny_updateSeq hS1 rfl ?_);have LP:=get?_update_self (mapSeq (·.push Value.none)) hS1 rfl;refine wpAny_updateSeq LP rfl ?_;have hS3:=get?_update_self (mapSeq (·.pop)) LP rfl;have Jj:∀ b ob,b≠D->h'.get? b=some ob->((h'.update D (mapSeq (·.push Value.none))).update D (mapSeq (·.pop))).get? b=some ob:=
  fun b ob hb e=>(get?_update_other _ _ (Ne.symm hb)).trans ((get?_update_other _ _ (Ne.symm hb)).trans e)
 refine zC2 ⟨plainId_quiet PySem.F.plain_extend_loop _,codeAny_extend_loopS W.toS hz _ hf _ GW.length 0 _ _ _ rfl (zero_le _) (W.frame 0 _ _ GY fun b hb ob e=>Jj b ob (fun q=>hf (q▸hb)) e) hS3 (ItemsOf.nil _) fun s' M9 c' hm hS' K5=>?_⟩;have e1:M9.toList=GW:=qu (by rw [zB3,K5.1]) fun j v e=>K5.2 j v (Q5▸e);obtain ⟨hp,gs,dr,tk,os⟩:=s';obtain ⟨m1,m2,m3,m4,m5⟩:=hm;subst m2; cases m3; subst m4;refine hR GW hp d tk c' hC (fun b ob q e=>m1 b ob (fun q'=>?_) (Jj b ob q (k _ _ e))) (by subst e1; exact hS');rcases mem_cons.mp q' with q' | q'
 ·exact q q'
 ·have:=hw b q'; rw [e] at this; (injection this; done)
end
def eY (s:Shared) (a:Value):Prop:=∃ T id,s.TypeIs a T/\typeLookup (.type T) "__getitem__"=pure (some (.builtin id))
section
variable {Φ:Ct} {s:Shared} {v u:Value} {x y z:V} {α:Type}
def gR {f:α->V} {C:Value->Prop} (e:nz l f y=some z) (r:Φ.rp s.heap u y) (k:∀ i t j w,-(2 ^ 63)<=i->i < 2 ^ 63->(0<=i/\j=i.toNat\/i < 0/\-(l.length:Int)<=i/\j=(i+l.length).toNat)->j < l.length->l[j]?=some w->f w=z->C (.int i t)):C u:=by
 refine bJ (C:=fun y=>Φ.rp s.heap u y->C u) e (fun i e r=>?_) r;refine aU e fun hz e=>?_;have hz:l.length<=1048576:=hz;obtain ⟨w,ew,rfl⟩:=map_eq_some_iff.mp e;clear e;refine r.int_elim fun t=>?_;by_cases h0:0<=i
 ·rw [NP h0] at ew;have hj:=(List.getElem?_eq_some_iff.mp ew).1;exact k i t i.toNat w (by exact le_trans (by decide) h0) (Int.lt_of_lt_of_le ((toNat_lt h0).mp hj) (le_trans (ofNat_le.mpr hz) (by decide))) (.inl ⟨h0,rfl⟩) hj ew rfl
 ·rw [NQ h0] at ew;refine aU ew fun h1 e=>?_;have hj:=(List.getElem?_eq_some_iff.mp e).1;exact k i t _ w (by lia) (by lia) (.inr ⟨by exact Int.not_le.mp h0,by lia,rfl⟩) hj e rfl
def jK {i:Int} {n j:Nat} (h:0<=i/\j=i.toNat\/i < 0/\-(n:Int)<=i/\j=(i+n).toNat) (hj:j < n):seqIndex? i n=some j:=by
 rcases h with ⟨h0,rfl⟩ | ⟨h0,h1,rfl⟩
 ·unfold seqIndex?;rw [NQ (Int.not_lt.mpr h0)];exact NP (by rw [NL h0,NL (show i < (n:Int) from (toNat_lt h0).mp hj)]; rfl)
 ·exact seqIndex_neg h0 h1
def mD {vs:Array Value} {n:Nat} (h:vs.toList[n]?=some v):vs[n]?=some v:=by rw [Q5] at h; exact h
def zO (e:nz l id y=some z) (hL:s.heap.IsList a vs) (hl:Φ.rps s.heap vs.toList l) (r2:Φ.rp s.heap u y):Φ.wp (getItem (.ref a) u) (Φ.Gives s z) s:=by
 have len:vs.size=l.length:=length_toList▸hl.length;refine gR (C:=fun u=>Φ.wp (getItem (.ref a) u) (Φ.Gives s z) s) e r2 fun i t j w h1 h2 h3 hj ew ez=>?_;obtain ⟨q,eq,rq⟩:=hl.get ew;subst ez;rcases h3 with ⟨h0,rfl⟩ | ⟨h0,h4,rfl⟩
 ·exact fun E=>wpAny_getItem_list hL h0 h2 (mD eq) ⟨.refl _,rq⟩
 ·exact fun E=>wpAny_getItem_list_neg hL h0 (by rw [len]; exact h4) h1 (by rw [len]; exact mD eq) ⟨.refl _,rq⟩
def wR (I:Inv Φ s) (e:g9 x y=some z) (r1:Φ.rp s.heap v x) (r2:Φ.rp s.heap u y):eY s v/\Φ.wp (getItem v u) (Φ.Gives s z) s:=by
 cases x with
 | list l=>
  refine r1.list_elim fun a o vs n U ha hc hd hl=>?_;have hL:s.heap.IsList a vs:=⟨_,ha,hc.1,_,hd⟩;exact ⟨⟨_,_,hL.typeIs,slot_list_getitem.lookup⟩,zO e hL hl r2⟩
 | tuple l=>
  refine r1.tuple_elim fun a o vs n U ha hc hd hl=>?_;have hL:IsTup s.heap a vs:=⟨_,ha,hc,_,hd⟩;have len:vs.size=l.length:=length_toList▸hl.length;refine ⟨⟨_,_,hL.typeIs,slot_tuple_getitem.lookup⟩,gR (C:=fun u=>Φ.wp (getItem (.ref a) u) (Φ.Gives s z) s) e r2 fun i t j w h1 h2 h3 hj ew ez=>?_⟩;obtain ⟨q,eq,rq⟩:=hl.get ew;subst ez;exact fun E=>getItem_tuple hL h1 h2 (by rw [len]; exact jK h3 hj) (mD eq) ⟨.refl _,rq⟩
 | str a=>
  refine r1.str_elim fun t0=>⟨⟨_,_,typeIs_str _ _ _,PySem.F.slot_str_getitem.lookup⟩,gR (C:=fun u=>Φ.wp (getItem (.str a t0) u) (Φ.Gives s z) s) e r2 fun i t j w h1 h2 h3 hj ew ez=>?_⟩;subst ez;refine fun E=>P.getItem_str (c:=w) ?_ ?_ ⟨.toks _ _,.text rfl⟩
  ·rw [NM (Int.not_lt.mpr h1),NM (Int.not_le.mpr h2)]; rfl
  ·have hn:a.cps.toList.length=a.length:=length_toList;rw [show seqIndex? i a.length=some j from hn▸jK h3 hj];rw [Q5] at ew; exact ew
 | dict FP=>
  have e:(if (dkV FP&&aZ y)=true then bt FP y else none)=some z:=e;refine aU e fun q e=>?_;have q:=zA2 q;refine r1.dict_elim q.1 fun a o es n U U ha hc hd hk k1 k2=>?_;obtain ⟨xs,D,En⟩:=DAt.dk ⟨o,es,n,ha,hc,hd,hk,k1,k2⟩;obtain ⟨b,rfl⟩:=gE r2 q.2;rcases En.at q.2 with ⟨_,e1,_⟩ | ⟨p,z',e1,e2,_,rz⟩
  ·exact nomatch e1.symm.trans e
  ·obtain rfl:z'=z:=LE (e2.symm.trans e);exact ⟨⟨_,_,⟨o,ha,hc.1⟩,slot_dict_getitem.lookup⟩,fun E=>@wpAny_getItem_heap _ _ V dG (eQ Φ.fx.g.prog Φ.fx.g.w) _ _ _ _ _ _ _ _ _ I.room3 (KIs.of q.2 r2) D e1 ⟨.toks _ _,rz⟩⟩
 | _=>(injection e; done)
noncomputable def pC (d n:Nat):Option Int->Nat
 | none=>d
 | some i=>if 0<=i then min i.toNat n else (i+n).toNat
def RpO (Φ:Ct) (h:Heap) (v:Value) (y:Option V):Prop:=match y with
 | none=>v=.none
 | some x=>Φ.rp h v x
def dw {d n i:Nat} {y:Option V} {C:Value->Prop} (e:pz d n y=some i) (r:RpO Φ s.heap v y) (k:∀ p:Option (Int×Tok),pC d n (p.map (·.1))=i->C (partValue p)):C v:=by
 cases y with
 | none=>subst r; (injection e with e; subst e); exact k none rfl
 | some x=>exact bJ (C:=fun x=>Φ.rp s.heap v x->C v) e (fun i e r=>r.int_elim fun t=>k (some (i,t)) (LE e)) r
def si (p:Option (Int×Tok)):IsPart (partValue p) (p.map (·.1)):=by
 cases p with
 | none=>exact .none
 | some q=>exact .int _ _
def pL (h:i < 0):i+(n:Int)<=n:=le_trans (Int.add_le_add_right (Int.le_of_lt h) n) (Int.le_of_eq (Int.zero_add _))
def ji (h:d<=n) (p:Option Int):pC d n p<=n:=by
 cases p with
 | none=>exact h
 | some i=>
  refine (?_:(if 0<=i then min i.toNat n else (i+n).toNat)<=n);by_cases c:0<=i
  ·rw [NP c]; exact min_le_right _ _
  ·rw [NQ c]; exact toNat_le.mpr (pL (Int.not_le.mp c))
def te {n:Nat} (i:Int):(if i < 0 then max (i+(n:Int)) 0 else min i n)=((pC 0 n (some i):Nat):Int):=by
 refine (?_:_=(((if 0<=i then min i.toNat n else (i+n).toNat):Nat):Int));by_cases h:0<=i
 ·rw [NP h,NQ (Int.not_lt.mpr h),Lean.Omega.Int.ofNat_min,toNat_of_nonneg h]
 ·rw [NQ h,NP (Int.not_le.mp h),Int.ofNat_toNat]
def yp {n:Nat} (i:Int):max 0 (min (if i < 0 then i+(n:Int) else i) (n:Int))=((pC 0 n (some i):Nat):Int):=by
 rw [<- te];by_cases h:i < 0
 ·rw [NP h,NP h,Int.min_eq_left (pL h),Int.max_comm]
 ·rw [NQ h,NQ h,Int.max_eq_right (Int.le_min.mpr ⟨Int.not_lt.mp h,natCast_nonneg n⟩)]
def fN (h:d<=n):((d:Nat):Int)=max 0 (min (if (d:Int) < 0 then (d:Int)+(n:Int) else (d:Int)) (n:Int)):=by
 rw [NQ (Int.not_lt.mpr (natCast_nonneg d)),Int.min_eq_left (ofNat_le.mpr h),Int.max_eq_right (natCast_nonneg d)]
def ng (h:a=c) (k:b=d):sliceRange a b 1=sliceRange c d 1:=by rw [h,k]
def kL {lo hi:Option Int} {n i j:Nat} (h1:pC 0 n lo=i) (h2:pC n n hi=j) (Gz:i<=j):Builtin.Str.strSliceIndices lo hi 1 n=(List.range (j - i)).map (i + ·):=by
 have hj:j<=n:=h2▸ji (le_refl n) hi;refine Eq.trans ?_ (StrLaws.strSliceIndices_plain (len:=n) Gz hj);cases lo with
 | none=>cases hi with
  | none=>have h1:0=i:=h1; subst h1; have h2:n=j:=h2; subst h2; exact ng (fN (d:=0) (n:=n) (zero_le n)) (fN (le_refl n))
  | some b=>have h1:0=i:=h1; subst h1; exact ng (fN (d:=0) (n:=n) (zero_le n)) ((yp b).trans ((NO _ h2).trans (fN hj)))
 | some a=>
  have ea:=(yp (n:=n) a).trans ((NO _ h1).trans (fN (zB1 Gz hj)));cases hi with
  | none=>have h2:n=j:=h2; subst h2; exact ng ea (fN (le_refl n))
  | some b=>exact ng ea ((yp b).trans ((NO _ h2).trans (fN hj)))
def jE {xs:Array α} {i j:Nat} (Gz:i<=j) (hj:j<=xs.size):((List.range (j - i)).map (i + ·)).filterMap (xs[·]?)=(xs.toList.drop i).take (j - i):=by
 rw [<- StrLaws.picks xs.toList (j - i) i (by rw [zB3]; exact zB1 (zB2 (Q9 Gz)) hj)];exact NO (List.filterMap · _) (funext fun k=>(Q5).symm)
def jO {l:List α} {f:List α->V} {lo hi:Option V} {C:V->Prop} (e:mM f l lo hi=some z) (k:∀ i j,l.length<=af->pz 0 l.length lo=some i->pz l.length l.length hi=some j->i<=j->C (f ((l.drop i).take (j - i)))):C z:=
 aU e fun hz e=>(bind_eq_some_iff.mp e).elim (by rintro i ⟨h1,e⟩; exact (bind_eq_some_iff.mp e).elim (by rintro j ⟨h2,e⟩; exact if_elim e fun Gz=>k i j hz h1 h2 Gz))
def jX {l:List V} {lo hi:Option V} {vl vu:Value} {sl:Addr} (I:Inv Φ s) (e:mM PyData.list l lo hi=some z) (r:Φ.rp s.heap v (.list l)) (rl:RpO Φ s.heap vl lo) (ru:RpO Φ s.heap vu hi) (hs:s.heap.IsSliceOf sl vl vu .none) :
  eY s v/\Φ.wp (getItem v (.ref sl)) (Φ.Gives s z) s:=by
 refine r.list_elim fun a o vs n U ha hc hd hl=>?_;have hL:s.heap.IsList a vs:=⟨_,ha,hc.1,_,hd⟩;have len:vs.size=l.length:=length_toList▸hl.length;refine ⟨⟨_,_,hL.typeIs,slot_list_getitem.lookup⟩,jO (C:=fun z=>Φ.wp (getItem (.ref a) (.ref sl)) (Φ.Gives s z) s) e fun i j hz h1 h2 Gz=>?_⟩;refine dw (C:=fun vl=>s.heap.IsSliceOf sl vl vu .none->_) h1 rl (fun p hp hs=>?_) hs;refine dw (C:=fun vu=>s.heap.IsSliceOf sl (partValue p) vu .none->_) h2 ru (fun q hq hs=>?_) hs;refine fun E=>wpAny_getItem_list_slice hL hs (si p) (si q) .none (fun q=>nN q.symm) ?_ (by rw [len]; exact bF hz);have:slicePick vs (p.map (·.1)) (q.map (·.1)) none=((vs.toList.drop i).take (j - i)).toArray:=by
  refine NO toArray ?_;refine (?_:(Builtin.Str.strSliceIndices _ _ 1 vs.size).filterMap (vs[·]?)=_);rw [len,kL hp hq Gz,jE Gz (by rw [len,<- hq]; exact ji (le_refl _) _)]
 rw [this];exact gM (tk:=s.toks) I ((hl.drop _).take _)
def uy {n i j:Nat} {lo hi:Option Int} (h1:pC 0 n lo=i) (h2:pC n n hi=j):Builtin.Slice.sliceAdjust lo hi 1 (n:Int)=((i:Int),(j:Int)):=by
 have c:=fun a:Int=>te (n:=n) a;unfold Builtin.Slice.sliceAdjust;cases lo <;> cases hi
 ·subst h1; subst h2; rfl
 ·subst h1; exact Prod.ext rfl ((c _).trans (NO _ h2))
 ·subst h2; exact Prod.ext ((c _).trans (NO _ h1)) rfl
 ·exact Prod.ext ((c _).trans (NO _ h1)) ((c _).trans (NO _ h2))
def tV {i j:Nat} (h:i<=j):Builtin.Slice.slicePlaces (i:Int) (j:Int) 1=j - i:=by
 unfold Builtin.Slice.slicePlaces;rw [NP (by decide),Int.ediv_one,Int.sub_add_cancel,<- Int.ofNat_sub h];by_cases c:(i:Int) < j
 ·rw [NP c]; rfl
 ·rw [NQ c,Nat.sub_eq_zero_of_le (ofNat_le.mp (Int.not_lt.mp c))]; rfl
def qQ {E:GE} {Q:Int×Int×Nat->Shared->Prop} (hs:s.heap.IsSliceOf sl (partValue p) (partValue q) .none) (h1:pC 0 n (p.map (·.1))=i) (h2:pC n n (q.map (·.1))=j) (Gz:i<=j)
  (h:Q ((i:Int),1,j - i) s):GM prog w A (Builtin.Slice.sliceApplied (.ref sl) (pure (n:Int))) Q E s:=by
 obtain ⟨os,IB,hcs,LM⟩:=id hs;have Ki:∀ (p:Option (Int×Tok)) {Q:Option Int->Shared->Prop},Q (p.map (·.1)) s->GM prog w A (Builtin.Slice.slicePartIndex (partValue p)) Q E s:=fun p Q h=>by
  cases p with
  | none=>exact slicePart_none h
  | some q=>exact slicePart_int h
 unfold Builtin.Slice.sliceApplied Builtin.Slice.sliceFields;refine zC1 ((bFi IB LM (x:=partValue p) rfl ((bFi IB LM (x:=partValue q) rfl ((bFi IB LM (x:=.none) rfl (zC2 ?_)))))));refine zC1 (slicePart_none ?_);refine (?_:wpAny _ _ (if ((1:Int)==0)=true then _ else _) _ _ s);rw [NQ (by decide)];refine zC1 (Ki p (zC1 (Ki q ((bPu ?_)))));refine (?_:wpAny _ _ (match Builtin.Slice.sliceAdjust (p.map (·.1)) (q.map (·.1)) 1 (n:Int) with | (lo,hi)=>pure (lo,(1:Int),Builtin.Slice.slicePlaces lo hi 1)) _ _ s);rw [uy h1 h2];refine (?_:wpAny _ _ (pure ((i:Int),(1:Int),Builtin.Slice.slicePlaces (i:Int) (j:Int) 1)) _ _ s);rw [tV Gz];exact wpAny_pure h
def iz {l:List V} {lo hi:Option V} {vl vu:Value} {sl:Addr} (I:Inv Φ s) (e:mM PyData.tuple l lo hi=some z) (r:Φ.rp s.heap v (.tuple l)) (rl:RpO Φ s.heap vl lo) (ru:RpO Φ s.heap vu hi) (hs:s.heap.IsSliceOf sl vl vu .none) :
  eY s v/\Φ.wp (getItem v (.ref sl)) (Φ.Gives s z) s:=by
 refine r.tuple_elim fun a o vs n hb ha hc hd hl=>?_;have r:Φ.rp s.heap (.ref a) (.tuple l):=.tuple hb ha hc hd hl;have ht:IsTup s.heap a vs:=⟨_,ha,hc,_,hd⟩;have len:vs.size=l.length:=length_toList▸hl.length;refine ⟨⟨_,_,ht.typeIs,slot_tuple_getitem.lookup⟩,jO (C:=fun z=>Φ.wp (getItem (.ref a) (.ref sl)) (Φ.Gives s z) s) e fun i j hz h1 h2 Gz=>?_⟩;refine dw (C:=fun vl=>s.heap.IsSliceOf sl vl vu .none->_) h1 rl (fun p hp hs=>?_) hs;refine dw (C:=fun vu=>s.heap.IsSliceOf sl (partValue p) vu .none->_) h2 ru (fun q hq hs=>?_) hs;intro E;have hj:j<=vs.size:=by rw [len,<- hq]; exact ji (le_refl _) _
 obtain ⟨os,IB,hcs,LM⟩:=id hs;have hTs:s.TypeIs (.ref sl) "slice":=⟨os,IB,hcs⟩;unfold getItem;refine NN ?_;refine zC1 (wpAny_sequenceKey ht.typeIs (by decide) ?_);refine zC1 (wpAny_callSpecial?_slot (name:=ofString "__getitem__") ht.typeIs slot_tuple_getitem (wpAny_call_entry slot_tuple_getitem ht.typeIs entry_tuple_getitem ?_ (args_tuple_getitem _ _)));refine (?_:wpAny _ _ (Builtin.Tuple.tupleItemsOf (.ref a) >>= _) _ _ s);refine zC1 (tupleItemsOf_ ht ?_);refine zC1 (wpAny_typeOf hTs ?_);rw [NP (by decide)];rw [<- len] at hp hq;refine zC1 (qQ hs hp hq Gz ?_);refine (?_:wpAny _ _ (if ((i:Int)==0&&(1:Int)==1&&(j - i)==vs.size)=true then _ else _) _ _ s);by_cases c:((i:Int)==0&&(1:Int)==1&&(j - i)==vs.size)=true
 ·rw [NP c];have c:=zA2 c;have c1:(i:Int)=0:=Id (zA2 c.1).1;have c2:j - i=vs.size:=Id c.2;have i0:i=0:=by lia
  subst i0;rw [c2,len,drop_zero,take_length];refine zC1 (zC1 (wpAny_typeOf ht.typeIs (zC2 ?_)));exact (bRu (zC2 ⟨_,rfl,zC2 ⟨.refl _,r⟩⟩))
 ·rw [NQ c];have ep:(List.range (j - i)).filterMap (fun (k:Nat)=>vs[((i:Int)+(k:Int) * 1).toNat]?)=(vs.toList.drop i).take (j - i):=by
   rw [<- jE Gz hj,List.filterMap_map];exact NO (List.filterMap · _) (funext fun k=>by refine (?_:vs[((i:Int)+(k:Int) * 1).toNat]?=vs[i+k]?); rw [Int.mul_one]; rfl)
  refine (?_:wpAny _ _ (Builtin.Tuple.tupleExact ((List.range (j - i)).filterMap (fun (k:Nat)=>vs[((i:Int)+(k:Int) * 1).toNat]?)).toArray >>= _) _ _ _);rw [ep];refine wpAny_bind (m:=Builtin.Tuple.tupleExact _) (wpAny_newObj_type (zC2 ⟨_,rfl,zC2 (cC (tk:=s.toks) I ((hl.drop _).take _))⟩) ?_);refine (?_:(toArray _).size<=sizeLine);rw [size_toArray];exact zB1 (List.length_take_le' ..) (zB1 (by rw [length_drop]; exact sub_le ..) (bF (hl.length▸hz)))
def lE {t:Str} {lo hi:Option V} {vl vu:Value} {sl:Addr} (e:mM text t.cps.toList lo hi=some z) (r:Φ.rp s.heap v (.str t)) (rl:RpO Φ s.heap vl lo) (ru:RpO Φ s.heap vu hi) (hs:s.heap.IsSliceOf sl vl vu .none) :
  eY s v/\Φ.wp (getItem v (.ref sl)) (Φ.Gives s z) s:=by
 refine r.str_elim fun tk=>?_;refine ⟨⟨_,_,typeIs_str _ _ _,PySem.F.slot_str_getitem.lookup⟩,jO (C:=fun z=>Φ.wp (getItem (.str t tk) (.ref sl)) (Φ.Gives s z) s) e fun i j hz h1 h2 Gz=>?_⟩;refine dw (C:=fun vl=>s.heap.IsSliceOf sl vl vu .none->_) h1 rl (fun p hp hs=>?_) hs;refine dw (C:=fun vu=>s.heap.IsSliceOf sl (partValue p) vu .none->_) h2 ru (fun q hq hs=>?_) hs;rw [zB3] at hp hq;have hj:j<=t.cps.size:=hq▸ji (le_refl _) _;refine fun E=>wpAny_getItem_str_slice (l:=p) (u:=q) (st:=none) hs rfl ?_;unfold sliceMade;have e3:slicePicked t p q none=(List.range (j - i)).map (i + ·):=kL hp hq Gz;rw [e3];split
 ·rename_i hf;have hf:=Id (zA2 hf).2;rw [zA4,length_range] at hf;have hf:j - i=t.cps.size:=hf;refine ⟨.refl _,.text ?_⟩;rw [hf,show i=0 by grind,drop_zero,<- zB3,take_length]
 ·rw [jE Gz hj];refine ⟨?_,.toks _ _,.text rfl⟩
  show (toArray _).size<=sizeLine
  rw [size_toArray];exact zB1 (List.length_take_le' ..) (zB1 (by rw [length_drop]; exact sub_le ..) (bF hz))
def vd {lo hi:Option V} {vl vu:Value} {sl:Addr} (I:Inv Φ s) (e:dF x lo hi=some z) (r:Φ.rp s.heap v x) (rl:RpO Φ s.heap vl lo) (ru:RpO Φ s.heap vu hi) (hs:s.heap.IsSliceOf sl vl vu .none) :
  eY s v/\Φ.wp (getItem v (.ref sl)) (Φ.Gives s z) s:=by
 cases x with
 | list l=>exact jX I e r rl ru hs
 | tuple l=>exact iz I e r rl ru hs
 | str t=>exact lE e r rl ru hs
 | _=>(injection e; done)
end
noncomputable abbrev DV:=(V->Prop)->Prop
section
variable {Φ:Ct} {s:Shared} {d d1 d2 d3:DV}
def xG {r:Value->Sem Value} {t:Value->Value->Sem Value} {op:V->V->Option V} (h1:Ev Φ l d1) (h2:∀ v,Ev Φ (r v) d2)
  (st:∀ s v u x y z,Inv Φ s->Φ.rp s.heap v x->Φ.rp s.heap u y->op x y=some z->Φ.wp (t v u) (Φ.Gives s z) s):Ev Φ (do let v <- l; let u <- r v; t v u) (fun K=>d1 fun x=>d2 fun y=>okK (op x y) K):=fun K s hd I=>
 h1.bind hd I fun v x s₁ FM FQ hx r1=>(h2 v).bind hx FM fun u y FN FU F4 hy r2=>ae hy fun z e kz=>step FU kz (st FN v u x y z FU (r1.keep F4) r2 e)
def Dc (h1:Ev Φ (eval l Φ.fx.env) d1) (h2:Ev Φ (eval r Φ.fx.env) d2):Ev Φ (eval (.BinOp l o r pos) Φ.fx.env) (fun K=>d1 fun x=>d2 fun y=>okK (uL o x y) K):=by
 rw [eval_BinOp];exact xG (op:=uL o) h1 (fun v=>h2.holding) fun s v u x y z I r1 r2 e=>a8 (dz (Dm e I r1 r2))
def iW (h:bw e=true):markedBehindIn o e t=t:=markedBehindIn_of_false (by cases e <;> first | rfl | exact nB h)
def xI (hs:bw r=true) (h1:Ev Φ (eval l Φ.fx.env) d1) (h2:Ev Φ (eval r Φ.fx.env) d2):Ev Φ (eval (.Compare l [o] [r] pos) Φ.fx.env) (fun K=>d1 fun x=>d2 fun y=>okK (aO o x y) fun b=>K (.bool b)):=fun K s hd I=>by
 rw [eval_Compare1,iW hs];exact h1.bind hd I fun v x s₁ FM FQ hx r1=>h2.holding.bind hx FM fun u y FN FU F4 hy r2=>ae hy fun c e kc=>a8 (dz fun E=>LT (rk e FU (r1.keep F4) r2 E) (fun w s' q=>by obtain ⟨gr,rfl⟩:=q; exact ⟨FU.base.grown gr,gr.keeps,_,kc,.bool c⟩) fun U U z=>z)
def fR (e:bY y some=some b) (r:Φ.rp s.heap v y) (h:Q b s):Φ.wp (truthy v) Q s:=
 fy (C:=fun y=>Φ.rp s.heap v y->Φ.wp (truthy v) Q s) e (fun c e r=>r.bool_elim fun E=>wpAny_truthy_bool (LE e▸h)) r
noncomputable abbrev tst (d:DV):(Bool->Prop)->Prop:=fun K=>d fun y=>okK (bY y some) K
def Aj (h:Ev Φ (eval x Φ.fx.env) d) (hx:isTrue x Φ.fx.env (eval x Φ.fx.env)=(do let v <- eval x Φ.fx.env; standAt x.pos; holding [v] (truthy v))):EvT Φ (isTrue x Φ.fx.env (eval x Φ.fx.env)) (tst d):=fun K s hd I=>by
 rw [hx];exact h.bind hd I fun v y s₁ FM FQ hy r=>ae hy fun b e kb=>a8 fun E=>NN (fR (Q:=Post Φ (fun U=>Eq) s₁ K) e r ⟨FM.base,.refl _,b,kb,rfl⟩ E)
def u0 (hs:bw r=true) (h1:Ev Φ (eval l Φ.fx.env) d1) (h2:Ev Φ (eval r Φ.fx.env) d2):EvT Φ (isTrue (.Compare l [o] [r] pos) Φ.fx.env w) (fun K=>d1 fun x=>d2 fun y=>okK (aO o x y) K):=fun K s hd I=>by
 have e:isTrue (.Compare l [o] [r] pos) Φ.fx.env w=(eval (.Compare l [o] [r] pos) Φ.fx.env >>= fun c=>holding [c] (truthy c)):=by
  rw [isTrue_Compare1,eval_Compare1]; simp only [bind_assoc]
 rw [e];exact (xI hs h1 h2).bind (K₁:=fun y=>okK (bY y some) K) hd I fun v y s₁ FM FQ hy r=>ae hy fun b e kb=>fun E=>NN (fR (Q:=Post Φ (fun U=>Eq) s₁ K) e r ⟨FM.base,.refl _,b,kb,rfl⟩ E)
def C5 (h:Ev Φ (eval x Φ.fx.env) d):Ev Φ (eval (.UnaryOp .Not x pos) Φ.fx.env) (fun K=>d fun y=>okK (bY y some) fun b=>K (.bool (!b))):=fun K s hd I=>by
 rw [arm_eval_UnaryOp];refine h.bind hd I fun v y s₁ FM FQ hy r=>a8 fun E=>NN ?_;refine (?_:wpAny _ _ (holding [v] (truthy v >>= fun t=>pure (Value.bool (!t)))) _ _ _);exact ae hy fun b e kb=>NN (zC1 (fR e r (zC2 ⟨FM.base,.refl _,_,kb,.bool _⟩) E))
def uY (h:EvT Φ (isTrue x Φ.fx.env (eval x Φ.fx.env)) (tst d)):EvT Φ (isTrue (.UnaryOp .Not x pos) Φ.fx.env w) (fun K=>d fun y=>okK (bY y some) fun b=>K (!b)):=fun K s hd I=>by
 rw [arm_isTrue_UnaryOp];exact h.bind (K₁:=fun b=>K (!b)) hd I fun t b s₁ FM FQ hb e=>EvR.pure FM hb (e▸rfl)
def C6 (h:Ev Φ (eval x Φ.fx.env) d):Ev Φ (eval (.UnaryOp .USub x pos) Φ.fx.env) (fun K=>d fun y=>okK (pd y fun i=>some (.int (-i))) K):=fun K s hd I=>by
 rw [arm_eval_UnaryOp];refine h.bind hd I fun v y s₁ FM FQ hy r=>a8 ?_;refine ae hy fun z e kz=>step FM kz fun E=>NN ?_;exact bJ (C:=fun y=>Φ.rp s₁.heap v y->wpAny _ _ _ _ _ s₁) e (fun i e r=>r.int_elim fun t=>neg_int ⟨.toks _ _,LE e▸.int _ _⟩) r
def C9 (hc:EvT Φ (isTrue c Φ.fx.env (eval c Φ.fx.env)) (tst d1)) (ha:Ev Φ (eval a Φ.fx.env) d2) (hb:Ev Φ (eval b Φ.fx.env) d3) :
  Ev Φ (eval (.IfExp c a b pos) Φ.fx.env) (fun K=>d1 fun x=>okK (bY x some) fun t=>if t=true then d2 K else d3 K):=fun K s hd I=>by
 rw [arm_eval_IfExp];refine hc.bind (K₁:=fun t=>if t=true then d2 K else d3 K) hd I fun t t' s₁ FM FQ hk e=>?_;subst e;cases t with
 | true=>exact ha K s₁ hk FM
 | false=>exact hb K s₁ hk FM
noncomputable abbrev bop:Bool->BoolOp
 | true=>.And
 | false=>.Or
noncomputable abbrev pJ (b:Bool) (ds:List DV):(Bool->Prop)->Prop:=cp b (ds.map fun d U=>d) []
def uZ:EvT Φ (allTrue (bop b) [] Φ.fx.env) (pJ b []):=fun K s hd I=>by
 rw [arm_allTrue_nil];cases b <;> exact EvR.pure I hd rfl
def tF (h:EvT Φ (isTrue x Φ.fx.env (eval x Φ.fx.env)) (tst d)) (hr:EvT Φ (allTrue (bop b) r Φ.fx.env) (pJ b ds)):EvT Φ (allTrue (bop b) (x :: r) Φ.fx.env) (pJ b (d :: ds)):=fun K s hd I=>by
 rw [arm_allTrue_cons];refine h.bind (K₁:=fun c=>if c=b then pJ b ds K else K c) hd I fun t c s₁ FM FQ hk e=>?_;subst e;cases b <;> cases t
 ·exact hr K s₁ hk FM
 ·exact EvR.pure FM hk rfl
 ·exact EvR.pure FM hk rfl
 ·exact hr K s₁ hk FM
abbrev bu (Φ:Ct) (q:Expr×DV):Prop:=Ev Φ (eval q.1 Φ.fx.env) q.2
def uu {K:V->Prop} (hy:okK (bY y some) fun c=>if c=b then K (.bool b) else K (.bool c)) (r:Φ.rp h v y):K y:=
 ae hy fun c e kc=>fy (C:=fun y=>K y) e fun c' e=>by
  cases e
  by_cases q:c=b
  ·rw [NP q] at kc; rw [q]; exact kc
  ·rw [NQ q] at kc; exact kc
theorem pu:∀ {qs:List (Expr×DV)},(∀ q∈qs,bu Φ q)->qs≠[]->Ev Φ (boolOp pos (bop b) (qs.map fun q=>eval q.1 Φ.fx.env)) (fun K=>pJ b (qs.map Prod.snd) fun c=>K (.bool c))
 | [],_,h=>absurd rfl h
 | [q],h,_=>fun K s hd I E=>by
  have e:boolOp pos (bop b) ([q].map fun q=>eval q.1 Φ.fx.env)=eval q.1 Φ.fx.env:=by cases b <;> rfl
  exact e.symm▸LT (h q (.head _) (fun y=>okK (bY y some) fun c=>if c=b then K (.bool b) else K (.bool c)) s hd I E) ((by rintro v s' ⟨B,k,y,hy,r⟩; exact ⟨B,k,y,uu hy r,r⟩)) fun U U z=>z
 | q :: q' :: r,h,_=>fun K s hd I=>by
  have hr:=pu (b:=b) (pos:=pos) (qs:=q' :: r) (fun x m=>h x (.tail _ m)) (by simp);have go:∀ t u (l:List (Sem Value)),boolOp pos (bop b) (t :: u :: l)=(do let v <- t; standAt pos; let c <- holding [v] (truthy v); if c=b then boolOp pos (bop b) (u :: l) else pure v):=fun t u l=>by
   cases b <;> exact bind_congr fun v=>bind_congr fun U=>bind_congr fun c=>by cases c <;> rfl
  rw [map_cons,map_cons,go];refine (h q (.head _)).bind (K₁:=fun y=>okK (bY y some) fun c=>if c=b then pJ b ((q' :: r).map Prod.snd) (fun c=>K (.bool c)) else K (.bool c)) hd I fun v y s₁ FM FQ hy rp=>a8 ?_;refine ae hy fun c e kc E=>zC1 (NN (fR e rp ?_ E));by_cases qc:c=b
  ·rw [NP qc] at kc ⊢;exact hr K s₁ kc FM E
  ·rw [NQ qc] at kc ⊢;exact zC2 ⟨FM.base,.refl _,_,kc,fy (C:=fun y=>Φ.rp s₁.heap v y->Φ.rp s₁.heap v (.bool c)) e (fun c' e r=>by (injection e with e; subst e); exact r) rp⟩
theorem oD:∀ {qs:List (Expr×DV)},(∀ q∈qs,EvT Φ (isTrue q.1 Φ.fx.env (eval q.1 Φ.fx.env)) (tst q.2))->EvT Φ (allTrue (bop b) (qs.map Prod.fst) Φ.fx.env) (pJ b (qs.map Prod.snd))
 | [],_=>uZ
 | q :: r,h=>tF (h q (.head _)) (oD fun x m=>h x (.tail _ m))
noncomputable abbrev br (ds:List DV):(List V->Prop)->Prop:=bj (ds.map fun d U=>d) []
def aF (h:aq e=true):starEach (e :: r) env=(false,eval e env) :: starEach r env:=by
 cases e <;> first | rfl | exact nB h
theorem d5:∀ {qs:List (Expr×DV)},(∀ q∈qs,aq q.1=true/\bu Φ q)->EvL Φ (spliced (backTo pos (starEach (qs.map Prod.fst) Φ.fx.env))) (br (qs.map Prod.snd))
 | [],_=>fun K s hd I=>EvR.pure (a:=[]) I hd .nil
 | q :: r,h=>fun K s hd I=>by
  refine map_cons.symm▸(aF (h q (.head _)).1).symm▸?_;have e:spliced (backTo pos ((false,eval q.1 Φ.fx.env) :: starEach (r.map Prod.fst) Φ.fx.env))=(eval q.1 Φ.fx.env >>= fun v=>holding [v] (spliced (backTo pos (starEach (r.map Prod.fst) Φ.fx.env))) >>= fun vs=>pure (v :: vs)):=rfl;rw [e];exact (h q (.head _)).2.bind (K₁:=fun x=>br (r.map Prod.snd) fun xs=>K (x :: xs)) hd I fun v x s₁ FM FQ hx r1=>(d5 fun q m=>h q (.tail _ m)).holding.bind hx FM fun vs xs FN FU F4 hxs rs=>EvR.pure FU hxs (.cons (r1.keep F4) rs)
def wu {qs:List (Expr×DV)} {k:Nat} (h:∀ q∈qs,aq q.1=true/\bu Φ q):EvC Φ true (eval (.Tuple (qs.map Prod.fst) k pos) Φ.fx.env) (fun K=>br (qs.map Prod.snd) fun xs=>okK (cq xs (.tuple xs)) K):=fun K s hd I=>by
 rw [arm_eval_Tuple];refine a8 ((d5 h).bindC hd I fun vs xs s₁ FM FQ hx rs=>ae hx fun z e kz=>fit_elim (C:=fun z=>K z->Φ.wp _ (jz Φ true s₁ K) s₁) e (fun q kz E=>?_) kz);have m:=cC (n:=0) (tk:=s₁.toks) FM rs;exact wpAny_newObj_type ⟨⟨FM.base.grown m.1,m.1.keeps,_,kz,m.2⟩,fun U=>eB (le_refl _)⟩ (by refine (?_:vs.toArray.size<=sizeLine); rw [size_toArray,rs.length]; exact bF q)
def An {qs:List (Expr×DV)} (h:∀ q∈qs,aq q.1=true/\bu Φ q):Ev Φ (eval (.List (qs.map Prod.fst) pos) Φ.fx.env) (fun K=>br (qs.map Prod.snd) fun xs=>okK (cq xs (.list xs)) K):=fun K s hd I=>by
 rw [arm_eval_List];refine a8 ((d5 h).bind hd I fun vs xs s₁ FM FQ hx rs=>ae hx fun z e kz=>step FM kz ?_);exact fit_elim e fun q E=>wpAny_newObj_type (gM (tk:=s₁.toks) FM rs) (by refine (?_:vs.toArray.size<=sizeLine); rw [size_toArray,rs.length]; exact bF q)
def jC (h:eY s o/\Φ.wp (getItem o i) (Φ.Gives s z) s):Φ.wp (do standAt pos; let r <- subscripted slice (<- getitemInPython o) o i; letTemporaryGo value o r; pure r) (Φ.Gives s z) s:=by
 obtain ⟨⟨T,id,hT,hl⟩,hg⟩:=h;refine a8 fun E=>?_;rw [getitemInPython_of_ne hT.not_modules];refine zC1 (zC1 (wpAny_specialOf hT hl ?_));refine zC2 ?_;have fin:∀ vs,wpAny (model Φ.fx.g.prog Φ.fx.g.w) Φ.fx.A (operate vs (getItem o i) >>= fun r=>letTemporaryGo value o r >>= fun U=>pure r) (Φ.Gives s z) E s:=fun vs=>
  zC1 (LT (dz hg E) (fun a s' p=>zC1 (wpAny_letTemporaryGo (wpAny_pure p))) fun U U z=>z)
 cases slice with
 | Slice a b c p=>cases c with
  | none=>exact fin _
  | some=>exact fin _
 | _=>exact fin _
def C4 (h1:Ev Φ (eval value Φ.fx.env) d1) (h2:Ev Φ (eval slice Φ.fx.env) d2):Ev Φ (eval (.Subscript value slice pos) Φ.fx.env) (fun K=>d1 fun x=>d2 fun y=>okK (g9 x y) K):=by
 rw [arm_eval_Subscript];exact xG (op:=g9) h1 (fun v=>h2.holding) fun s v u x y z I r1 r2 e=>jC (wR I e r1 r2)
abbrev EvO (Φ:Ct) (t:Sem Value) (d:(Option V->Prop)->Prop):Prop:=EvR Φ (RpO Φ) t d
def jh:EvO Φ (valueOrNone (evalOpt none Φ.fx.env)) (fun K=>K none):=fun K s hd I=>EvR.pure (a:=Value.none) I hd rfl
def jg (h:Ev Φ (eval e Φ.fx.env) d):EvO Φ (valueOrNone (evalOpt (some e) Φ.fx.env)) (fun K=>d fun y=>K (some y)):=fun K s hd I E=>by
 refine (?_:wpAny _ _ (eval e Φ.fx.env) _ _ _);exact LT (h _ s hd I E) ((by rintro v s' ⟨B,k,y,hy,r⟩; exact ⟨B,k,some y,hy,r⟩)) fun U U z=>z
theorem RpO.keep (r:RpO Φ h v y) (k:ao h h'):RpO Φ h' v y:=by
 cases y with
 | none=>exact r
 | some x=>exact Rp.keep r k
def gj {value:Expr} {lo hi:Option Expr} {p pos:Pos} {dl dh:(Option V->Prop)->Prop} (h1:Ev Φ (eval value Φ.fx.env) d1) (h2:EvO Φ (valueOrNone (evalOpt lo Φ.fx.env)) dl) (h3:EvO Φ (valueOrNone (evalOpt hi Φ.fx.env)) dh) :
  Ev Φ (eval (.Subscript value (.Slice lo hi none p) pos) Φ.fx.env) (fun K=>d1 fun x=>dl fun l=>dh fun h=>okK (dF x l h) K):=fun K s hd I=>by
 rw [arm_eval_Subscript];refine h1.bind hd I fun v x s₁ FM FQ hx r1=>?_;have hS:EvR Φ (fun h v (q:Option V×Option V)=>∃ sl vl vu,v=.ref sl/\h.IsSliceOf sl vl vu .none/\RpO Φ h vl q.1/\RpO Φ h vu q.2) (eval (.Slice lo hi none p) Φ.fx.env) (fun K=>dl fun l=>dh fun h=>K (l,h)):=fun K s hd I=>by
  rw [arm_eval_Slice];refine h2.bind hd I fun vl l s₁ FM FQ hl rl=>h3.holding.bind hl FM fun vu h FN FU F4 hh rh=>?_;refine step (z:=(l,h)) FU hh fun E=>zC1 (NN (zC2 ?_));exact wpAny_newObj_type ⟨Grown.push _ _ FN.toks,_,vl,vu,rfl,Heap.IsSliceOf.new ..,(rl.keep F4).keep (am _ _),rh.keep (am _ _)⟩
 refine hS.holding.bind (K₁:=fun q=>okK (dF x q.1 q.2) K) hx FM fun u q FN FU F4 hq rq=>?_;obtain ⟨sl,vl,vu,rfl,hs,rl,ru⟩:=rq;exact ae hq fun z e kz=>step FU kz (jC (vd FU e (r1.keep F4) rl ru hs))
end
section
variable {Φ:Ct} {s:Shared} {v u:Value} {x y z:V} {d:DV}
def ja {x:Str} (h:bW Φ.fx.env.scope.names x=true):Φ.fx.env.scope.names.lookup x=some .globalImplicit/\(x==("__debug__" : Str))=false:=by
 have h:=zA2 h;exact ⟨Id h.1,not_eq_true' _▸(zA2 h.2).1⟩
def gK {x:Str} {pos:Pos} {Q:GE} (I:Inv Φ s) (hx:bW Φ.fx.env.scope.names x=true) (hv:Φ.fx.g.mg x=some v) (h:Q v s):Φ.wp (eval (.Name x pos) Φ.fx.env) Q s:=fun E=>
 Name_function_global I.ok.kind (ja hx).1 (loadGlobal_global (by rw [I.ok.globals]; exact I.ok.gr.main.at' (I.base.stays _)) hv h) (ja hx).2
def cL {x:Str} {pos:Pos} {Q:GE} (I:Inv Φ s) (hx:bW Φ.fx.env.scope.names x=true) (hv:bD.lookup x=some v) (h:Q v s):Φ.wp (eval (.Name x pos) Φ.fx.env) Q s:=fun E=>
 have q:=I.ok.gr.blts x v hv
 Name_function_global I.ok.kind (ja hx).1 (loadGlobal_builtin (by rw [I.ok.globals]; exact I.ok.gr.main.at' (I.base.stays _)) q.1 (by rw [I.ok.builtins]; exact I.ok.gr.blt.at' (I.base.stays _)) q.2 h) (ja hx).2
def ww {n:Str} {pos:Pos} (hx:bW Φ.fx.env.scope.names n=true) (hv:Φ.fx.g.cons.lookup n=some x):Ev Φ (eval (.Name n pos) Φ.fx.env) (fun K=>K x):=fun K s hd I=>
 (I.ok.gr.cons n x hv).elim fun u q=>gK I hx q.1 ⟨I.base,.refl _,x,hd,q.2 _ _ I.base.stays fun a b=>I.bad0 b⟩
def C7 (hc:th c x=true):Ev Φ (eval (.Constant c k pos) Φ.fx.env) (fun K=>K x):=fun K s hd I E=>by
 refine (?_:wpAny _ _ (constValue Φ.fx.env c) _ _ _);cases x with
 | none=>obtain rfl:=Id hc; exact zC2 ⟨I.base,.refl _,_,hd,.none⟩
 | bool b=>obtain rfl:=Id hc; exact zC2 ⟨I.base,.refl _,_,hd,.bool _⟩
 | int i=>obtain rfl:=Id hc; exact wpAny_mkInt ⟨I.base.grown (.toks _ _),.refl _,_,hd,.int _ _⟩
 | str t=>obtain rfl:=Id hc; exact wpAny_mkText ⟨I.base.grown (.toks _ _),.refl _,_,hd,.str _ _⟩
 | _=>(injection hc; done)
theorem dx:∀ {l:List (Bool×Sem Value)},(∀ q∈l,q.1=false)->(backTo pos l).any (·.1)=false
 | [],_=>rfl
 | [q],h=>by simp [backTo,h q (.head _)]
 | q :: q' :: l,h=>by
  have:=dx (pos:=pos) (l:=q' :: l) fun x m=>h x (.tail _ m);simpa [backTo,h q (.head _)] using this
theorem bU:∀ {qs:List (Expr×DV)},(∀ q∈qs,aq q.1=true)->∀ q∈starEach (qs.map Prod.fst) env,q.1=false
 | [],_,_,h=>nM h
 | q :: r,h,p,hp=>by
  rw [map_cons,aF (h q (.head _))] at hp;cases hp with
  | head=>rfl
  | tail _ m=>exact bU (fun x m=>h x (.tail _ m)) p m
def cm {qs:List (Expr×DV)} {K:List V->Prop} {Q:Args->Shared->Prop} {E:GE} (hq:∀ q∈qs,aq q.1=true/\bu Φ q) (hd:br (qs.map Prod.snd) K) (I:Inv Φ s)
  (h:∀ vs xs s₁,Inv Φ s₁->ao s.heap s₁.heap->K xs->Φ.rps s₁.heap vs xs->Q ⟨vs,[]⟩ s₁):wpAny (model Φ.fx.g.prog Φ.fx.g.w) Φ.fx.A (evalArgs F true (backTo pos (starEach (qs.map Prod.fst) Φ.fx.env)) []) Q E s:=by
 have it:=d5 (pos:=pos) hq K s hd I E;cases qs with
 | nil=>exact PySem.evalArgs_none (h [] [] s I (.refl _) hd .nil)
 | cons q r=>
  rw [map_cons,aF (hq q (.head _)).1] at it ⊢;obtain ⟨l,hl⟩:∃ l,backTo pos ((false,eval q.1 Φ.fx.env) :: starEach (r.map Prod.fst) Φ.fx.env)=(false,eval q.1 Φ.fx.env) :: l:=by
   cases starEach (r.map Prod.fst) Φ.fx.env <;> exact ⟨_,rfl⟩
  rw [hl] at it ⊢;exact Calls.evalArgs_plain (LT it ((by rintro vs s₁ ⟨B,k,xs,hx,rs⟩; exact h vs xs s₁ (I.keep B k) k hx rs)) fun U U z=>z)
def pq {F:Value} {f:Str} {fp pos:Pos} {qs:List (Expr×DV)} {op:List V->Option V} (hx:bW Φ.fx.env.scope.names f=true) (hF:bD.lookup f=some F) (hk:(∃ id,F=.builtin id)\/∃ T,F=.type T) (hq:∀ q∈qs,aq q.1=true/\bu Φ q)
  (st:∀ s vs xs z,Inv Φ s->Φ.rps s.heap vs xs->op xs=some z->Φ.wp (call F vs) (Φ.Gives s z) s):Ev Φ (eval (.Call (.Name f fp) (qs.map Prod.fst) [] pos) Φ.fx.env) (fun K=>br (qs.map Prod.snd) fun xs=>okK (op xs) K):=fun K s hd I E=>by
 refine (?_:wpAny _ _ (eval (.Name f fp) Φ.fx.env >>= fun F=>callWith pos F [] (backTo pos (starEach (qs.map Prod.fst) Φ.fx.env)) []) _ _ s);refine zC1 (cL I hx hF ?_ E);have hp:=dx (pos:=pos) (bU (env:=Φ.fx.env) fun q m=>(hq q m).1);have main:wpAny (model Φ.fx.g.prog Φ.fx.g.w) Φ.fx.A (evalArgs F true (backTo pos (starEach (qs.map Prod.fst) Φ.fx.env)) []) (fun a s₁=>wpAny (model Φ.fx.g.prog Φ.fx.g.w) Φ.fx.A (call F ([]++a.pos) a.kw) (Post Φ Φ.rp s K) E s₁) E s:=
  cm hq hd I fun vs xs s₁ FM FQ hx rs=>ae hx fun z e kz=>LT (step FM kz (st s₁ vs xs z FM rs e) E) (fun U U p=>p.lift FQ) fun U U z=>z
 rcases hk with ⟨id,rfl⟩ | ⟨T,rfl⟩
 ·exact callWith_builtin hp main
 ·exact PySem.callWith_type hp main
def cJ {α:Type} {vs:List Value} {xs:List V} {f:V->Option α} {z:α} {C:List Value->Prop} (e:one xs f=some z) (rs:Φ.rps s.heap vs xs) (k:∀ v x,Φ.rp s.heap v x->f x=some z->C [v]):C vs:=by
 cases rs with
 | nil=>(injection e; done)
 | cons r rs=>cases rs with
  | nil=>exact k _ _ r e
  | cons _ _=>(injection e; done)
def uX {α:Type} {vs:List Value} {xs:List V} {f:V->V->Option α} {z:α} {C:List Value->Prop} (e:two xs f=some z) (rs:Φ.rps s.heap vs xs) (k:∀ v u x y,Φ.rp s.heap v x->Φ.rp s.heap u y->f x y=some z->C [v,u]):C vs:=by
 cases rs with
 | nil=>(injection e; done)
 | cons r rs=>cases rs with
  | nil=>(injection e; done)
  | cons r' rs=>cases rs with
   | nil=>exact k _ _ _ _ r r' e
   | cons _ _=>(injection e; done)
def AK (h:n<=af):(n:Int) < 2 ^ 63:=ofNat_lt.mpr (Q0 h (by decide))
def aN {vs:Array Value} {l:List V} (r:Φ.rps h vs.toList l):vs.size=l.length:=length_toList▸r.length
def kJ {C:V->List V->Prop} (e:y5 x=some l) (kl:∀ l:List V,l.length<=af->C (.list l) l) (kt:∀ l:List V,l.length<=af->C (.tuple l) l) (ks:∀ t:Str,t.cps.toList.length<=af->C (.str t) (bM t.cps.toList)):C x l:=by
 cases x with
 | list m=>exact fit_elim e fun h=>kl m h
 | tuple m=>exact fit_elim e fun h=>kt m h
 | str m=>exact fit_elim e fun h=>ks m h
 | _=>(injection e; done)
def CG (e:y5 x=some l) (r:Φ.rp s.heap v x):Φ.wp (call (.builtin "len") [v]) (Φ.Gives s (.int l.length)) s:=
 kJ (C:=fun x l=>Φ.rp s.heap v x->Φ.wp (call (.builtin "len") [v]) (Φ.Gives s (.int l.length)) s) e
  (fun l hz r=>r.list_elim fun a o vs n U ha hc hd hl E=>aN hl▸PyProof.Rows.len_list ⟨_,ha,hc.1,_,hd⟩ (by rw [aN hl]; exact AK hz) ⟨.toks _ _,.int _ _⟩)
  (fun l hz r=>r.tuple_elim fun a o vs n U ha hc hd hl E=>aN hl▸PyProof.Rows.len_tuple ⟨_,ha,hc,_,hd⟩ (by rw [aN hl]; exact AK hz) ⟨.toks _ _,.int _ _⟩)
  (fun t hz r=>r.str_elim fun tk E=>by
   unfold bM;rw [zA4,zB3];exact P.len_str (by rw [zB3] at hz; have:=AK hz; unfold Str.length; omega) ⟨.toks _ _,.int _ _⟩) r
def tL {C:V->List V->Prop} (e:a9 x=some l) (h0:y5 x=some l->C x l) (hd:∀ FP,dkV FP=true->FP.length<=af->C (.dict FP) (FP.map (·.1))):C x l:=by
 cases x with
 | dict FP=>exact aU (e:(if dkV FP=true then cq FP (FP.map (·.1)) else none)=some l) fun q e=>fit_elim e fun h=>hd FP q h
 | _=>exact h0 e
def vW {prog:Program} {w:World} {A:Around} {E:GE} {d:Addr} {od:Obj} {es:Array DictEntry} {ep:Nat} {Q:GE} (KL:s.heap.get? d=some od) (hx:od.ExactDict) (G5:od.data=.dict es ep) (hd:d≠sysModules) (hz:(es.size:Int) < 2 ^ 63) (h:∀ t tk,Q (.int es.size t) { s with toks:=tk }):GM prog w A (call (.builtin "len") [.ref d]) Q E s:=by
 have hT:s.TypeIs (.ref d) "dict":=⟨od,KL,hx.1⟩;refine Calls.call_function_entry kind_len plain_len entry_len (args_len1 _) ?_;refine wpAny_bind (m:=oneArg "len" _) (zC2 ?_);refine wpAny_bind (m:=callSpecial? (.ref d) (ofString "__len__")) (wpAny_callSpecial?_slot (name:=ofString "__len__") hT PySem.F.slot_dict_len (wpAny_call_entry PySem.F.slot_dict_len hT PySem.F.entry_dict_len ?_ (PySem.F.args_dict_len_1 _)));refine (?_:wpAny _ _ (dictSize d >>= _) _ _ s);unfold dictSize;refine zC1 (zC1 (wpAny_dictEntries KL G5 (zC2 ?_)));refine (?_:wpAny _ _ (Builtin.Dict.pendingCount d >>= _) _ _ s);refine zC1 (wpAny_pendingCount_other (beq_eq_false_iff_ne.mpr hd) ?_);refine zC1 (wpAny_mkInt (zC2 ⟨_,rfl,?_⟩));refine (?_:wpAny _ _ _ _ _ { s with toks:=s.toks+1 });refine zC1 (NN (zC2 ?_));refine zC1 (wpAny_letGo ?_);refine bI (c:=((es.size+0:Nat):Int) < 0) (Int.not_lt.mpr (natCast_nonneg _)) ?_;refine bI (c:=((es.size:Nat):Int) >= 2 ^ 63) (Int.not_le.mpr hz) ?_;exact zC1 (wpAny_mkInt (zC2 ⟨_,rfl,h _ _⟩))
def zA (e:a9 x=some l) (r:Φ.rp s.heap v x):Φ.wp (call (.builtin "len") [v]) (Φ.Gives s (.int l.length)) s:=
 tL (C:=fun x l=>Φ.rp s.heap v x->Φ.wp (call (.builtin "len") [v]) (Φ.Gives s (.int l.length)) s) e (fun e r=>CG e r) (fun FP hk hz r=>r.dict_elim (C:=fun v=>Φ.wp (call (.builtin "len") [v]) (Φ.Gives s (.int (FP.map (·.1)).length)) s) hk fun a o es n U hm ha hc hd he k1 U E=>by
  have LX:es.size=(FP.map (·.1)).length:=by rw [<- k1.length,zA4,zB3]
  exact vW ha hc hd hm (by rw [LX,zA4]; exact AK hz) fun t tk=>⟨.toks _ _,LX▸.int _ _⟩) r
def C8 {fp pos:Pos} {q:Expr×DV} (hx:bW Φ.fx.env.scope.names "len"=true) (hq:aq q.1=true/\bu Φ q):Ev Φ (eval (.Call (.Name "len" fp) [q.1] [] pos) Φ.fx.env) (fun K=>br [q.2] fun xs=>okK (opN .len xs) K):=
 pq (qs:=[q]) (op:=opN .len) hx rfl (.inl ⟨_,rfl⟩) (fun p m=>by obtain rfl:=zA6 m; exact hq) fun s vs xs z I rs e=>cJ (C:=fun vs=>Φ.wp (call (.builtin "len") vs) (Φ.Gives s z) s) e rs fun v x r e=>map_elim e fun l e=>zA e r
end
section
variable {Φ:Ct} {s:Shared} {v u:Value} {x y z:V} {d:DV}
def CT (hT:iG[t]?=some T) (e:isT x t=some b) (r:Φ.rp s.heap v x):Φ.wp (call (.builtin "isinstance") [v,.type T]) (Φ.Gives s (.bool b)) s:=fun E=>by
 have G0:∀ {b},Φ.Gives s (.bool b) (.bool b) s:=⟨.refl _,.bool _⟩;have G1:∀ {b},Φ.Gives s (.bool b) (.bool b) { s with toks:=s.toks+1 }:=⟨.toks _ _,.bool _⟩
 match t,hT with
 | 0,hT=>
  (injection hT with hT; subst hT);cases r with
  | none=>exact some_elim e (IsiPair.NoneType_str G1)
  | bool c=>exact some_elim e (IsiPair.bool_str G1)
  | int i t=>exact some_elim e (IsiPair.int_str G1)
  | str _ t=>exact some_elim e (IsiPair.str_str G0)
  | list _ ha hc=>exact some_elim e (IsiPair.list_str ha hc.1 G1)
  | tuple _ ha hc=>exact some_elim e (IsiPair.tuple_str ha hc G1)
  | inst=>(injection e; done)
  | dict=>(injection e; done)
 | 1,hT=>
  (injection hT with hT; subst hT);cases r with
  | none=>exact some_elim e (IsiPair.NoneType_tuple G1)
  | bool c=>exact some_elim e (IsiPair.bool_tuple G1)
  | int i t=>exact some_elim e (IsiPair.int_tuple G1)
  | str _ t=>exact some_elim e (IsiPair.str_tuple G1)
  | list _ ha hc=>exact some_elim e (IsiPair.list_tuple ha hc.1 G1)
  | tuple _ ha hc=>exact some_elim e (IsiPair.tuple_tuple ha hc G0)
  | inst=>(injection e; done)
  | dict=>(injection e; done)
 | 2,hT=>
  (injection hT with hT; subst hT);cases r with
  | none=>exact some_elim e (IsiPair.NoneType_list G1)
  | bool c=>exact some_elim e (IsiPair.bool_list G1)
  | int i t=>exact some_elim e (IsiPair.int_list G1)
  | str _ t=>exact some_elim e (IsiPair.str_list G1)
  | list _ ha hc=>exact some_elim e (IsiPair.list_list ha hc.1 G0)
  | tuple _ ha hc=>exact some_elim e (IsiPair.tuple_list ha hc G1)
  | inst=>(injection e; done)
  | dict=>(injection e; done)
 | 3,hT=>
  (injection hT with hT; subst hT);cases r with
  | none=>exact some_elim e (IsiPair.NoneType_int G1)
  | bool c=>exact some_elim e (IsiPair.bool_int G0)
  | int i t=>exact some_elim e (IsiPair.int_int G0)
  | str _ t=>exact some_elim e (IsiPair.str_int G1)
  | list _ ha hc=>exact some_elim e (IsiPair.list_int ha hc.1 G1)
  | tuple _ ha hc=>exact some_elim e (IsiPair.tuple_int ha hc G1)
  | inst=>(injection e; done)
  | dict=>(injection e; done)
 | 4,hT=>
  (injection hT with hT; subst hT);cases r with
  | none=>exact some_elim e (IsiPair.NoneType_bool G1)
  | bool c=>exact some_elim e (IsiPair.bool_bool G0)
  | int i t=>exact some_elim e (IsiPair.int_bool G1)
  | str _ t=>exact some_elim e (IsiPair.str_bool G1)
  | list _ ha hc=>exact some_elim e (IsiPair.list_bool ha hc.1 G1)
  | tuple _ ha hc=>exact some_elim e (IsiPair.tuple_bool ha hc G1)
  | inst=>(injection e; done)
  | dict=>(injection e; done)
def B4 {t:Nat} (hT:iG[t]?=some T):bD.lookup (ofString T)=some (.type T):=by
 match t,hT with
 | 0,hT=>(injection hT with hT; subst hT); decide
 | 1,hT=>(injection hT with hT; subst hT); decide
 | 2,hT=>(injection hT with hT; subst hT); decide
 | 3,hT=>(injection hT with hT; subst hT); decide
 | 4,hT=>(injection hT with hT; subst hT); decide
def Db {t:Nat} (hT:iG[t]?=some T) (hx:bW Φ.fx.env.scope.names "isinstance"=true) (hy:bW Φ.fx.env.scope.names (ofString T)=true) (hp:aq q.1=true) (h:bu Φ q) :
  Ev Φ (eval (.Call (.Name "isinstance" fp) [q.1,.Name (ofString T) pT] [] pos) Φ.fx.env) (fun K=>q.2 fun x=>okK (isT x t) fun b=>K (.bool b)):=fun K s hd I E=>by
 refine (?_:wpAny _ _ (eval (.Name "isinstance" fp) Φ.fx.env >>= fun F=>callWith pos F [] (backTo pos (starEach [q.1,.Name (ofString T) pT] Φ.fx.env)) []) _ _ s);refine zC1 (cL (v:=.builtin "isinstance") I hx rfl ?_ E);rw [aF hp];refine callWith_builtin rfl (Calls.evalArgs_plain ?_);have q':spliced (backTo pos ((false,eval q.1 Φ.fx.env) :: starEach [.Name (ofString T) pT] Φ.fx.env))=(eval q.1 Φ.fx.env >>= fun v=>holding [v] (eval (.Name (ofString T) pT) Φ.fx.env >>= fun u=>holding [u] (pure []) >>= fun vs=>pure (u :: vs)) >>= fun vs=>pure (v :: vs)):=rfl;refine (?_:wpAny _ _ (spliced (backTo pos ((false,eval q.1 Φ.fx.env) :: starEach [.Name (ofString T) pT] Φ.fx.env))) _ _ _);rw [q'];refine zC1 (LT (h _ s hd I E) (fun v s₁ NA=>?_) fun U U z=>z);obtain ⟨B,k,x,hx,r⟩:=NA;have FM:=I.keep B k;refine zC1 (NN (zC1 (cL FM hy (B4 hT) ?_ E)));refine zC1 (NN (zC2 (zC2 (zC2 ?_))));exact ae hx fun b e kb=>LT (step FM kb (CT hT e r) E) (fun U U p=>p.lift k) fun U U z=>z
def jL (k:ao s.heap h'):Grown s { s with heap:=h',toks:=tk }:=⟨k,rfl,rfl⟩
def tZ {C:V->List V->Prop} (e:qo x=some l) (kl:∀ l:List V,l.length<=af->C (.list l) l) (kt:∀ l:List V,l.length<=af->C (.tuple l) l):C x l:=by
 cases x with
 | list m=>exact fit_elim e fun h=>kl m h
 | tuple m=>exact fit_elim e fun h=>kt m h
 | _=>(injection e; done)
def sF (I:Inv Φ s) (k:ao s.heap h') (hD:h'.get? s.heap.objs.size=some { cls:=.type "list",dict:=none,data:=.seq vs c,slots:=#[] }) (rr:Φ.rps h' vs.toList l) :
  Φ.Gives s (.list l) (.ref s.heap.objs.size) { s with heap:=h',toks:=tk }:=⟨jL k,.list I.fresh hD ⟨rfl,rfl⟩ rfl rr⟩
def sL (I:Inv Φ s) (e:qo x=some l) (r:Φ.rp s.heap v x):Φ.wp (call (.type "list") [v]) (fun w s'=>w=.ref s.heap.objs.size/\Φ.Gives s (.list l) w s') s:=
 tZ (C:=fun x l=>Φ.rp s.heap v x->Φ.wp (call (.type "list") [v]) (fun w s'=>w=.ref s.heap.objs.size/\Φ.Gives s (.list l) w s') s) e
  (fun l hz r=>r.list_elim fun a o vs n U ha hc hd hl E=>call_list_seq (hsz:=by rw [aN hl]; exact bF hz) _ (.inl rfl) ha hc.1 hd fun h' c' hk hD=>⟨rfl,sF (tk:=s.toks) I hk hD (hl.keep hk)⟩)
  (fun l hz r=>r.tuple_elim fun a o vs n U ha hc hd hl E=>call_list_seq (hsz:=by rw [aN hl]; exact bF hz) _ (.inr rfl) ha hc hd fun h' c' hk hD=>⟨rfl,sF (tk:=s.toks) I hk hD (hl.keep hk)⟩) r
def pZ (e:fT l=some ss) (r:Φ.rps h vs l):StrsAre vs (ss.map fun x=>(⟨x.toArray⟩:Str)):=by
 refine r.ind (D:=fun vs l=>∀ ss,fT l=some ss->StrsAre vs (ss.map fun x=>(⟨x.toArray⟩:Str))) (fun ss e=>some_elim e .nil) (fun v vs x l r U ih ss e=>?_) ss e;unfold fT at e;rw [mapM_cons] at e;obtain ⟨a,ha,e⟩:=bind_eq_some_iff.mp e;obtain ⟨b,hb,e⟩:=bind_eq_some_iff.mp e;(injection e with e; subst e);exact eg (C:=fun x=>Φ.rp h v x->StrsAre (v :: vs) ((a :: b).map fun x=>(⟨x.toArray⟩:Str))) ha (fun t et r=>r.str_elim fun tk=>by (injection et with et; subst et); rw [map_cons,iK]; exact .cons _ _ (ih b hb)) r
def i9 (e:eE l=some ns) (r:Φ.rps h vs l):IntsAre vs ns:=by
 refine r.ind (D:=fun vs l=>∀ ns,eE l=some ns->IntsAre vs ns) (fun ss e=>some_elim e .nil) (fun v vs x l r U ih ss e=>?_) ns e;unfold eE at e;rw [mapM_cons] at e;obtain ⟨a,ha,e⟩:=bind_eq_some_iff.mp e;obtain ⟨b,hb,e⟩:=bind_eq_some_iff.mp e;(injection e with e; subst e);exact bJ (C:=fun x=>Φ.rp h v x->IntsAre (v :: vs) (a :: b)) ha (fun i ei r=>r.int_elim fun tk=>by (injection ei with ei; subst ei); exact .cons _ _ (ih b hb)) r
theorem i7 (GC:List Nat):∀ (ss:List (List Nat)) (a:List Nat),((ss.map fun x=>(⟨x.toArray⟩:Str)).foldl (fun acc p=>acc++GC.toArray++p.cps) a.toArray).toList=hU GC (a :: ss)
 | [],a=>rfl
 | x :: r,a=>by
  have:=i7 GC r (a++GC++x);rw [map_cons,foldl_cons,show a.toArray++GC.toArray++x.toArray=(a++GC++x).toArray by simp,this];cases r <;> simp [hU]
theorem lG (GC:List Nat):∀ ss:List (List Nat),(Builtin.Str.glued ⟨GC.toArray⟩ (ss.map fun x=>(⟨x.toArray⟩:Str))).cps.toList=hU GC ss
 | []=>rfl
 | x :: r=>i7 GC r x
def zN (e:fT l=some ss) (hz:(ss.map length).sum+ss.length * GC.cps.toList.length<=af) (rs:Φ.rp s.heap u (.str GC)) (r:Φ.rp s.heap v (.list l)) :
  Φ.wp (call (.builtin "str.join") [u,v]) (Φ.Gives s (text (hU GC.cps.toList ss))) s:=by
 refine rs.str_elim fun t=>r.list_elim fun a o vs n U ha hc hd hl E=>?_;have q:=lG GC.cps.toList ss;rw [iK] at q;refine PyProof.Rows.join_list ⟨_,ha,hc.1,_,hd⟩ (pZ e hl) ?_ fun t' k=>⟨.toks _ _,.text q⟩;have e1:((ss.map fun x=>(⟨x.toArray⟩:Str)).map (·.length))=ss.map length:=by simp [Str.length]
 rw [e1,zA4];rw [zB3] at hz;exact zB1 hz (show af<=16777216 by decide)
end
section
variable {Φ:Ct} {s:Shared} {v u:Value} {x y z:V} {d d1 d2:DV}
theorem Inv.cc (I:Inv Φ s):CallC Φ.fx.g Φ.fx.d Φ.bad Φ.fx.A s:=⟨I.ok.hand,I.ok.room,I.ok.units,I.base,fun a b=>I.badLive b,fun a b=>I.bad0 b⟩
def fC {K:V->Prop} {E:GE} (I:Inv Φ s) (h:(aj Φ.fx.g.P Φ.fx.d).p f xs K) (rs:Φ.rps s.heap vs xs) :
  wpAny (model Φ.fx.g.prog Φ.fx.g.w) Φ.fx.A (call (.ref (Φ.fx.g.fn f)) vs) (jz Φ (Φ.fx.g.newf f) s K) E s:=
 LT (I.ok.call.p f xs K Φ.fx.A s Φ.bad vs E h I.cc rs) (by rintro _ _ ⟨B,k,y,hy,r,nv⟩; exact ⟨⟨B,k,y,hy,r⟩,nv⟩) fun U U z=>z
theorem Inv.frag (I:Inv Φ s):Φ.fx.g.K.In s.heap:=I.ok.gr.frag.keeps I.base.stays
def tc {f:Nat} {qs:List (Expr×DV)} (hx:bW Φ.fx.env.scope.names n=true) (hf:Φ.fx.g.fns.lookup n=some f) (Hi:keepIn Φ.fx.g.K (.ref (Φ.fx.g.fn f))=true) (hq:∀ q∈qs,aq q.1=true/\bu Φ q) :
  EvC Φ (Φ.fx.g.newf f) (eval (.Call (.Name n fp) (qs.map Prod.fst) [] pos) Φ.fx.env) (fun K=>br (qs.map Prod.snd) fun xs=>(aj Φ.fx.g.P Φ.fx.d).p f xs K):=fun K s hd I E=>by
 refine (?_:wpAny _ _ (eval (.Name n fp) Φ.fx.env >>= fun F=>callWith pos F [] (backTo pos (starEach (qs.map Prod.fst) Φ.fx.env)) []) _ _ s);refine zC1 (gK I hx (I.ok.gr.fns n f hf) ?_ E);refine callWith_of (by rw [dx (bU fun q m=>(hq q m).1)]; rfl) (keeps_K Hi) (cm hq hd I fun vs xs s₁ FM FQ hx rs=>⟨FM.frag,?_⟩);exact LT (fC FM hx rs) (fun U U p=>p.lift FQ) fun U U z=>z
def aQ (h:bR o=true):attributeBase o name env t=t:=by
 cases o with
 | Call f xs ks p=>
  cases xs with
  | nil=>exact nB h
  | cons=>cases f <;> rfl
 | _=>first | rfl | exact nB h
def Am {o e:Expr} {name:Str} {T id:String} {FZ pos:Pos} {op:V->V->Option V} (ho:bR o=true) (hp:aq e=true) (FV:(FZ.endLine==pos.line)=true)
  (pa:PlainAttrs T) (slot:PySem.Slot T name id) (Mt:typeOf (.builtin id)=pure (.type "method_descriptor")) (h1:Ev Φ (eval o Φ.fx.env) d1) (h2:Ev Φ (eval e Φ.fx.env) d2) {ok:V->Bool}
  (KE:∀ (s:Shared) v x,ok x=true->Φ.rp s.heap v x->s.TypeIs v T/\∀ a,v=.ref a->∃ ob,s.heap.get? a=some ob/\ob.dict=none)
  (Jt:∀ (s:Shared) u v x y z,Inv Φ s->Φ.rp s.heap u x->Φ.rp s.heap v y->op x y=some z->Φ.wp (call (.builtin id) [u,v]) (Φ.Gives s z) s) :
  Ev Φ (eval (.Call (.Attribute o name FZ) [e] [] pos) Φ.fx.env) (fun K=>d1 fun x=>ok x=true/\d2 fun y=>okK (op x y) K):=fun K s hd I E=>by
 refine wpAny_Call_method (aQ ho) ?_ FV pa slot Mt ?_
 ·rw [aF hp]; rfl
 refine LT (h1 _ s hd I E) (fun ov s₁ JR=>?_) fun U U z=>z;obtain ⟨B,k,x,⟨hx,IE⟩,r1⟩:=JR;have FM:=I.keep B k;obtain ⟨hT,G5⟩:=KE s₁ ov x hx r1;refine ⟨hT,G5,callWith_builtin ?_ ?_⟩
 ·rw [aF hp]; rfl
 refine cm (qs:=[(e,d2)]) (K:=fun ys=>okK (one ys (op x)) K) (fun q m=>by obtain rfl:=zA6 m; exact ⟨hp,h2⟩) IE FM fun vs ys FN FU F4 hy rs=>ae hy fun z e kz=>?_;refine cJ (C:=fun vs=>wpAny _ _ (call (.builtin id) ([ov]++vs) []) _ _ FN) e rs fun v y r2 e=>?_;exact LT (step FU kz (Jt FN ov v x y z FU (r1.keep F4) r2 e) E) (fun U U p=>(p.lift F4).lift k) fun U U z=>z
def vz (s:Shared) (v:Value) (x:V) (hx:isStr x=true) (r:Φ.rp s.heap v x):s.TypeIs v "str"/\∀ a,v=.ref a->∃ ob,s.heap.get? a=some ob/\ob.dict=none:=by
 cases x with
 | str t=>exact r.str_elim (C:=fun v=>s.TypeIs v "str"/\∀ a,v=.ref a->∃ o,s.heap.get? a=some o/\o.dict=none) fun tk=>⟨typeIs_str _ _ _,fun U q=>nomatch q⟩
 | _=>(injection hx; done)
def Ao (ho:bR o=true) (hp:aq e=true) (FV:(FZ.endLine==pos.line)=true) (h1:Ev Φ (eval o Φ.fx.env) d1) (h2:Ev Φ (eval e Φ.fx.env) d2) :
  Ev Φ (eval (.Call (.Attribute o "join" FZ) [e] [] pos) Φ.fx.env) (fun K=>d1 fun x=>isStr x=true/\d2 fun y=>okK (opN .join [x,y]) K):=
 Am (op:=fun x y=>opN .join [x,y]) ho hp FV PySem.F.plainAttrs_str PySem.F.slot_str_join PySem.F.type_str_join h1 h2 vz
  fun s u v x y z I ru rv e=>eg (f:=fun GC=>gc y fun l=>(fT l).bind fun ss=>if (ss.map length).sum+ss.length * GC.length<=af then some (text (hU GC ss)) else none) (C:=fun x=>Φ.rp s.heap u x->Φ.wp (call (.builtin "str.join") [u,v]) (Φ.Gives s z) s) e
   (fun t e ru=>cD (C:=fun y=>Φ.rp s.heap v y->Φ.wp (call (.builtin "str.join") [u,v]) (Φ.Gives s z) s) e (fun l e rv=>(bind_eq_some_iff.mp e).elim (by rintro ss ⟨h,e⟩; exact if_elim e fun hz=>zN h hz ru rv)) rv) ru
def Ap {o e1 e2:Expr} {d3:DV} (ho:bR o=true) (hp1:aq e1=true) (hp2:aq e2=true) (FV:(FZ.endLine==pos.line)=true) (h1:Ev Φ (eval o Φ.fx.env) d1) (h2:Ev Φ (eval e1 Φ.fx.env) d2) (h3:Ev Φ (eval e2 Φ.fx.env) d3) :
  Ev Φ (eval (.Call (.Attribute o "get" FZ) [e1,e2] [] pos) Φ.fx.env) (fun K=>d1 fun x=>rd x=true/\d2 fun y=>d3 fun z=>okK (opN .getD [x,y,z]) K):=fun K s hd I E=>by
 have hs:starEach [e1,e2] Φ.fx.env=[(false,eval e1 Φ.fx.env),(false,eval e2 Φ.fx.env)]:=by rw [aF hp1,aF hp2]; rfl
 refine wpAny_Call_method (T:="dict") (id:="dict.get") (aQ ho) (by rw [hs]; rfl) FV PySem.F.plainAttrs_dict PySem.F.slot_dict_get PySem.F.type_dict_get ?_;refine LT (h1 _ s hd I E) (fun ov s₁ NF=>?_) fun U U z=>z;obtain ⟨B,k,x,⟨hx,IE⟩,r1⟩:=NF;have FM:=I.keep B k;cases x with
 | dict FP=>
  have hx:dkV FP=true:=hx;refine Rp.dict_elim (C:=fun ov=>Φ.rp s₁.heap ov (.dict FP)->s₁.TypeIs ov "dict"/\(∀ a,ov=.ref a->∃ ob,s₁.heap.get? a=some ob/\ob.dict=none)/\wpAny (model Φ.fx.g.prog Φ.fx.g.w) Φ.fx.A (callWith pos (.builtin "dict.get") [ov] (backTo pos (starEach [e1,e2] Φ.fx.env)) []) (Post Φ Φ.rp s K) E s₁) r1 hx (fun a o es n nb hm ha hc hd he k1 k2 r1=>⟨⟨o,ha,hc.1⟩,fun b q=>by (injection q with q; subst q); exact ⟨o,ha,hc.2.1⟩,?_⟩) r1;rw [hs];refine @wpAny_dict_get2_heap _ _ V dG (eQ Φ.fx.g.prog Φ.fx.g.w) _ _ _ _ _ _ _ _ I.room3 (beq_eq_false_iff_ne.mpr hm) ?_;refine LT (h2 _ s₁ IE FM E) (fun v1 FN NE=>?_) fun U U z=>z;obtain ⟨B2,Mm,y,hy,r2⟩:=NE;have FU:=FM.keep B2 Mm;refine LT (h3 _ FN hy FU E) (fun v2 Gi ND=>?_) fun U U z=>z;obtain ⟨B3,k3,z,hz,r3⟩:=ND;refine ae hz fun c ec kc=>?_;refine aU (ec:(if (dkV FP&&aZ y)=true then some ((bt FP y).getD z) else none)=some c) fun q ec=>?_;have q:=zA2 q;have r1':=(r1.keep Mm).keep k3;obtain ⟨b,rfl⟩:=gE r2 q.2;refine Rp.dict_elim (C:=fun ov=>ov=.ref a->_) r1' hx (fun a' o' HK n' Lx HF ha' GL F6 J7 k1' Ml ea=>?_) rfl;obtain rfl:a'=a:=Value.ref.inj ea;obtain ⟨xs,D,En⟩:=DAt.dk ⟨o',HK,n',ha',GL,F6,J7,k1',Ml⟩;have kk:ao s.heap Gi.heap:=(k.trans Mm).trans k3;refine ⟨b,y,xs,rfl,KIs.of q.2 (r2.keep k3),D,B3.grown (.toks _ _),kk,c,kc,?_⟩;injection ec with ec
  subst ec;rcases En.at q.2 with ⟨e1,e2,_⟩ | ⟨p,z',e1,e2,_,rz⟩
  ·rw [show @atKey V dG xs y=none from e1,e2]; exact r3
  ·rw [show @atKey V dG xs y=some p from e1,e2]; exact rz
 | _=>exact nB hx
end
structure Feed (g:Gl) (A:Around) (T:Expr) (I:Addr) (fp wr:List Addr) (vals:List Value) (l0 l:List V) (St:Nat->Heap->Prop):Prop where
 sub:∀ b∈wr,b∈fp
 frame:∀ i h h',St i h->(∀ b∈fp,∀ o,h.get? b=some o->h'.get? b=some o)->St i h'
 live:∀ i h b,St i h->b∈fp->aL h b
 item:∀ i x (s:Shared) bad (Q:GE) (E:GE),l[i]?=some x->St i s.heap->RpAll g bad s.heap vals l0->(∀ a,bad a->aL s.heap a)->(∀ b∈wr,bad b) ->
  (∀ v h' tk,St (i+1) h'->(∀ b o,b∉wr->s.heap.get? b=some o->h'.get? b=some o)->Rp g bad h' v x->Q v { s with heap:=h',toks:=tk }) ->
  wpAny (model g.prog g.w) A (pyNext (.ref I)) (fun r s₁=>∃ v,r=some v/\wpAny (model g.prog g.w) A (letOwnedTupleGo T (.ref I) v) (fun U FN=>Q v FN) E s₁) E s
 done:∀ (s:Shared) (Q:Shared->Prop) (E:GE),St l.length s.heap->(∀ h' tk,(∀ b o,b∉wr->s.heap.get? b=some o->h'.get? b=some o)->Q { s with heap:=h',toks:=tk }) ->
  wpAny (model g.prog g.w) A (pyNext (.ref I)) (fun r s₁=>r=none/\Q s₁) E s
 self:∀ i (s:Shared) (Q:GE) (E:GE),St i s.heap->Q (.ref I) s->wpAny (model g.prog g.w) A (pyIter (.ref I)) Q E s
def xT (I:Addr) (h:Heap):Prop:=∃ o n vs,h.get? I=some o/\o.cls=.type n/\o.data=.fields vs /\
 ["enumerate", "zip", "dict_itemiterator", "dict_reverseitemiterator", "odict_iterator", "itertools.zip_longest", "itertools.pairwise"].contains n=false
def og {E:GE} {Q:Unit->Shared->Prop} (go:xT I s.heap) (h:Q () s):wpAny M A (letOwnedTupleGo T (.ref I) v) Q E s:=by
 have main:∀ es k p,wpAny M A (letOwnedTupleGo (.Tuple es k p) (.ref I) v) Q E s:=fun es k p=>by
  obtain ⟨o,n,vs,ho,hc,hd,hn⟩:=go;cases v with
  | ref a=>
   refine zC1 (wpAny_load ho ?_);rw [hc,hd];exact bI (by rw [hn]; exact NK) (wpAny_pure h)
  | _=>exact wpAny_pure h
 cases T with
 | Tuple es k p=>exact main es k p
 | List es p=>exact main [] 0 p
 | _=>exact wpAny_pure h
section
variable {g:Gl} {A:Around} {T:Expr} {I:Addr} {fp wr:List Addr} {n:Nat} {P:Nat->Value->Prop} {St:Nat->Heap->Prop} {vals:List Value} {l0 l:List V}
theorem Feed.ofWalks (W:Walks g.prog g.w A I fp wr n P St) (hn:l.length=n) (KP:∀ i h b,St i h->b∈fp->aL h b) (hgo:∀ i h,St i h->xT I h)
  (hP:∀ i x v h bad,l[i]?=some x->P i v->RpAll g bad h vals l0->Rp g bad h v x):Feed g A T I fp wr vals l0 l St where
 sub:=W.sub
 frame:=W.frame
 live:=KP
 item:=fun i x s bad Q E hx GY hv hb hw hQ=>W.item i s _ _ (hn▸(List.getElem?_eq_some_iff.mp hx).1) GY fun v h' tk hp Iz hk=>⟨v,rfl,og (hgo _ _ Iz) (hQ v h' tk Iz hk (hP i x v h' bad hx hp (hv.map fun b o e nb=>⟨nb,hk b o (fun m=>nb (hw b m)) e⟩)))⟩
 done:=fun s Q E GY hQ=>W.done s _ _ (hn▸GY) fun h' tk hk=>⟨rfl,hQ h' tk hk⟩
 self:=W.self
def yb (ha:aL h a) (hc:aL h c) (m:b∈[a,c]):aL h b:=by
 rcases mem_cons.mp m with rfl | m
 ·exact ha
 ·obtain rfl:=zA6 m; exact hc
def uk (hh:A.handled=none) (I ax:Addr) (Gc:ax≠I) (items:Array Value) (l:List V) (hl:items.size=l.length) :
  Feed g A T I [I,ax] [I] items.toList l l (fun i h=>h.IsListIter I ax i/\h.IsList ax items):=
 Feed.ofWalks (Walks.list hh I ax Gc items) hl.symm (fun i h b st=>yb (st.1.elim fun U q=>⟨_,q.1⟩) (st.2.elim fun U q=>⟨_,q.1⟩))
  (fun i h st=>by obtain ⟨o',e',c,d⟩:=st.1; exact ⟨_,_,_,e',c,d,by decide⟩)
  fun i x v h bad hx hv r=>by
   obtain ⟨v',e,rr⟩:=r.get hx;rw [Q5,hv] at e;(injection e with e; subst e); exact rr
def qF (hh:A.handled=none) (I ax:Addr) (Gc:ax≠I) (items:Array Value) (l:List V) (hl:items.size=l.length) :
  Feed g A T I [I,ax] [I] items.toList l l (fun i h=>h.IsTupleIter I ax i/\h.IsTuple ax items):=
 Feed.ofWalks (Walks.tuple hh I ax Gc items) hl.symm (fun i h b st=>yb (st.1.elim fun U q=>⟨_,q.1⟩) (st.2.elim fun U q=>⟨_,q.1⟩))
  (fun i h st=>by obtain ⟨o',e',c,d⟩:=st.1; exact ⟨_,_,_,e',c,d,by decide⟩)
  fun i x v h bad hx hv r=>by
   obtain ⟨v',e,rr⟩:=r.get hx;rw [Q5,hv] at e;(injection e with e; subst e); exact rr
def wj (nm:String) (Gk:nm="str_ascii_iterator"\/nm="str_iterator") (I:Addr) (x:Str) (t:Tok) (W:Walks g.prog g.w A I [I] [I] x.cps.size (SignAt x) (fun i h=>h.IsStrIter I nm x t i)) :
  Feed g A T I [I] [I] [] [] (bM x.cps.toList) (fun i h=>h.IsStrIter I nm x t i):=
 Feed.ofWalks W (by unfold bM; rw [zA4,zB3])
  (fun i h b st hb=>by obtain rfl:=zA6 hb; exact st.elim fun U q=>⟨_,q.1⟩)
  (fun i h st=>by obtain ⟨o',e',c,d⟩:=st; exact ⟨_,_,_,e',c,d,by rcases Gk with rfl | rfl <;> decide⟩)
  fun i y v h bad hx hv r=>by
   obtain ⟨c,u,hc,rfl⟩:=hv;unfold bM at hx;rw [getElem?_map,Q5,hc] at hx;(injection hx with hx; subst hx);exact .text rfl
def qG (hh:A.handled=none) (I:Addr) (a b:Int):Feed g A T I [I] [I] [] [] (be a b) (fun i h=>IsRangeIter h I (a+(i:Nat) * 1) (((b - a).toNat:Int) - (i:Nat)) 1):=
 Feed.ofWalks (Walks.range hh I a 1 (b - a).toNat) (by unfold be; rw [zA4,length_range])
  (fun i h b st hb=>by obtain rfl:=zA6 hb; exact ⟨_,st⟩)
  (fun i h st=>⟨_,_,_,st,rfl,rfl,by decide⟩)
  fun i x v h bad hx hv r=>by
   obtain ⟨t,rfl⟩:=hv;unfold be at hx;rw [getElem?_map] at hx;obtain ⟨j,hj,rfl⟩:=map_eq_some_iff.mp hx;rw [List.getElem?_range (by have:=(List.getElem?_eq_some_iff.mp hj).1; rwa [length_range] at this)] at hj;(injection hj with hj; subst hj);rw [Int.mul_one];exact .int _ _
end
inductive FeedAt (Φ:Ct) (T:Expr) (st:Bool) (FO FN:Shared) (it:Value) (l:List V):Prop
 | mk:∀ I fp wr vals l0 St,it=.ref I->Feed Φ.fx.g Φ.fx.A T I fp wr vals l0 l St->St 0 FN.heap->Φ.rps FO.heap vals l0->(∀ b∈wr,FO.heap.get? b=none)->(∀ b∈fp,FO.heap.get? b=none\/(st=true->¬ Φ.bad b))->l.length<=af->FeedAt Φ T st FO FN it l
def eI (Φ:Ct) (T:Expr) (st:Bool) (iter:Expr) (d:(List V->Prop)->Prop):Prop:=∀ K s,d K->Inv Φ s->∀ (Q:GE) (E:GE),
 (∀ l FO it FN,K l->Inv Φ FO->ao s.heap FO.heap->Grown FO FN->FeedAt Φ T st FO FN it l->Q it FN) ->
 wpAny (model Φ.fx.g.prog Φ.fx.g.w) Φ.fx.A (eval iter Φ.fx.env) (fun x s₁=>wpAny (model Φ.fx.g.prog Φ.fx.g.w) Φ.fx.A (pyIter x) Q E s₁) E s
section
variable {Φ:Ct} {s:Shared} {v:Value} {x:V} {l:List V} {T:Expr} {st:Bool} {d:DV} {E:GE}
def aY (e:s.heap.get? b=some o):b≠s.heap.objs.size:=ne_of_lt (lt_size e)
def kW (I:Inv Φ s) (hz:l.length<=af) (hb:st=true->¬ Φ.bad a) (ha:s.heap.get? a=some o) (hc:o.cls=.type "list") (hd:o.data=.seq vs n) (hl:Φ.rps s.heap vs.toList l) :
  wpAny (model Φ.fx.g.prog Φ.fx.g.w) Φ.fx.A (pyIter (.ref a)) (fun it s'=>Grown s s'/\FeedAt Φ T st s s' it l) E s:=by
 have hL:s.heap.IsList a vs:=⟨_,ha,hc,_,hd⟩;refine wpAny_pyIter_list hL ⟨Grown.push s _ s.toks,_,_,_,_,_,_,rfl,uk I.ok.hand _ a (aY ha) vs l (aN hl),⟨⟨_,Q2 _ rfl,rfl,rfl⟩,hL.push _⟩,hl,fun b q=>?_,fun b q=>?_,hz⟩
 ·obtain rfl:=zA6 q; exact ak _
 ·rcases mem_cons.mp q with rfl | q
  ·exact .inl (ak _)
  ·obtain rfl:=zA6 q; exact .inr hb
def CO (I:Inv Φ s) (e:y5 x=some l) (r:Φ.rp s.heap v x):wpAny (model Φ.fx.g.prog Φ.fx.g.w) Φ.fx.A (pyIter v) (fun it s'=>Grown s s'/\FeedAt Φ T st s s' it l) E s:=by
 refine kJ (C:=fun x l=>Φ.rp s.heap v x->wpAny (model Φ.fx.g.prog Φ.fx.g.w) Φ.fx.A (pyIter v) (fun it s'=>Grown s s'/\FeedAt Φ T st s s' it l) E s) e (fun l hz r=>?_) (fun l hz r=>?_) (fun t hz r=>?_) r
 ·exact r.list_elim fun a o vs n hb ha hc hd hl=>kW I hz (fun U=>hb) ha hc.1 hd hl
 ·refine r.tuple_elim fun a o vs n hb ha hc hd hl=>?_;have hL:s.heap.IsTuple a vs:=⟨_,ha,hc,_,hd⟩;refine wpAny_pyIter_tuple hL ⟨Grown.push s _ s.toks,_,_,_,_,_,_,rfl,qF I.ok.hand _ a (aY ha) vs l (aN hl),⟨⟨_,Q2 _ rfl,rfl,rfl⟩,hL.at fun o e=>Q4 _ e⟩,hl,fun b q=>?_,fun b q=>?_,hz⟩
  ·obtain rfl:=zA6 q; exact ak _
  ·rcases mem_cons.mp q with rfl | q
   ·exact .inl (ak _)
   ·obtain rfl:=zA6 q; exact .inr fun U=>hb
 ·refine r.str_elim fun tk=>?_;have mk:∀ nm (Gk:nm="str_ascii_iterator"\/nm="str_iterator") (o:Obj),Walks Φ.fx.g.prog Φ.fx.g.w Φ.fx.A s.heap.objs.size [s.heap.objs.size] [s.heap.objs.size] t.cps.size (SignAt t) (fun i h=>h.IsStrIter s.heap.objs.size nm t tk i)->(s.heap.push o).IsStrIter s.heap.objs.size nm t tk 0 ->
    Grown s { s with heap:=s.heap.push o }/\FeedAt Φ T st s { s with heap:=s.heap.push o } (.ref s.heap.objs.size) (bM t.cps.toList):=fun nm Gk o W st=>
   ⟨Grown.push s _ s.toks,_,_,_,_,_,_,rfl,wj nm Gk _ t tk W,st,.nil,fun b q=>by obtain rfl:=zA6 q; exact ak _,fun b q=>by obtain rfl:=zA6 q; exact .inl (ak _),by unfold bM; rw [zA4]; exact hz⟩
  cases ha:t.cps.all (· < 128)
  ·exact wpAny_pyIter_wide ha (mk _ (.inr rfl) _ (Walks.strWide I.ok.hand _ t tk) ⟨_,Q2 _ rfl,rfl,rfl⟩)
  ·exact wpAny_pyIter_ascii ha (mk _ (.inl rfl) _ (Walks.strAscii I.ok.hand _ t tk) ⟨_,Q2 _ rfl,rfl,rfl⟩)
def ub (I:Inv Φ s) (hz:FP.length<=af) (q:dkV FP=true) (r:Φ.rp s.heap v (.dict FP)):wpAny (model Φ.fx.g.prog Φ.fx.g.w) Φ.fx.A (pyIter v) (fun it s'=>Grown s s'/\FeedAt Φ T st s s' it (FP.map (·.1))) E s:=by
 refine r.dict_elim q fun a o es n hb hm ha hc hd hk k1 k2=>?_;have hl:=k1.length;rw [zA4,zB3] at hl;refine gQ ?_ ha hc hd ⟨Grown.push s _ s.toks,_,_,_,_,_,_,rfl,Feed.ofWalks (vals:=es.toList.map (·.key)) (l0:=FP.map (·.1)) (fc I.ok.hand (aY ha) hd) hl.symm (fun i h b st=>yb (st.1.elim fun U q=>⟨_,q.1⟩) ⟨_,st.2⟩) (fun i h st=>st.1.elim fun U q=>⟨_,_,_,q.1,q.2.1,q.2.2,by decide⟩) (fun i x v h bad hx hv r=>?_),⟨⟨_,Q2 _ rfl,rfl,rfl⟩,Q4 _ ha⟩,k1,fun b q=>?_,fun b q=>?_,by rw [zA4]; exact hz⟩
 ·exact beq_false_of_ne hm
 ·obtain ⟨v',e,rr⟩:=r.get hx;rw [hv] at e;(injection e with e; subst e); exact rr
 ·obtain rfl:=zA6 q; exact ak _
 ·rcases mem_cons.mp q with rfl | q
  ·exact .inl (ak _)
  ·obtain rfl:=zA6 q; exact .inr fun U=>hb
def CN (I:Inv Φ s) (e:a9 x=some l) (r:Φ.rp s.heap v x):wpAny (model Φ.fx.g.prog Φ.fx.g.w) Φ.fx.A (pyIter v) (fun it s'=>Grown s s'/\FeedAt Φ T st s s' it l) E s:=by
 cases x with
 | dict FP=>
  have e:(if dkV FP=true then cq FP (FP.map (·.1)) else none)=some l:=e;refine aU e fun q e=>?_;exact fit_elim (C:=fun l=>wpAny _ _ _ (fun it s'=>Grown s s'/\FeedAt Φ T st s s' it l) E s) e fun hz=>ub I hz q r
 | _=>refine CO I ?_ r; exact e
def DP (h:Ev Φ (eval e Φ.fx.env) d):eI Φ T st e (fun K=>d fun x=>okK (a9 x) K):=fun K s hd I Q E hQ=>
 LT (h _ s hd I E) ((by rintro v s₁ ⟨B,k,x,hx,r⟩; exact ae hx fun l e kl=>LT (CN (I.keep B k) e r) (fun it FN p=>hQ l s₁ it FN kl (I.keep B k) k p.1 p.2) fun U U z=>z)) fun U U z=>z
def fY (e:dJ G k=some l):getSlot G k=.ownL l:=by
 unfold dJ at e
 revert e
 cases getSlot G k with
 | ownL m=>exact fun e=>NO Slot.ownL (LE e)
 | _=>exact fun e=>nN e.symm
def yZ (hx:Φ.fx.ρ.lookup n=some k) (hn:aP n=true):eI Φ T false (.Name n pos) (fun K=>okK (dJ Φ.G k) fun l=>okK (cq l l) K):=fun K s hd I Q E hQ=>ae hd fun l e hk=>ae hk fun l' e' kl=>by
 refine fit_elim (C:=fun l'=>K l'->_) e' (fun hz kl=>?_) kl;obtain ⟨v,pr,so⟩:=I.slot k;rw [fY e] at so;obtain ⟨a,ha,rfl,o,vs,n,ho,hc,hd,hl⟩:=so;exact bq I.ok hx hn pr (LT (kW (st:=false) (T:=T) I hz (fun q=>nB q) ho hc.1 hd hl) (fun it FN p=>hQ l s it FN kl I (.refl _) p.1 p.2) fun U U z=>z) E
def rOk_of (h:rOk i=true):-(2 ^ 62)<=i/\i < 2 ^ 62:=by
 have h:=ofNat_le.mpr (Nat.le_of_ble_eq_true h);exact ⟨Int.neg_le_of_neg_le (le_trans (Int.natAbs_neg i▸le_natAbs) (le_trans h (by decide))),Int.lt_of_le_of_lt (le_trans le_natAbs h) (by decide)⟩
def i8 (I:Inv Φ FO) (h1:rOk a=true/\rOk b=true) (hz:(be a b).length<=af) (hr:IsRange s.heap r a b 1 t u w) (gr:Grown FO s) :
  wpAny (model Φ.fx.g.prog Φ.fx.g.w) Φ.fx.A (pyIter (.ref r)) (fun it s'=>Grown FO s'/\FeedAt Φ T st FO s' it (be a b)) E s:=by
 have qa:=rOk_of h1.1;have qb:=rOk_of h1.2;refine wpAny_pyIter_range hr (small_one qa.1 qa.2 qb.1 qb.2) ?_;have n0:FO.heap.get? s.heap.objs.size=none:=aK gr.keeps.live (ak _);refine ⟨gr.trans (Grown.push s _ s.toks),_,_,_,_,_,_,rfl,qG I.ok.hand _ a b,?_,.nil,fun c hc=>by obtain rfl:=zA6 hc; exact n0,fun c hc=>by obtain rfl:=zA6 hc; exact .inl n0,hz⟩;have e1:a+((0:Nat):Int) * 1=a:=by simp
 have e2:((b - a).toNat:Int) - ((0:Nat):Int)=Builtin.Range.rangeSize a b 1:=by rw [rangeSize_one,Int.ofNat_zero,Int.sub_zero]; split; exact toNat_of_nonneg (sub_nonneg_of_le (Int.le_of_lt ‹_›)); exact NO ofNat (Int.toNat_of_nonpos (Int.sub_nonpos_of_le (Int.not_lt.mp ‹_›)))
 refine (?_:IsRangeIter _ _ (a+((0:Nat):Int) * 1) (((b - a).toNat:Int) - ((0:Nat):Int)) 1);rw [e1,e2];exact Q2 _ rfl
abbrev dP (Φ:Ct) (T:Expr) (st:Bool) (s:Shared) (E:GE) (F:String) (l:List V) (vs:List Value):Prop:=
 wpAny (model Φ.fx.g.prog Φ.fx.g.w) Φ.fx.A (call (.type F) vs) (fun z s₁=>wpAny (model Φ.fx.g.prog Φ.fx.g.w) Φ.fx.A (pyIter z) (fun it s'=>Grown s s'/\FeedAt Φ T st s s' it l) E s₁) E s
def oF {qs:List (Expr×DV)} {op:List V->Option V} (hx:bW Φ.fx.env.scope.names f=true) (hF:bD.lookup f=some (.type F)) (hq:∀ q∈qs,aq q.1=true/\bu Φ q)
  (Jt:∀ s vs xs z l E,Inv Φ s->Φ.rps s.heap vs xs->op xs=some z->a9 z=some l->dP Φ T st s E F l vs) :
  eI Φ T st (.Call (.Name f fp) (qs.map Prod.fst) [] pos) (fun K=>br (qs.map Prod.snd) fun xs=>okK (op xs) fun z=>okK (a9 z) K):=fun K s hd I Q E hQ=>by
 refine (?_:wpAny _ _ (eval (.Name f fp) Φ.fx.env >>= fun F=>callWith pos F [] (backTo pos (starEach (qs.map Prod.fst) Φ.fx.env)) []) _ _ s);refine zC1 (cL I hx hF ?_ E);refine PySem.callWith_type (dx (bU fun q m=>(hq q m).1)) (cm hq hd I fun vs xs s₁ FM FQ hx rs=>ae hx fun z e hz=>ae hz fun l el kl=>?_);exact LT (Jt s₁ vs xs z l E FM rs e el) (fun z FN p=>LT p (fun it Gi p=>hQ l s₁ it Gi kl FM FQ p.1 p.2) fun U U z=>z) fun U U z=>z
def gZ (e:m8 a b=some z) (el:a9 z=some l) {C:List V->Prop} (k:rOk a=true/\rOk b=true->(be a b).length<=af->C (be a b)):C l:=
 aU e fun h1 e=>fit_elim (C:=fun z=>a9 z=some l->C l) e (fun hz el=>fit_elim (C:=C) el fun U=>k h1 hz) el
def tI {qs:List (Expr×DV)} (hx:bW Φ.fx.env.scope.names "range"=true) (hq:∀ q∈qs,aq q.1=true/\bu Φ q) :
  eI Φ T st (.Call (.Name "range" fp) (qs.map Prod.fst) [] pos) (fun K=>br (qs.map Prod.snd) fun xs=>okK (opN .range xs) fun z=>okK (a9 z) K):=by
 refine oF (F:="range") hx rfl hq fun s vs xs z l E I rs e el=>?_;cases rs with
 | nil=>(injection e; done)
 | cons r rs=>
  cases rs with
  | nil=>exact bJ (f:=fun b=>m8 0 b) (C:=fun x=>Φ.rp s.heap _ x->dP Φ T st s E "range" l [_]) e (fun b e r=>r.int_elim (C:=fun v=>dP Φ T st s E "range" l [v]) fun t=>gZ (C:=fun l=>dP Φ T st s E "range" l [.int b t]) e el fun h1 hz=>call_range_1 (i8 I h1 hz (IsRange.new ..) (Grown.push s _ _))) r
  | cons r' rs=>
   cases rs with
   | nil=>exact cF (C:=fun v u=>dP Φ T st s E "range" l [v,u]) e r r' fun a b t t' e=>gZ (C:=fun l=>dP Φ T st s E "range" l [.int a t,.int b t']) e el fun h1 hz=>call_range_2 (i8 I h1 hz (IsRange.new ..) (Grown.push s _ _))
   | cons _ _=>(injection e; done)
end
theorem IsTupleIter.live (x:Heap.IsTupleIter h it l i):aL h it:=x.elim fun o e=>⟨o,e.1⟩
theorem IsListIter.live (x:Heap.IsListIter h it l i):aL h it:=x.elim fun o e=>⟨o,e.1⟩
theorem IsTuple.live (x:Heap.IsTuple h l xs):aL h l:=x.elim fun o e=>⟨o,e.1⟩
theorem IsList.live (x:Heap.IsList h l xs):aL h l:=x.elim fun o e=>⟨o,e.1⟩
section
variable {prog:Program} {w:World} {A:Around} {E:GE} {s:Shared}
def nY {items} (HH:s.heap.IsTupleIter it l i) (hl:s.heap.IsTuple l items) (hx:items[i]?=some x)
  (hQ:∀ h',h'.IsTupleIter it l (i+1)->SameBut it s.heap h'->Q x { s with heap:=h' }):GM prog w A (Builtin.SmallTypes.nextOf (.ref it)) Q E s:=by
 obtain ⟨o,ho,hc,hd⟩:=id HH;obtain ⟨ol,KJ,_,nl,I8⟩:=hl;have hT:s.TypeIs (.ref it) "tuple_iterator":=⟨o,ho,hc⟩;refine zC1 (wpAny_callSpecial?_slot (name:=ofString "__next__") hT PySem.F.slot_tuple_iterator_next
  (wpAny_call_entry PySem.F.slot_tuple_iterator_next hT PySem.F.entry_tuple_iterator_next ?_ (PySem.F.args_tuple_iterator_next_1 _)))
 refine (?_:wpAny _ _ (field (.ref it) 0 >>= _) _ _ s);refine (bFi ho hd (x:=.ref l) rfl ?_);refine wpAny_ite_false (c:=(Value.ref l==Value.none)=true) rfl ((bFi ho hd (x:=.int i 0) rfl ?_));refine (?_:wpAny _ _ (seqItems? (.ref l) >>= _) _ _ s);refine zC1 (wpAny_seqItems KJ I8 ?_);dsimp only;refine (hx:items[(i:Int).toNat]?=_).symm▸zC1 (wpAny_setField ho hd (by simp) (zC2 ⟨x,rfl,zC2 (hQ _ ?_ (SameBut.update ..))⟩));exact ⟨_,get?_update_self _ ho (Obj.isFreed_of_fields (data_mapFields hd _)),(Obj.cls_mapFields ..).trans hc,by rw [data_mapFields hd]; simp [rawInt]⟩
def qq {items} (hh:A.handled=none) (HH:s.heap.IsTupleIter it l i) (hl:s.heap.IsTuple l items) (hx:items[i]?=none)
  (hE:∀ h' e,Heap.ExtBut it s.heap h'->(∃ o,h'.get? e=some o/\o.cls=.type "StopIteration")->E (.ref e) { s with heap:=h' }):GM prog w A (Builtin.SmallTypes.nextOf (.ref it)) Q E s:=by
 obtain ⟨o,ho,hc,hd⟩:=id HH;obtain ⟨ol,KJ,_,nl,I8⟩:=hl;have hT:s.TypeIs (.ref it) "tuple_iterator":=⟨o,ho,hc⟩;refine zC1 (wpAny_callSpecial?_slot (name:=ofString "__next__") hT PySem.F.slot_tuple_iterator_next
  (wpAny_call_entry PySem.F.slot_tuple_iterator_next hT PySem.F.entry_tuple_iterator_next ?_ (PySem.F.args_tuple_iterator_next_1 _)))
 refine (?_:wpAny _ _ (field (.ref it) 0 >>= _) _ _ s);refine (bFi ho hd (x:=.ref l) rfl ?_);refine wpAny_ite_false (c:=(Value.ref l==Value.none)=true) rfl ((bFi ho hd (x:=.int i 0) rfl ?_));refine (?_:wpAny _ _ (seqItems? (.ref l) >>= _) _ _ s);refine zC1 (wpAny_seqItems KJ I8 ?_);dsimp only;refine (hx:items[(i:Int).toNat]?=_).symm▸(bRu (zC1 (wpAny_setField ho hd (by simp) ?_)));refine (?_:wpAny _ _ (newExc (.type "StopIteration") [] >>= _) _ _ _);refine zC1 (zC1 (wpAny_newObj_type (zC1 (wpAny_of_eq (a:=Value.none) rfl (wpAny_newObj_type ?_ (by size_fits)))) (by size_fits)));refine wpAny_raiseNew_none (hh:A.in1.handled=none) ?_;exact hE _ _ (((SameBut.update ..).extBut.push _).push _) ⟨_,Q2 _ rfl,rfl⟩
def DA:0 < 5:=by decide
def FA:1 < 5:=by decide
def rF (hh:A.handled=none) (D:ZipApart z TI TO i1 i2 l1 l2)
  (hz:IsZip s.heap z TI TO .none) (hTI:IsPair s.heap TI (.ref i1) (.ref i2)) (hTO:IsPair s.heap TO a b)
  (h1:s.heap.IsTupleIter i1 l1 k) (h2:s.heap.IsListIter i2 l2 k) (hl1:s.heap.IsTuple l1 xs) (hl2:s.heap.IsList l2 ys) (F2:xs.size=ys.size)
  (hQ:∀ x y h',xs[k]?=some x->ys[k]?=some y->IsZip h' z TI TO (rawInt s.heap.objs.size)->IsPair h' TO x y->h'.IsTupleIter i1 l1 (k+1)->h'.IsListIter i2 l2 (k+1)->IsPair h' s.heap.objs.size x y ->
   (∀ c o,c≠z->c≠TO->c≠i1->c≠i2->s.heap.get? c=some o->h'.get? c=some o)->Q (.done (.ret (.ref s.heap.objs.size))) { s with heap:=h' })
  (hE:xs[k]?=none->∀ h' e,(∀ c o,c≠z->c≠TO->c≠i1->c≠i2->s.heap.get? c=some o->h'.get? c=some o)->(∃ o,h'.get? e=some o/\o.cls=.type "StopIteration")->E (.ref e) { s with heap:=h' }) :
  GM prog w A (Builtin.«zip.__next__» ⟨[.ref z],[]⟩) Q E s:=by
 have Gc:∀ {h:Heap} {e:Addr} {oe:Obj},IsZip h z TI TO .ellipsis->h.get? e=some oe->oe.cls=.type "StopIteration"->e≠z:=fun Hx LD LN x=>by
  subst x; (injection Hx.symm.trans LD with Xq; subst Xq); exact absurd (show Value.type "zip"=Value.type "StopIteration" from LN) (by decide)
 refine (?_:wpAny _ _ (field (.ref z) 2 >>= _) _ _ _);refine (bFi hz rfl (x:=.bool false) rfl ?_);refine (?_:wpAny _ _ (field (.ref z) 3 >>= _) _ _ _);refine (bFi hz rfl (x:=.ref TI) rfl ?_);refine zC1 (wpAny_seqItems hTI rfl ?_);refine wpAny_bind (m:=Builtin.SmallTypes.ownedTupleIsFree (.ref z)) ((bFi hz rfl (x:=.none) rfl (zC2 ?_)));refine wpAny_ite_true rfl ((bRu ?_));refine (bFi hz rfl (x:=.ref TO) rfl ?_);refine zC1 (wpAny_setField_rec hz DA fun Gf Hy Gg=>?_);replace Hy:IsZip Gf z TI TO .ellipsis:=Hy;refine zC1 ?_;simp only [zipIdx_cons,List.zipIdx_nil,forIn_cons,List.forIn_nil];refine zC1 (zC1 (wpAny_onRaise ?_));refine (?_:wpAny _ _ (Builtin.SmallTypes.nextOf (.ref i1) >>= _) _ _ _);cases hx:xs[k]? with
 | none=>
  refine zC1 (qq hh (Heap.IsTupleIter.at h1 fun o e=>Gg.extBut _ o D.i1z e) (Heap.IsTuple.at hl1 fun o e=>Gg.extBut _ o D.l1z e) hx fun Hn e Gn NC=>?_);obtain ⟨oe,LD,LN⟩:=NC;have Hx:IsZip Hn z TI TO .ellipsis:=Gn _ _ D.i1z.symm Hy;exact wpAny_setField_rec Hx DA fun Gy U Gm=>hE hx Gy e (fun c o c1 U c3 U x=>Gm.extBut _ _ c1 (Gn _ _ c3 (Gg.extBut _ _ c1 x))) ⟨oe,Gm.extBut _ _ (Gc Hx LD LN) LD,LN⟩
 | some x=>
 refine zC1 (nY (Heap.IsTupleIter.at h1 fun o e=>Gg.extBut _ o D.i1z e) (Heap.IsTuple.at hl1 fun o e=>Gg.extBut _ o D.l1z e) hx fun Hn La Gn=>zC2 ?_);have H8:IsPair Hn TO a b:=Gn.extBut _ _ D.TOi1 (Gg.extBut _ _ D.TOz hTO);refine zC1 (wpAny_seqItems H8 rfl ?_);refine zC1 (wpAny_updateSeq_pair H8 fun Gy Hr Gm=>?_);replace Hr:IsPair Gy TO x b:=Hr;refine zC1 (wpAny_letGo (zC2 ?_));refine zC1 (zC1 (wpAny_onRaise ?_));refine (?_:wpAny _ _ (Builtin.SmallTypes.nextOf (.ref i2) >>= _) _ _ _);have K9:Gy.IsListIter i2 l2 k:=Heap.IsListIter.at h2 fun o e=>Gm.extBut _ o D.TOi2.symm (Gn.extBut _ o D.i12.symm (Gg.extBut _ o D.i2z e));have Ju:Gy.IsList l2 ys:=Heap.IsList.at hl2 fun o e=>Gm.extBut _ o D.l2TO (Gn.extBut _ o D.l2i1 (Gg.extBut _ o D.l2z e));have Kw:IsZip Gy z TI TO .ellipsis:=Gm.extBut _ _ D.TOz.symm (Gn.extBut _ _ D.i1z.symm Hy);have KQ:∀ c o,c≠z->c≠TO->c≠i1->s.heap.get? c=some o->Gy.get? c=some o:=fun c o c1 c2 c3 e=>Gm.extBut _ _ c2 (Gn.extBut _ _ c3 (Gg.extBut _ _ c1 e));obtain ⟨y,hy⟩:∃ y,ys[k]?=some y:=⟨_,Array.getElem?_eq_getElem (F2▸(Array.getElem?_eq_some_iff.mp hx).1)⟩;refine zC1 (wpAny_nextOf_list_item K9 Ju hy fun Jo K8 Hg=>zC2 ?_);have H7:IsPair Jo TO x b:=Hg.extBut _ _ D.TOi2 Hr;refine zC1 (wpAny_seqItems H7 rfl ?_);refine zC1 (wpAny_updateSeq_pair H7 fun He G6 Hf=>?_);replace G6:IsPair He TO x y:=G6;refine zC1 (wpAny_letGo (zC2 (zC2 ?_)));refine zC1 (wpAny_seqItems G6 rfl ?_);refine zC1 (wpAny_newTuple ?_);have hsz:He.objs.size=s.heap.objs.size:=Hf.1.trans (Hg.1.trans (Gm.1.trans (Gn.1.trans Gg.1)));have IW:IsZip He z TI TO .ellipsis:=Hf.extBut _ _ D.TOz.symm (Hg.extBut _ _ D.i2z.symm Kw);have hn:He.objs.size≠z:=ne_of_gt (lt_size IW);refine wpAny_bind (m:=Builtin.SmallTypes.ownedTupleHandOut (.ref z) (.ref He.objs.size)) (zC1 (wpAny_setField_rec (Q4 _ IW) DA fun Iv Kv IZ=>?_));refine wpAny_setField_rec Kv FA fun Kr Ku IY=>?_;have up:∀ c o,c≠z->He.get? c=some o->Kr.get? c=some o:=fun c o c1 e=>IY.extBut _ _ c1 (IZ.extBut _ _ c1 (Q4 _ e));refine zC2 ?_;have fin:=hQ x y Kr hx hy;rw [<- hsz] at fin;exact fin Ku (up _ _ D.TOz G6) (Heap.IsTupleIter.at La fun o e=>up _ o D.i1z (Hf.extBut _ o D.TOi1.symm (Hg.extBut _ o D.i12 (Gm.extBut _ o D.TOi1.symm e)))) (Heap.IsListIter.at K8 fun o e=>up _ o D.i2z (Hf.extBut _ o D.TOi2.symm e))
  (IY.extBut _ _ hn (IZ.extBut _ _ hn (Q2 _ rfl))) fun c o c1 c2 c3 c4 e=>up c o c1 (Hf.extBut _ _ c2 (Hg.extBut _ _ c4 (KQ c o c1 c2 c3 e)))
end
def mc {P:Addr->Prop} (h:P a) (t:∀ x∈l,P x):∀ x∈a :: l,P x:=zA1 ⟨h,t⟩
def Dx {P:Addr->Prop} (h1:P a) (h2:P b) (h3:P c) (h4:P d):∀ x∈[a,b,c,d],P x:=mc h1 (mc h2 (mc h3 (mc h4 fun U m=>nM m)))
def E0 {P:Addr->Prop} (h1:P a) (h2:P b) (h3:P c) (h4:P d) (h5:P e) (h6:P f) (h7:P g):∀ x∈[a,b,c,d,e,f,g],P x:=mc h1 (mc h2 (mc h3 (Dx h4 h5 h6 h7)))
def nm4 (h:x∉[a,b,c,d]):x≠a/\x≠b/\x≠c/\x≠d:=
 ⟨fun e=>h (e▸.head _),fun e=>h (e▸.tail _ (.head _)),fun e=>h (e▸.tail _ (.tail _ (.head _))),fun e=>h (e▸.tail _ (.tail _ (.tail _ (.head _))))⟩
theorem RpAll.unapp:∀ {l:List V},u.length=l.length->RpAll g bad h (u++v) (l++m)->RpAll g bad h u l/\RpAll g bad h v m:=by
 induction u with
 | nil=>intro l e x; obtain rfl:=length_eq_zero_iff.mp e.symm; exact ⟨.nil,x⟩
 | cons a u ih=>
  intro l e x;cases l with
  | nil=>exact nomatch e
  | cons b l=>cases x with | cons y x=>exact (ih (Nat.succ.inj e) x).imp_left (.cons y)
structure ZipSt (z TI TO i1 i2 l1 l2:Addr) (xs ys:Array Value) (i:Nat) (h:Heap):Prop where
 z:IsZip h z TI TO .none
 ti:IsPair h TI (.ref i1) (.ref i2)
 to:∃ a b,IsPair h TO a b
 h1:h.IsTupleIter i1 l1 i
 h2:h.IsListIter i2 l2 i
 hl1:h.IsTuple l1 xs
 hl2:h.IsList l2 ys
def uP {l r:List V} {i:Nat} (e:(uN l r)[i]?=some x):∃ a b,l[i]?=some a/\r[i]?=some b/\x=.tuple [a,b]:=by
 unfold uN at e;rw [List.getElem?_zipWith] at e
 revert e
 cases l[i]? with
 | none=>exact fun e=>nN e.symm
 | some a=>cases r[i]? with
  | none=>exact fun e=>nN e.symm
  | some b=>exact fun e=>⟨_,_,rfl,rfl,(LE e).symm⟩
def nT {l r:List V} (h:l.length=r.length):(uN l r).length=l.length:=List.length_zipWith.trans (by rw [h,Nat.min_self])
def wh (hh:A.handled=none) {HL:List Expr} {kk:Nat} (D:ZipApart z TI TO i1 i2 l1 l2) (xs ys:Array Value) (la lb:List V) (LJ:xs.size=la.length) (hlb:ys.size=lb.length) (Il:la.length=lb.length) :
  Feed g A (.Tuple HL kk pos) z [z,TI,TO,i1,i2,l1,l2] [z,TO,i1,i2] (xs.toList++ys.toList) (la++lb) (uN la lb) (ZipSt z TI TO i1 i2 l1 l2 xs ys) where
 sub:=Dx (.head _) (.tail _ (.tail _ (.head _))) (.tail _ (.tail _ (.tail _ (.head _)))) (.tail _ (.tail _ (.tail _ (.tail _ (.head _)))))
 frame:=fun i h h' st hk=>st.to.elim fun a ⟨b,e⟩=>
  have m4:TO∈[z,TI,TO,i1,i2,l1,l2]:=.tail _ (.tail _ (.head _));have t:∀ x∈[i1,i2,l1,l2],∀ o,h.get? x=some o->h'.get? x=some o:=fun x m=>hk x (.tail _ (.tail _ (.tail _ m)))
  ⟨hk z (.head _) _ st.z,hk TI (.tail _ (.head _)) _ st.ti,⟨a,b,hk TO m4 _ e⟩,Heap.IsTupleIter.at st.h1 (t _ (.head _)),Heap.IsListIter.at st.h2 (t _ (.tail _ (.head _))),Heap.IsTuple.at st.hl1 (t _ (.tail _ (.tail _ (.head _)))),Heap.IsList.at st.hl2 (t _ (.tail _ (.tail _ (.tail _ (.head _)))))⟩
 live:=fun i h b st hb=>st.to.elim fun a ⟨b',Jq⟩=>E0 (P:=aL h) ⟨_,st.z⟩ ⟨_,st.ti⟩ ⟨_,Jq⟩ (IsTupleIter.live st.h1) (IsListIter.live st.h2) (IsTuple.live st.hl1) (IsList.live st.hl2) b hb
 item:=fun i x s bad Q E hx st hv hb hw hQ=>by
  obtain ⟨xa,xb,ha,hbb,rfl⟩:=uP hx;have hv:=RpAll.unapp LJ hv;obtain ⟨va,LW,ra⟩:=hv.1.get ha;obtain ⟨vb,MX,rb⟩:=hv.2.get hbb;replace LW:=Q5.symm.trans LW;replace MX:=Q5.symm.trans MX;obtain ⟨a,b,Jq⟩:=st.to;have hT:s.TypeIs (.ref z) "zip":=⟨_,st.z,rfl⟩;unfold pyNext;refine zC1 (wpAny_attempt (wpAny_callSpecial?_slot (name:=ofString "__next__") hT PySem.F.slot_zip_next
   (wpAny_call_entry PySem.F.slot_zip_next hT PySem.F.entry_zip_next
    (rF hh D st.z st.ti Jq st.h1 st.h2 st.hl1 st.hl2 (LJ.trans (Il.trans hlb.symm)) (fun x y h' ex ey a1 a2 a3 a4 a5 hk=>⟨_,rfl,zC2 ?_⟩) fun q=>nomatch LW.symm.trans q) (PySem.F.args_zip_next_1 _))))
  (injection LW.symm.trans ex with Xq; subst Xq);(injection MX.symm.trans ey with Xq; subst Xq);refine ⟨_,rfl,wpAny_letOwnedTupleGo_zip a1 fun Lb Ix GB=>?_⟩;have up:∀ c o,c∉[z,TO,i1,i2]->s.heap.get? c=some o->Lb.get? c=some o:=fun c o hc e=>
   have hc:=nm4 hc
   GB.extBut _ _ hc.1 (hk c o hc.1 hc.2.1 hc.2.2.1 hc.2.2.2 e)
  have F9:s.heap.objs.size≠z:=ne_of_gt (lt_size st.z);have kb:bK bad bad s.heap Lb:=fun c o e nb=>⟨nb,up c o (fun m=>nb (hw c m)) e⟩;refine hQ _ Lb s.toks ⟨Ix,?_,⟨_,_,GB.extBut _ _ D.TOz a2⟩,Heap.IsTupleIter.at a3 fun o e=>GB.extBut _ o D.i1z e,Heap.IsListIter.at a4 fun o e=>GB.extBut _ o D.i2z e,?_,?_⟩ up (.tuple (fun q=>by obtain ⟨o,e⟩:=hb _ q; rw [ak] at e; (injection e; done)) (GB.extBut _ _ F9 a5) rfl rfl ?_)
  ·exact GB.extBut _ _ D.TIz (hk _ _ D.TIz D.TITO D.TIi1 D.TIi2 st.ti)
  ·exact Heap.IsTuple.at st.hl1 fun o e=>GB.extBut _ o D.l1z (hk _ o D.l1z D.l1TO D.l1i1 D.l1i2 e)
  ·exact Heap.IsList.at st.hl2 fun o e=>GB.extBut _ o D.l2z (hk _ o D.l2z D.l2TO D.l2i1 D.l2i2 e)
  ·exact .cons (ra.map kb) (.cons (rb.map kb) .nil)
 done:=fun s Q E st hQ=>by
  obtain ⟨a,b,Jq⟩:=st.to;have hT:s.TypeIs (.ref z) "zip":=⟨_,st.z,rfl⟩;unfold pyNext;refine zC1 (wpAny_attempt (wpAny_callSpecial?_slot (name:=ofString "__next__") hT PySem.F.slot_zip_next
   (wpAny_call_entry PySem.F.slot_zip_next hT PySem.F.entry_zip_next (rF hh D st.z st.ti Jq st.h1 st.h2 st.hl1 st.hl2 (LJ.trans (Il.trans hlb.symm)) (fun x y h' ex ey U U U U U U=>?_) fun U h' e hk he=>?_) (PySem.F.args_zip_next_1 _))))
  ·exact absurd (LJ▸(Array.getElem?_eq_some_iff.mp ex).1) (not_lt.mpr (zB2 (nT Il).symm))
  ·obtain ⟨o,ho,hc⟩:=he;refine zC1 (wpAny_isInstance (T:="StopIteration") (b:=true) ⟨o,ho,hc⟩ isSubtype_stop ?_);refine zC2 ⟨rfl,hQ _ s.toks fun c o hc e=>?_⟩;have hc:=nm4 hc;exact hk c o hc.1 hc.2.1 hc.2.2.1 hc.2.2.2 e
 self:=fun i s Q E st hQ=>wpAny_pyIter_zip st.z hQ
section
variable {A:Around} {E:GE} {s:Shared}
noncomputable def itT (l:Addr):Obj:={ cls:=.type "tuple_iterator",data:=.fields #[.ref l,.int 0 0] }
noncomputable def itL (l:Addr):Obj:={ cls:=.type "list_iterator",data:=.fields #[.ref l,.int 0 0] }
def CP (h:s.heap.IsTuple l xs) (hQ:Q (.ref s.heap.objs.size) { s with heap:=s.heap.push (itT l) }):GM prog w A (pyIter (.ref l)) Q E s:=wpAny_pyIter_tuple h hQ
def CQ (h:s.heap.IsList l xs) (hQ:Q (.ref s.heap.objs.size) { s with heap:=s.heap.push (itL l) }):GM prog w A (pyIter (.ref l)) Q E s:=wpAny_pyIter_list h hQ
def zH1 (h:Heap) (l1:Addr):Heap:=h.push (itT l1)
def zH2 (h:Heap) (l1 l2:Addr):Heap:=(zH1 h l1).push (itL l2)
def zH3 (h:Heap) (l1 l2:Addr):Heap:=(zH2 h l1 l2).push { cls:=.type "tuple",data:=.seq #[.ref h.objs.size,.ref (zH1 h l1).objs.size] }
def zH4 (h:Heap) (l1 l2:Addr):Heap:=(zH3 h l1 l2).push { cls:=.type "tuple",data:=.seq #[.none,.none] }
def zH5 (h:Heap) (l1 l2:Addr):Heap:=(zH4 h l1 l2).push { cls:=.type "zip",data:=.fields #[.none,.bool false,.bool false,.ref (zH2 h l1 l2).objs.size,.ref (zH3 h l1 l2).objs.size] }
def ty (l1 l2:Addr) (xs ys:Array Value) :
  Meets (Builtin.«zip.__new__» ⟨[.type "zip",.ref l1,.ref l2],[]⟩) (fun U R s=>s.heap.IsTuple l1 xs/\s.heap.IsList l2 ys /\
   R (.ok (.ret (.ref (zH4 s.heap l1 l2).objs.size))) { s with heap:=zH5 s.heap l1 l2 }):=
 .of_wp fun prog w A R s h=>by
  obtain ⟨hp,g,d,tk,os⟩:=s; obtain ⟨hl1,hl2,h⟩:=h;have KA:=sub_zip;have hL1:(Shared.heap ⟨hp,g,d,tk,os⟩).IsTuple l1 xs:=hl1;have hL2:(Shared.heap ⟨hp.push (itT l1),g,d,tk,os⟩).IsList l2 ys:=Heap.IsList.at hl2 fun o e=>Q4 _ e
  wp_walk using CP hL1,CQ hL2
  exact ⟨_,rfl,h⟩
def vP (hl1:s.heap.IsTuple l1 xs) (hl2:s.heap.IsList l2 ys)
  (h:∀ h',IsZip h' (s.heap.objs.size+4) (s.heap.objs.size+2) (s.heap.objs.size+3) .none->IsPair h' (s.heap.objs.size+2) (.ref s.heap.objs.size) (.ref (s.heap.objs.size+1)) ->
   IsPair h' (s.heap.objs.size+3) .none .none->h'.IsTupleIter s.heap.objs.size l1 0->h'.IsListIter (s.heap.objs.size+1) l2 0 ->
   (∀ c o,s.heap.get? c=some o->h'.get? c=some o)->Q (.ref (s.heap.objs.size+4)) { s with heap:=h' }) :
  GM prog w A (call (.type "zip") [.ref l1,.ref l2]) Q E s:=by
 refine callType_new PySem.F.called_zip (by decide) (PySem.F.typeCall_zip_2 _ _) (PySem.F.newCall_zip_2 _ _) (fun obj=>PySem.F.args_object_init_3 obj _ _) PySem.F.entry_zip_new
  (ty l1 l2 xs ys) ⟨hl1,hl2,?_⟩
 have z1:(zH1 s.heap l1).objs.size=s.heap.objs.size+1:=size_push ..;have z2:(zH2 s.heap l1 l2).objs.size=s.heap.objs.size+2:=by unfold zH2; rw [size_push,z1]
 have z3:(zH3 s.heap l1 l2).objs.size=s.heap.objs.size+3:=by unfold zH3; rw [size_push,z2]
 have z4:(zH4 s.heap l1 l2).objs.size=s.heap.objs.size+4:=by unfold zH4; rw [size_push,z3]
 have g5:(zH5 s.heap l1 l2).get? (zH4 s.heap l1 l2).objs.size=some _:=Q2 _ rfl;have g4:(zH5 s.heap l1 l2).get? (zH3 s.heap l1 l2).objs.size=some _:=Q4 _ (Q2 _ rfl);have g3:(zH5 s.heap l1 l2).get? (zH2 s.heap l1 l2).objs.size=some _:=Q4 _ (Q4 _ (Q2 _ rfl));have g2:(zH5 s.heap l1 l2).get? (zH1 s.heap l1).objs.size=some _:=Q4 _ (Q4 _ (Q4 _ (Q2 _ rfl)));have g1:(zH5 s.heap l1 l2).get? s.heap.objs.size=some _:=Q4 _ (Q4 _ (Q4 _ (Q4 _ (Q2 _ rfl))));refine (?_:_/\_);rw [z2,z3,z4] at g5;rw [z1,z2] at g3;rw [z3] at g4;rw [z1] at g2;rw [z4];exact ⟨⟨_,g5,rfl⟩,h _ g5 g3 g4 ⟨_,g1,rfl,rfl⟩ ⟨_,g2,rfl,rfl⟩ fun c o x=>
  Q4 _ (Q4 _ (Q4 _ (Q4 _ (Q4 _ x))))⟩
end
def Do (n a b:Nat) (h1:a < n) (h2:b < n):ZipApart (n+4) (n+2) (n+3) n (n+1) a b:=by
 have q:∀ {i j:Nat},i≠j->n+i≠n+j:=fun h e=>h (Nat.add_left_cancel e);have p:∀ {i x:Nat},x < n->x≠n+i:=fun h=>ne_of_lt (Q1 h (Q3 _ _));constructor <;> first | exact p (i:=0) h1 | exact p h1 | exact p (i:=0) h2 | exact p h2 | exact q (by decide) | exact q (i:=0) (by decide) | exact q (j:=0) (by decide)
section
variable {Φ:Ct} {E:GE} {s:Shared} {st:Bool}
def vZ (I:Inv Φ s) (Il:la.length=lb.length) (hz:(uN la lb).length<=af) (r1:Φ.rp s.heap v1 (.tuple la)) (r2:Φ.rp s.heap v2 (.list lb)):dP Φ (.Tuple HL kk pos) st s E "zip" (uN la lb) [v1,v2]:=
 r1.tuple_elim fun a1 o1 xs n1 nb1 g1 IG Jw rr1=>r2.list_elim fun a2 o2 ys n2 nb2 g2 IF IE rr2=>by
 have h1:s.heap.IsTuple a1 xs:=⟨_,g1,IG,_,Jw⟩;have h2:s.heap.IsList a2 ys:=⟨_,g2,IF.1,_,IE⟩;refine vP h1 h2 fun h' Ix hti Jq hi1 hi2 hk=>wpAny_pyIter_zip Ix ⟨⟨hk,rfl,rfl⟩,?_⟩;have fresh:∀ k,s.heap.get? (s.heap.objs.size+k)=none:=fun k=>by
  cases e:s.heap.get? (s.heap.objs.size+k) with
  | none=>rfl
  | some o=>exact absurd (lt_size e) (not_lt.mpr (Q3 _ _))
 have D:ZipApart (s.heap.objs.size+4) (s.heap.objs.size+2) (s.heap.objs.size+3) s.heap.objs.size (s.heap.objs.size+1) a1 a2:=Do _ _ _ (lt_size g1) (lt_size g2);exact ⟨_,_,_,_,_,_,rfl,wh I.ok.hand D xs ys la lb (aN rr1) (aN rr2) Il,⟨Ix,hti,⟨_,_,Jq⟩,hi1,hi2,Heap.IsTuple.at h1 fun o e=>hk _ o e,Heap.IsList.at h2 fun o e=>hk _ o e⟩,rr1.append rr2,Dx (fresh 4) (fresh 3) (fresh 0) (fresh 1),E0 (.inl (fresh 4)) (.inl (fresh 2)) (.inl (fresh 3)) (.inl (fresh 0)) (.inl (fresh 1)) (.inr fun U=>nb1) (.inr fun U=>nb2),hz⟩
def yY {qs:List (Expr×DV)} {HL:List Expr} {kk:Nat} (hx:bW Φ.fx.env.scope.names "zip"=true) (hq:∀ q∈qs,aq q.1=true/\bu Φ q) :
  eI Φ (.Tuple HL kk tp) st (.Call (.Name "zip" fp) (qs.map Prod.fst) [] pos) (fun K=>br (qs.map Prod.snd) fun xs=>okK (opN .zip xs) fun z=>okK (a9 z) K):=
 oF (F:="zip") hx rfl hq fun s vs xs z l E I rs e el=>uX (C:=dP Φ (.Tuple HL kk tp) st s E "zip" l) e rs fun v u x y r1 r2 e=>by
  cases x with
  | tuple la=>cases y with
   | list lb=>
    by_cases q:la.length=lb.length
    ·obtain rfl:=LE ((NP q).symm.trans e);exact fit_elim (C:=fun l=>dP Φ (.Tuple HL kk tp) st s E "zip" l [v,u]) el fun hz=>vZ I q hz r1 r2
    ·exact nN ((NQ q).symm.trans e).symm
   | _=>exact nN (Eq.symm e)
  | _=>exact nN (Eq.symm e)
end
def al (h:x=none) (e:x=some a):False:=nomatch h.symm.trans e
def hY (h:Heap) (p:Pl) (v:Option Value) (h':Heap):Prop:=match p with
 | .ns a x=>(∃ m,h.Ns a m/\h'.Ns a (fun y=>if y=x then v else m y))/\SameBut a h h'
 | .cell c=>h'.IsCell c v/\SameBut c h h'
 | .off=>False
section
variable {Φ Φ':Ct} {s s' FO:Shared} {h h':Heap}
def fU (I:Inv Φ s) (hx:Φ.fx.ρ.lookup x=some k) (hnf:Φ.fx.env.kindOf x≠some .free) (h:∀ h' tk,hY s.heap (Φ.fx.pl k) (some v) h'->Q () { s with heap:=h',toks:=tk }):Φ.wp (storeName Φ.fx.env x v) Q s:=fun E=>by
 obtain ⟨u,pr,_⟩:=I.slot k;rcases I.ok.vis x k hx with ⟨hl,hp⟩ | ⟨hl,c,hc,hp⟩
 ·rw [hp] at pr h;obtain ⟨m,LF,hv⟩:=pr;exact wpAny_storeName_local hl LF (fun h' HE GB=>h h' _ ⟨⟨m,LF,HE⟩,GB⟩) (by rw [I.ok.kind]; rfl)
 ·rw [hp] at pr h;rcases hl with hl | hl
  ·exact wpAny_storeName_cell I.ok.kind hl hc pr fun h' GL GB=>h h' s.toks ⟨GL,GB⟩
  ·exact absurd hl hnf
theorem hY.addr (ps:hY h p v h'):∃ a,p.addr=some a/\SameBut a h h'/\aL h' a:=by
 cases p with
 | ns a x=>obtain ⟨⟨m,_,hn⟩,hs⟩:=ps; obtain ⟨o,es,ep,ho,_⟩:=hn; exact ⟨a,rfl,hs,⟨o,ho⟩⟩
 | cell c=>obtain ⟨⟨o,ho,hd⟩,hs⟩:=ps; exact ⟨c,rfl,hs,⟨o,ho⟩⟩
 | off=>exact ps.elim
theorem hY.self (ps:hY h p v h'):ay h' p v:=by
 cases p with
 | ns a x=>obtain ⟨⟨m,_,hn⟩,hs⟩:=ps; exact ⟨_,hn,NP rfl⟩
 | cell c=>exact ps.1
 | off=>exact ps.elim
theorem hY.other (ps:hY h p v h') (Gc:q≠p) (ap:∀ a x c,(p=.ns a x/\q=.cell c)\/(q=.ns a x/\p=.cell c)->a≠c) (r:ay h q u):ay h' q u:=by
 cases p with
 | ns a x=>
  obtain ⟨⟨m,hm,hn⟩,hs⟩:=ps;cases q with
  | ns b y=>
   obtain ⟨m',HF,hu⟩:=r;by_cases e:b=a
   ·subst e;refine ⟨_,hn,?_⟩;rw [NQ fun q=>Gc (by rw [q])];refine aV fun Z17 Mi=>?_;obtain ⟨o,es,ep,ho,hd,_,hf⟩:=hm;obtain ⟨o',HK,ep',Gj,F6,_,Jv⟩:=HF;refine Mi ?_;replace Gj:=ho▸Gj; (injection Gj with Gj; subst Gj);replace F6:=hd▸F6; (injection F6 with F6; subst F6);rw [<- hf,Jv]; exact hu
   ·exact ⟨m',HF.sameBut hs e,hu⟩
  | cell c=>obtain ⟨o,ho,hd⟩:=r; exact ⟨o,hs.extBut c o (Ne.symm (ap a x c (.inl ⟨rfl,rfl⟩))) ho,hd⟩
  | off=>exact r
 | cell c=>
  obtain ⟨hc,hs⟩:=ps;cases q with
  | ns b y=>obtain ⟨m',HF,hu⟩:=r; exact ⟨m',HF.sameBut hs (ap b y c (.inr ⟨rfl,rfl⟩)),hu⟩
  | cell d=>obtain ⟨o,ho,hd⟩:=r; exact ⟨o,hs.extBut d o (fun q=>Gc (by rw [q])) ho,hd⟩
  | off=>exact r
 | off=>exact ps.elim
noncomputable def isI:Slot->Prop
 | .ownI _=>True
 | _=>False
structure TrS (Φ:Ct) (s:Shared) (Φ':Ct) (s':Shared) (k:Nat):Prop where
 inst:∀ a F,Φ'.oa k=[a] :: F->isI (getSlot Φ'.G k)->∃ GO,Φ.oa k=[a] :: GO/\isI (getSlot Φ.G k)
 set:getSlot Φ'.G k=.unset->getSlot Φ.G k=.unset
 objs:∀ o',getSlot Φ'.G k=.obj o'->getSlot Φ.G k≠.unset->∃ o,getSlot Φ.G k=.obj o/\Φ'.oa k=Φ.oa k/\∀ u,ay s.heap (Φ.fx.pl k) (some u)->ay s'.heap (Φ.fx.pl k) (some u)
structure Tr (Φ:Ct) (s:Shared) (Φ':Ct) (s':Shared):Prop where
 fx:Φ'.fx=Φ.fx
 keep:∀ b o,s.heap.get? b=some o->¬ Φ.own b->s'.heap.get? b=some o
 live:∀ b,aL s.heap b->aL s'.heap b
 grow:∀ a,aL s.heap a->Φ'.own a->Φ.own a
 sl:∀ k,TrS Φ s Φ' s' k
theorem TrS.same (e1:Φ'.oa k=Φ.oa k) (e2:getSlot Φ'.G k=getSlot Φ.G k) (e3:∀ u,ay s.heap (Φ.fx.pl k) u->ay s'.heap (Φ.fx.pl k) u):TrS Φ s Φ' s' k:=
 ⟨fun a F q i=>⟨F,e1▸q,e2▸i⟩,fun q=>e2▸q,fun o' q U=>⟨o',e2▸q,e1,fun u=>e3 _⟩⟩
theorem Tr.trans (x:Tr Φ s Φ₂ FN) (y:Tr Φ₂ FN Φ₃ Gi):Tr Φ s Φ₃ Gi where
 fx:=y.fx.trans x.fx
 keep:=fun b o e n=>y.keep b o (x.keep b o e n) fun q=>n (x.grow b ⟨o,e⟩ q)
 live:=fun b l=>y.live b (x.live b l)
 grow:=fun a l q=>x.grow a l (y.grow a (x.live a l) q)
 sl:=fun k=>⟨fun a F e q=>((y.sl k).inst a F e q).elim fun GO z=>(x.sl k).inst a GO z.1 z.2,fun q=>(x.sl k).set ((y.sl k).set q),fun o' q n=>by
  obtain ⟨o2,e2,g2,p2⟩:=(y.sl k).objs o' q fun z=>n ((x.sl k).set z);obtain ⟨o1,e1,g1,p1⟩:=(x.sl k).objs o2 e2 n;exact ⟨o1,e1,g2.trans g1,fun u r=>by have:=p2 u; rw [x.fx] at this; exact this (p1 u r)⟩⟩
theorem Tr.of_keeps (k:ao s.heap s'.heap):Tr Φ s Φ s':=⟨rfl,fun b o e U=>k b o e,fun U=>k.live,fun U U q=>q,fun j=>.same rfl rfl fun U r=>r.keep k⟩
theorem Tr.refl (Φ:Ct) (s:Shared):Tr Φ s Φ s:=.of_keeps (.refl _)
theorem Tr.mapK (t:Tr Φ s Φ' s'):bK Φ.bad Φ'.bad s.heap s'.heap:=fun a o e n=>
 ⟨fun b=>b.elim (fun b=>n (.inl (t.fx▸b))) fun b=>n (.inr (t.grow a ⟨o,e⟩ b)),t.keep a o e fun q=>n (.inr q)⟩
def cr {G:Gs} {k:Nat} {x:Slot} (hk:k < G.length):getSlot (G.set k x) k=x:=by
 unfold getSlot; rw [getD_eq_getElem?_getD,List.getElem?_set_self hk]; rfl
def dB (h:j≠k):getSlot (G.set k x) j=getSlot G j:=by
 unfold getSlot; rw [getD_eq_getElem?_getD,getD_eq_getElem?_getD,List.getElem?_set_ne (Ne.symm h)]
noncomputable def Ct.put (Φ:Ct) (k:Nat) (oak:List (List Addr)) (sl:Slot):Ct:=⟨Φ.fx,fun j=>if j=k then oak else Φ.oa j,Φ.G.set k sl⟩
def di (h:j≠k):(Φ.put k oak sl).oa j=Φ.oa j:=NQ h
def put_self:(Φ.put k oak sl).oa k=oak:=NP rfl
def put_own (q:(Φ.put k oak sl).own a):a∈oak.flatten\/Φ.own a:=by
 rcases q with q | ⟨j,q⟩
 ·exact .inr (.inl q)
 ·by_cases e:j=k
  ·subst e; rw [put_self] at q; exact .inl q
  ·rw [di e] at q; exact .inr (.inr ⟨j,q⟩)
noncomputable def Bj:Slot->Prop
 | .obj _=>True
 | _=>False
def AU (I:Inv Φ s) (h:Φ.fx.pl k≠.off):k < Φ.G.length:=by
 rw [I.gl];exact Q1 (Nat.lt_of_not_le fun q=>h (I.ok.offs k q)) I.ok.nfs
def zd {p:Pl} (h:p.addr=some a):p≠.off:=fun e=>by rw [e] at h; exact nN h.symm
def zc {p:Pl} (h:ay s.heap p (some u)):p≠.off:=fun e=>by rw [e] at h; exact nN h
def r7 (I:Inv Φ s) (hn:∀ a∈oak.flatten,a∈(Φ.oa k).flatten\/¬ Φ.own a):(∀ i j a,a∈((Φ.put k oak sl).oa i).flatten->a∈((Φ.put k oak sl).oa j).flatten->i=j)/\∀ i a,a∈((Φ.put k oak sl).oa i).flatten->∀ j,(Φ.fx.pl j).addr≠some a:=by
 have one:∀ j a,j≠k->a∈(Φ.oa j).flatten->a∉oak.flatten:=fun j a e q z=>(hn a z).elim (fun z=>e (I.inj j k a q z)) fun z=>z (.inr ⟨j,q⟩);refine ⟨fun i j a q1 q2=>?_,fun i a q j z=>?_⟩
 ·by_cases h1:i=k
  ·by_cases h2:j=k
   ·exact h1.trans h2.symm
   ·subst h1; rw [put_self] at q1; rw [di h2] at q2; exact absurd q1 (one j a h2 q2)
  ·rw [di h1] at q1;by_cases h2:j=k
   ·subst h2; rw [put_self] at q2; exact absurd q2 (one i a h1 q1)
   ·rw [di h2] at q2; exact I.inj i j a q1 q2
 ·by_cases h1:i=k
  ·subst h1; rw [put_self] at q; exact (hn a q).elim (fun q=>I.off i a q j z) fun q=>q (.inl ⟨j,z⟩)
  ·rw [di h1] at q; exact I.off i a q j z
theorem Inv.put (I:Inv Φ FO) (B:Base Φ.fx.g s) (k₀:ao FO.heap s.heap) (ps:hY s.heap (Φ.fx.pl k) v h')
  (so:bz Φ.fx.g (Φ.put k oak sl).bad h' oak v sl) (F9:∀ a∈oak.flatten,FO.heap.get? a=none/\aL h' a) (MA:¬ isI sl) (ID:sl≠.unset) (H1:Bj sl->getSlot Φ.G k=.unset):Inv (Φ.put k oak sl) { s with heap:=h',toks:=tk }/\Tr Φ FO (Φ.put k oak sl) { s with heap:=h',toks:=tk }:=by
 obtain ⟨a,ha,hs,hl⟩:=ps.addr;have KI:k < Φ.G.length:=AU I (zd ha);have H0:Φ.own a:=.inl ⟨k,ha⟩;have kp:∀ b o,b≠a->FO.heap.get? b=some o->h'.get? b=some o:=fun b o n e=>hs.extBut b o n (k₀ b o e);have live:∀ b,aL FO.heap b->aL h' b:=fun b ⟨o,e⟩=>(Classical.em (b=a)).elim (fun q=>q▸hl) fun n=>⟨o,kp b o n e⟩;have nl:∀ b,b∈oak.flatten->¬ aL FO.heap b:=fun b e ⟨o,q⟩=>al (F9 b e).1 q;have mk:bK Φ.bad (Φ.put k oak sl).bad FO.heap h':=fun b o e n=>by
  refine ⟨fun q=>?_,kp b o (fun q=>n (.inr (q▸H0))) e⟩;rcases q with q | q
  ·exact n (.inl q)
  ·exact (put_own q).elim (fun q=>nl b q ⟨o,e⟩) fun q=>n (.inr q)
 have Ji:∀ j u,j≠k->ay FO.heap (Φ.fx.pl j) u->ay h' (Φ.fx.pl j) u:=fun j u e pr=>by
  by_cases ho:Φ.fx.pl j=.off
  ·rw [ho] at pr ⊢; exact pr
  ·exact ps.other (fun q=>e (I.ok.inj j k q ho)) (fun a' x c q=>q.elim (fun q=>I.ok.apart k j a' x c q.1 q.2) fun q=>I.ok.apart j k a' x c q.1 q.2) (pr.keep k₀)
 have ij:=r7 (k:=k) (sl:=sl) I fun b q=>.inr fun z=>nl b q (I.new b z).1;refine ⟨⟨I.ok,⟨fun b o e=>hs.extBut b o (fun q=>al (I.new a H0).2.1 (q▸e)) (B.stays b o e),B.os,B.gens⟩,fun j=>?_,fun b q=>?_,ij.1,ij.2,?_,fun b q=>live b (I.mo b q)⟩,
  ⟨rfl,fun b o e n=>kp b o (fun q=>n (q▸H0)) e,live,fun b l q=>(put_own q).elim (fun q=>absurd l (nl b q)) id,fun j=>?_⟩⟩
 ·by_cases e:j=k
  ·subst e;refine ⟨v,ps.self,?_⟩;have e2:getSlot (Φ.put j oak sl).G j=sl:=cr KI;rw [put_self,e2]; exact so
  ·obtain ⟨u,pr,sj⟩:=I.slot j;have e2:getSlot (Φ.put k oak sl).G j=getSlot Φ.G j:=dB e;rw [di e,e2];exact ⟨u,Ji j u e pr,sj.map mk fun b eb o e'=>kp b o (fun q=>I.off j b eb k (q▸ha)) e'⟩
 ·rcases put_own q with q | q
  ·exact ⟨(F9 b q).2,aK (fun l=>I.base.stays.live l) (F9 b q).1,fun z=>nl b q (I.mo b z)⟩
  ·obtain ⟨l,n⟩:=I.new b q;exact ⟨live b l,n⟩
 ·refine (?_:(Φ.G.set k sl).length=_);rw [List.length_set]; exact I.gl
 ·by_cases e:j=k
  ·subst e;have e2:getSlot (Φ.put j oak sl).G j=sl:=cr KI;refine ⟨fun a F U q=>absurd (e2▸q) MA,fun q=>absurd (e2.symm.trans q) ID,fun o' q n=>absurd (H1 ?_) n⟩;rw [e2.symm.trans q]; trivial
  ·exact .same (di e) (dB e) fun u r=>Ji j u e r
theorem Inv.upd (I:Inv Φ s) (IB:s'.os=s.os) (ME:s'.gens=s.gens) (pr:ay s.heap (Φ.fx.pl k) (some u)) (JY:∀ b o,b∉(Φ.oa k).flatten->s.heap.get? b=some o->s'.heap.get? b=some o) (hl:∀ b,aL s.heap b->aL s'.heap b) (F9:∀ a∈oak.flatten,a∈(Φ.oa k).flatten\/(s.heap.get? a=none/\aL s'.heap a))
  (so:bz Φ.fx.g (Φ.put k oak sl).bad s'.heap oak (some u) sl) (hi:isI sl->∀ a F,oak=[a] :: F->∃ GO,Φ.oa k=[a] :: GO/\isI (getSlot Φ.G k)) (ID:sl≠.unset) (H1:∀ o',sl=.obj o'->∃ o,getSlot Φ.G k=.obj o/\oak=Φ.oa k) :
  Inv (Φ.put k oak sl) s'/\Tr Φ s (Φ.put k oak sl) s':=by
 have KI:k < Φ.G.length:=AU I (zc pr);have HU:∀ b,(Φ.put k oak sl).own b->Φ.own b\/(s.heap.get? b=none/\aL s'.heap b):=fun b q=>(put_own q).elim (fun q=>(F9 b q).imp (fun q=>.inr ⟨k,q⟩) id) .inl;have mk:bK Φ.bad (Φ.put k oak sl).bad s.heap s'.heap:=fun b o e n=>by
  refine ⟨fun q=>?_,JY b o (fun q=>n (.inr (.inr ⟨k,q⟩))) e⟩;rcases q with q | q
  ·exact n (.inl q)
  ·exact (HU b q).elim (fun q=>n (.inr q)) fun q=>al q.1 e
 have Ji:∀ j u,ay s.heap (Φ.fx.pl j) u->ay s'.heap (Φ.fx.pl j) u:=fun j u r=>by
  have na:∀ c,(Φ.fx.pl j).addr=some c->c∉(Φ.oa k).flatten:=fun c e q=>I.off k c q j e;generalize Φ.fx.pl j=p at r na;cases p with
  | ns c x=>obtain ⟨m,hn,hu⟩:=r; exact ⟨m,hn.at' fun o e=>JY c o (na c rfl) e,hu⟩
  | cell c=>obtain ⟨o,ho,hd⟩:=r; exact ⟨o,JY c o (na c rfl) ho,hd⟩
  | off=>exact r
 have ij:=r7 (sl:=sl) I fun b q=>(F9 b q).imp id fun q z=>(I.new b z).1.elim fun o e=>al q.1 e;refine ⟨⟨I.ok,⟨fun b o e=>JY b o (fun q=>al (I.new b (.inr ⟨k,q⟩)).2.1 e) (I.base.stays b o e),IB.trans I.base.os,ME.trans I.base.gens⟩,fun j=>?_,fun b q=>?_,ij.1,ij.2,?_,fun b q=>hl b (I.mo b q)⟩,
  ⟨rfl,fun b o e n=>JY b o (fun q=>n (.inr ⟨k,q⟩)) e,hl,fun b l q=>(HU b q).elim id fun q=>l.elim fun o e=>(al q.1 e).elim,fun j=>?_⟩⟩
 ·by_cases e:j=k
  ·subst e;have e2:getSlot (Φ.put j oak sl).G j=sl:=cr KI;rw [put_self,e2]; exact ⟨some u,Ji j _ pr,so⟩
  ·obtain ⟨w,r,sj⟩:=I.slot j;have e2:getSlot (Φ.put k oak sl).G j=getSlot Φ.G j:=dB e;rw [di e,e2];exact ⟨w,Ji j w r,sj.map mk fun b eb o e'=>JY b o (fun q=>e (I.inj j k b eb q)) e'⟩
 ·rcases HU b q with q | q
  ·obtain ⟨l,n⟩:=I.new b q;exact ⟨hl b l,n⟩
  ·exact ⟨q.2,aK (fun l=>I.base.stays.live l) q.1,fun z=>(I.mo b z).elim fun o e=>al q.1 e⟩
 ·refine (?_:(Φ.G.set k sl).length=_);rw [List.length_set]; exact I.gl
 ·by_cases e:j=k
  ·subst e;have e2:getSlot (Φ.put j oak sl).G j=sl:=cr KI;refine ⟨fun a F q i=>hi (e2▸i) a F (put_self.symm.trans q),fun q=>absurd (e2.symm.trans q) ID,fun o' q n=>?_⟩;obtain ⟨o,h1,h2⟩:=H1 o' (e2.symm.trans q);exact ⟨o,h1,by rw [put_self]; exact h2,fun u r=>Ji j _ r⟩
  ·exact .same (di e) (dB e) fun u r=>Ji j u r
end
noncomputable abbrev Ct.wi (Φ:Ct) (oa:Nat->List (List Addr)) (G:Gs):Ct:=⟨Φ.fx,oa,G⟩
section
variable {Φ:Ct} {s s' s₁:Shared} {v:Value} {x:V}
def lT (I:Inv Φ s) (ps:hY s.heap (Φ.fx.pl k) (some v) h') (r:Φ.rp s.heap v x):Inv (Φ.put k [] (.v x)) { s with heap:=h',toks:=tk }/\Tr Φ s (Φ.put k [] (.v x)) { s with heap:=h',toks:=tk }:=by
 refine aV fun Z1 Mj=>?_;obtain ⟨a,ha,hs,_⟩:=ps.addr;refine Mj ?_;refine Inv.put (oak:=[]) (sl:=.v x) I I.base (.refl _) ps ⟨rfl,v,rfl,r.map fun b o e n=>⟨fun q=>?_,hs.extBut b o (fun q=>n (.inr (.inl ⟨k,q▸ha⟩))) e⟩⟩ (fun a q=>nM q) id nofun fun q=>q.elim;exact n (q.imp id fun (q:(Φ.put k [] (.v x)).own b)=>(put_own q).elim (fun z=>nM z) id)
structure TgtOk (ρ:List (Str×Nat)) (env:Env) (n:Str) (k:Nat):Prop where
 lk:ρ.lookup n=some k
 nf:env.kindOf n≠some .free
def AJ (hT:TgtOk Φ.fx.ρ Φ.fx.env n k) (I:Inv Φ s) (r:Φ.rp s.heap v x) :
  Φ.wp (assign (.Name n py) Φ.fx.env v) (fun U s'=>Inv (Φ.put k [] (.v x)) s'/\Tr Φ s (Φ.put k [] (.v x)) s'/\∀ b o,s.heap.get? b=some o->(Φ.fx.pl k).addr≠some b->s'.heap.get? b=some o) s:=fun E=>by
 rw [arm_assign_Name];refine (bSt (wpAny_bindName (fU I hT.lk hT.nf (fun h' tk ps=>?_) E)));refine aV fun Z2 Mg=>?_;obtain ⟨a,ha,hs,_⟩:=ps.addr;refine Mg ?_;have q:=lT (tk:=tk) I ps r;exact ⟨q.1,q.2,fun b o e n=>hs.extBut b o (fun q=>n (q▸ha)) e⟩
noncomputable def wX (ks:List Nat) (xs:List V) (G:Gs):Gs:=(ks.zip xs).foldl (fun G p=>G.set p.1 (.v p.2)) G
inductive TgtsOk (ρ:List (Str×Nat)) (env:Env):List Expr->List Nat->Prop
 | nil:TgtsOk ρ env [] []
 | cons {n:Str} {p:Pos} {k:Nat} {es:List Expr} {ks:List Nat}:TgtOk ρ env n k->TgtsOk ρ env es ks->TgtsOk ρ env (.Name n p :: es) (k :: ks)
noncomputable def offs (ks:List Nat) (oa:Nat->List (List Addr)):Nat->List (List Addr):=ks.foldl (fun oa k j=>if j=k then [] else oa j) oa
def mU (fx:Fx) (oa:Nat->List (List Addr)) (G:Gs) (s:Shared) (ks:List Nat) (G':Gs) (s':Shared):Prop:=
 Inv ⟨fx,offs ks oa,G'⟩ s'/\Tr ⟨fx,oa,G⟩ s ⟨fx,offs ks oa,G'⟩ s'/\∀ b o,s.heap.get? b=some o->(∀ k∈ks,(fx.pl k).addr≠some b)->s'.heap.get? b=some o
def Fr (hT:TgtsOk fx.ρ fx.env es ks):∀ {oa:Nat->List (List Addr)} {G:Gs} {vs:List Value} {xs:List V} {s:Shared},xs.length=ks.length->Inv ⟨fx,oa,G⟩ s->(Ct.mk fx oa G).rps s.heap vs xs ->
  (Ct.mk fx oa G).wp (assignInOrder ((assignEach es fx.env).map (·.2)) vs) (fun U s'=>mU fx oa G s ks (wX ks xs G) s') s:=by
 induction hT with
 | nil=>
  intro oa G vs xs s hl I r E;obtain rfl:=length_eq_zero_iff.mp hl;cases r
  exact zC2 ⟨I,.refl _ _,fun U U e U=>e⟩
 | @cons n p k es ks h1 _ ih=>
  intro oa G vs xs s hl I r E;cases r with
  | nil=>(injection hl; done)
  | @cons v vs x xs r rs=>
   refine (?_:wpAny _ _ (holding vs (assign (.Name n p) fx.env v) >>= fun U=>assignInOrder ((assignEach es fx.env).map (·.2)) vs) _ _ _);refine zC1 (NN (LT (AJ (Φ:=⟨fx,oa,G⟩) h1 I r E) (fun U s₁ q=>?_) fun U U z=>z));refine LT (ih (Nat.succ.inj hl) q.1 (rs.map q.2.1.mapK) E) (fun U FN z=>?_) fun U U z=>z;exact ⟨z.1,q.2.1.trans z.2.1,fun b o e n=>z.2.2 b o (q.2.2 b o e (n k (.head _))) fun j m=>n j (.tail _ m)⟩
def pX (hT:TgtsOk ρ e0 es ks):(assignEach es env).length=ks.length/\(assignEach es env).findIdx? (·.1)=none:=by
 induction hT with
 | nil=>exact ⟨rfl,rfl⟩
 | @cons n p k es ks h1 _ ih=>
  have e:assignEach (.Name n p :: es) env=(false,assign (.Name n p) env) :: assignEach es env:=rfl;rw [e];exact ⟨NO (· + 1) ih.1,by rw [List.findIdx?_cons,ih.2]; rfl⟩
def fB (e:aJ ks G x=some G') {C:V->Gs->Prop} (k:∀ xs,xs.length=ks.length->C (.tuple xs) (wX ks xs G)):C x G':=by
 cases x with
 | tuple xs=>exact if_elim e fun h=>k xs h
 | _=>(injection e; done)
def AI (hT:TgtsOk Φ.fx.ρ Φ.fx.env es ks) (I:Inv Φ s) (e:aJ ks Φ.G x=some G') (r:Φ.rp s.heap v x) :
  Φ.wp (assign (.Tuple es kk p) Φ.fx.env v) (fun U s'=>mU Φ.fx Φ.oa Φ.G s ks G' s') s:=fun E=>
 fB (C:=fun x G'=>Φ.rp s.heap v x->wpAny _ _ (assign (.Tuple es kk p) Φ.fx.env v) (fun U s'=>mU Φ.fx Φ.oa Φ.G s ks G' s') E s) e (fun xs hl r=>r.tuple_elim fun a o vs n hb ha hc hd hr=>by
  obtain ⟨h1,h2⟩:=pX (env:=Φ.fx.env) hT;refine wpAny_assign_Tuple I.ok.hand ⟨_,ha,hc,_,hd⟩ (by exact h1.symm▸hl▸(aN hr).symm) h2 fun h' he=>?_;have gr:Grown s { s with heap:=h' }:=⟨fun b o e=>he b o (ne_of_lt (lt_size e)) e,rfl,rfl⟩;refine LT (Fr (oa:=Φ.oa) (G:=Φ.G) hT hl (I.keep (I.base.grown gr) gr.keeps) (hr.keep gr.keeps) E) (fun U FN z=>⟨z.1,(Tr.of_keeps gr.keeps).trans z.2.1,fun b o e n=>z.2.2 b o (gr.keeps b o e) n⟩) fun U U z=>z) r
def xU (Φ:Ct) (s:Shared) (h:Heap) (f:Flow) (fl:Option V):Prop:=match fl with
 | none=>f=.next
 | some x=>∃ v,f=.ret v/\Φ.rp h v x/\(Φ.fx.nw=true->lB s.heap v)
theorem xU.lift (x:xU Φ s₁ h f fl) (k:∀ b,aL s.heap b->aL s₁.heap b):xU Φ s h f fl:=by
 cases fl with
 | none=>exact x
 | some y=>obtain ⟨v,e,r,n⟩:=x; exact ⟨v,e,r,fun q=>(n q).le k⟩
inductive PostS (Φ:Ct) (s:Shared) (K:GT) (f:Flow) (s':Shared):Prop
 | mk:∀ FX G' fl,Inv (Φ.wi FX G') s'->Tr Φ s (Φ.wi FX G') s'->xU (Φ.wi FX G') s s'.heap f fl->K fl G'->PostS Φ s K f s'
def ExB (fx:Fx) (t:Sem Flow) (X:B):Prop:=∀ oa G K s,X G K->Inv ⟨fx,oa,G⟩ s->∀ E,wpAny (model fx.g.prog fx.g.w) fx.A t (PostS ⟨fx,oa,G⟩ s K) E s
theorem PostS.lift {K:GT} {oa₁:Nat->List (List Addr)} (p:PostS (Φ.wi oa₁ G₁) s₁ K f s') (t:Tr Φ s (Φ.wi oa₁ G₁) s₁):PostS Φ s K f s':=by
 obtain ⟨FX,G',fl,I,t',h,h'⟩:=p;exact ⟨FX,G',fl,I,t.trans t',h.lift t.live,h'⟩
theorem PostS.next {K:GT} {FX:Nat->List (List Addr)} (I:Inv (Φ.wi FX G') s') (t:Tr Φ s (Φ.wi FX G') s') (k:K none G'):PostS Φ s K .next s':=⟨FX,G',none,I,t,rfl,k⟩
end
section
variable {fx:Fx} {s:Shared}
def C1:ExB fx (execs [] fx.env) (fun G K=>K none G):=fun oa G K s hd I E=>wpAny_execs_nil (.next I (.refl _ _) hd)
def ex_cons {st:Stmt} {r:List Stmt} {X Y:B} (h1:ExB fx (exec st fx.env) X) (h2:ExB fx (execs r fx.env) Y):ExB fx (execs (st :: r) fx.env) (fun G K=>X G fun fl G'=>match fl with | none=>Y G' K | some x=>K (some x) G'):=fun oa G K s hd I E=>by
 refine wpAny_execs_cons (LT (h1 oa G _ s hd I E) (fun f s₁ Ny=>?_) fun U U z=>z);obtain ⟨oa₁,G₁,fl,FM,Hc,hf,hk⟩:=Ny;cases fl with
 | none=>subst hf; exact LT (h2 oa₁ G₁ K s₁ hk FM E) (fun U U p=>p.lift Hc) fun U U z=>z
 | some x=>obtain ⟨v,rfl,r⟩:=hf; exact ⟨oa₁,G₁,some x,FM,Hc,⟨v,rfl,r⟩,hk⟩
def EG {d:Gs->DV} (hc:∀ oa G,EvT ⟨fx,oa,G⟩ (isTrue c fx.env (eval c fx.env)) (tst (d G))) (ha:ExB fx (execs a fx.env) X) (hb:ExB fx (execs b fx.env) Y) :
  ExB fx (exec (.If c a b pos) fx.env) (fun G K=>d G fun x=>okK (bY x some) fun t=>if t=true then X G K else Y G K):=fun oa G K s hd I E=>by
 refine wpAny_If (LT (hc oa G (fun t=>if t=true then X G K else Y G K) s hd I _) (fun t s₁ Ls=>?_) fun U U z=>z);obtain ⟨B,k,t',hk,e⟩:=Ls;subst e;cases t with
 | true=>exact LT (ha oa G K s₁ hk (I.keep B k) E) (fun U U p=>p.lift (.of_keeps k)) fun U U z=>z
 | false=>exact LT (hb oa G K s₁ hk (I.keep B k) E) (fun U U p=>p.lift (.of_keeps k)) fun U U z=>z
def C0 {d:Gs->DV} (hnw:fx.nw=false) (h:∀ oa G,Ev ⟨fx,oa,G⟩ (eval e fx.env) (d G)):ExB fx (exec (.Return (some e) pos) fx.env) (fun G K=>d G fun x=>K (some x) G):=fun oa G K s hd I E=>by
 rw [exec_Return_some];exact (bSt (zC1 (LT (h oa G _ s hd I _) ((by rintro v s₁ ⟨B,k,x,hx,r⟩; exact zC2 ⟨oa,G,some x,I.keep B k,.of_keeps k,⟨v,rfl,r,fun q=>nomatch hnw.symm.trans q⟩,hx⟩)) fun U U z=>z)))
def Ad {d:Gs->DV} (h:∀ oa G,EvN ⟨fx,oa,G⟩ (eval e fx.env) (d G)):ExB fx (exec (.Return (some e) pos) fx.env) (fun G K=>d G fun x=>K (some x) G):=fun oa G K s hd I E=>by
 rw [exec_Return_some];exact (bSt (zC1 (LT (h oa G _ s hd I _) ((by rintro v s₁ ⟨⟨B,k,x,hx,r⟩,n⟩; exact zC2 ⟨oa,G,some x,I.keep B k,.of_keeps k,⟨v,rfl,r,fun U=>n⟩,hx⟩)) fun U U z=>z)))
def bg (h:b8 value=true):swapsWith value t n env=pure false:=by
 cases value <;> first | rfl | exact nB h
def li {d:Gs->DV} (hs:swapsWith value (some (.Name n py)) spos.line fx.env=pure false) (hT:TgtOk fx.ρ fx.env n k) (h:∀ oa G,Ev ⟨fx,oa,G⟩ (eval value fx.env) (d G)) :
  ExB fx (exec (.Assign [.Name n py] value spos) fx.env) (fun G K=>d G fun x=>K none (G.set k (.v x))):=fun oa G K s hd I E=>by
 refine (exec_Assign_Name _ _ _ _ _ hs).symm▸?_;refine (bSt (zC1 (LT (h oa G _ s hd I _) (fun v s₁ Lq=>?_) fun U U z=>z)));obtain ⟨B,FQ,x,hx,r⟩:=Lq;have FM:=I.keep B FQ;refine (bSt (zC1 (wpAny_bindName (fU FM hT.lk hT.nf (fun h' tk ps=>zC2 ?_) _))));have q:=lT (tk:=tk) FM ps r;exact .next q.1 ((Tr.of_keeps FQ).trans q.2) hx
def wm {t:Sem Flow}:ExB fx t (fun U U=>False):=fun oa G K s hd=>hd.elim
end
noncomputable abbrev Fx.mo (fx:Fx) (X:Addr->Prop):Fx:={ fx with Mo:=fun b=>fx.Mo b\/X b }
noncomputable abbrev Ct.mo (Φ:Ct) (X:Addr->Prop):Ct:=⟨Φ.fx.mo X,Φ.oa,Φ.G⟩
section
variable {Φ:Ct} {s s' FO FN:Shared} {h':Heap} {X:Addr->Prop}
theorem FxOk.any (ok:FxOk fx) (h:∀ a,M a->fx.g.h0.get? a=none):FxOk { fx with Mo:=M }:=⟨ok.gr,ok.hand,ok.kind,ok.globals,ok.builtins,ok.vis,ok.inj,ok.apart,ok.offs,ok.nfs,ok.room,ok.units,ok.call,h⟩
def sE (hX:∀ b,X b->FO.heap.get? b=none) (k:ao FO.heap FN.heap):bK Φ.bad (Φ.mo X).bad FO.heap FN.heap:=fun b o e n=>
 ⟨fun q=>q.elim (fun q=>q.elim (fun q=>n (.inl q)) fun q=>al (hX b q) e) fun q=>n (.inr q),k b o e⟩
theorem Inv.more (I:Inv Φ FO) (B:Base Φ.fx.g FN) (k:ao FO.heap FN.heap) (hX:∀ b,X b->FO.heap.get? b=none) (hl:∀ b,X b->aL FN.heap b):Inv (Φ.mo X) FN where
 ok:=I.ok.any fun a q=>q.elim (I.ok.mo0 a) fun q=>aK (fun l=>I.base.stays.live l) (hX a q)
 base:=B
 slot:=fun j=>by obtain ⟨v,r,x⟩:=I.slot j; exact ⟨v,r.keep k,x.map (sE hX k) fun a U o e=>k a o e⟩
 new:=fun a q=>by obtain ⟨x,y,z⟩:=I.new a q; exact ⟨k.live x,y,fun w=>w.elim z fun w=>x.elim fun o e=>al (hX a w) e⟩
 inj:=I.inj
 off:=I.off
 gl:=I.gl
 mo:=fun a q=>q.elim (fun q=>k.live (I.mo a q)) (hl a)
def kQ:bK (Φ.mo X).bad Φ.bad h h:=fun b o e n=>⟨fun q=>n (q.imp .inl id),e⟩
theorem Inv.less (I:Inv (Φ.mo X) s):Inv Φ s where
 ok:=I.ok.any (M:=Φ.fx.Mo) fun a q=>I.ok.mo0 a (.inl q)
 base:=I.base
 slot:=fun j=>by obtain ⟨v,r,x⟩:=I.slot j; exact ⟨v,r,x.map kQ fun a U o e=>e⟩
 new:=fun a q=>by obtain ⟨x,y,z⟩:=I.new a q; exact ⟨x,y,fun w=>z (.inl w)⟩
 inj:=I.inj
 off:=I.off
 gl:=I.gl
 mo:=fun a q=>I.mo a (.inl q)
theorem Inv.others {wr:List Addr} {tk:Nat} {Mo₂:Addr->Prop} (I:Inv Φ s) (k:∀ b o,b∉wr->s.heap.get? b=some o->h'.get? b=some o) (hw:∀ b∈wr,Φ.fx.Mo b) (h0:∀ b∈wr,Φ.fx.g.h0.get? b=none) (hs:∀ a,Mo₂ a->Φ.fx.Mo a) (hl:∀ a,Mo₂ a->aL h' a):Inv ⟨{ Φ.fx with Mo:=Mo₂ },Φ.oa,Φ.G⟩ { s with heap:=h',toks:=tk }:=by
 have Jk:∀ b,Φ.own b->b∉wr:=fun b q m=>(I.new b q).2.2 (hw b m);have mk:bK Φ.bad (Ct.mk { Φ.fx with Mo:=Mo₂ } Φ.oa Φ.G).bad s.heap h':=fun b o e n=>⟨fun q=>n (q.imp (hs b) id),k b o (fun m=>n (.inl (hw b m))) e⟩;refine ⟨I.ok.any fun a q=>I.ok.mo0 a (hs a q),⟨fun b o e=>k b o (fun m=>al (h0 b m) e) (I.base.stays b o e),I.base.os,I.base.gens⟩,fun j=>?_,fun a q=>?_,I.inj,I.off,I.gl,hl⟩
 ·obtain ⟨u,r,so⟩:=I.slot j;refine ⟨u,?_,so.map mk fun a ea o e=>k a o (Jk a (.inr ⟨j,ea⟩)) e⟩;refine (?_:ay h' (Φ.fx.pl j) u);have na:∀ a,(Φ.fx.pl j).addr=some a->a∉wr:=fun a e=>Jk a (.inl ⟨j,e⟩);generalize Φ.fx.pl j=p at r na;cases p with
  | ns a x=>obtain ⟨m,hn,hu⟩:=r; exact ⟨m,hn.at' fun o e=>k a o (na a rfl) e,hu⟩
  | cell c=>obtain ⟨o,ho,hd⟩:=r; exact ⟨o,k c o (na c rfl) ho,hd⟩
  | off=>exact r
 ·refine aV fun Z4 Kp=>?_;refine (I.new a q).elim fun Ia JI=>Ia.elim fun o e=>JI.elim fun y z=>?_;refine Kp ?_;exact ⟨⟨o,k a o (Jk a q) e⟩,y,fun w=>z (hs a w)⟩
theorem Tr.mo (e:Φ'.fx=Φ.fx) (t:Tr (Φ.mo X) s (Φ'.mo X) s'):Tr Φ s Φ' s':=⟨e,t.keep,t.live,t.grow,fun k=>⟨(t.sl k).inst,(t.sl k).set,(t.sl k).objs⟩⟩
theorem Tr.others {wr:List Addr} {tk:Nat} (FY:Inv Φ FO) (t:Tr Φ FO Φ' s) (k:∀ b o,b∉wr->s.heap.get? b=some o->h'.get? b=some o) (hw:∀ b∈wr,FO.heap.get? b=none):Tr Φ FO Φ' { s with heap:=h',toks:=tk } where
 fx:=t.fx
 keep:=fun b o e n=>k b o (fun m=>al (hw b m) e) (t.keep b o e n)
 live:=fun b l=>(t.live b l).elim fun o' e'=>⟨o',k b o' (fun m=>l.elim fun o e=>al (hw b m) e) e'⟩
 grow:=t.grow
 sl:=fun j=>⟨(t.sl j).inst,(t.sl j).set,fun o' q n=>by
  obtain ⟨o,h1,h2,h3⟩:=(t.sl j).objs o' q n;refine ⟨o,h1,h2,fun u r=>?_⟩;have r:=h3 u r;have na:∀ a,(Φ.fx.pl j).addr=some a->a∉wr:=fun a e m=>(FY.new a (.inl ⟨j,e⟩)).1.elim fun o e=>al (hw a m) e;refine (?_:ay h' (Φ.fx.pl j) _);generalize Φ.fx.pl j=p at r na;cases p with
  | ns a x=>obtain ⟨m,hn,hu⟩:=r; exact ⟨m,hn.at' fun o e=>k a o (na a rfl) e,hu⟩
  | cell c=>obtain ⟨o,ho,hd⟩:=r; exact ⟨o,k c o (na c rfl) ho,hd⟩
  | off=>exact r⟩
def gT (h:bw e=true) (x:Value):foldedSetIterable e env x=pure x:=by
 cases e <;> first | rfl | exact nB h
def rE (fx:Fx) (T:Expr) (b:Gs->V->Option Gs):Prop:=∀ X oa G v x G' s,Inv ⟨fx.mo X,oa,G⟩ s->b G x=some G'->(Ct.mk (fx.mo X) oa G).rp s.heap v x->(Ct.mk (fx.mo X) oa G).wp (assign T fx.env v) (fun U s'=>∃ FX,Inv ⟨fx.mo X,FX,G'⟩ s'/\Tr ⟨fx.mo X,oa,G⟩ s ⟨fx.mo X,FX,G'⟩ s') s
end
theorem Feed.turn {St:Nat->Heap->Prop} (F:Feed g A T I fp wr vals l0 l St) {bad:Addr->Prop} {N:Shared->Prop} {Q:GE} {E:GE}
  (hx:l[i]?=some x) (st:St i s.heap) (rv:RpAll g bad s.heap vals l0) (hb:∀ a,bad a->aL s.heap a) (hw:∀ b∈wr,bad b)
  (hQ:∀ v h' tk,St (i+1) h'->(∀ b o,b∉wr->s.heap.get? b=some o->h'.get? b=some o)->Rp g bad h' v x->Q v { s with heap:=h',toks:=tk }) :
  wpAny (model g.prog g.w) A (pyNext (.ref I)) (fun r s₁=>match r with | none=>N s₁ | some v=>wpAny (model g.prog g.w) A (letOwnedTupleGo T (.ref I) v) (fun U FN=>Q v FN) E s₁) E s:=
 LT (F.item i x s bad Q E hx st rv hb hw hQ) (fun r s₁ Ih=>Ih.elim fun v Ib=>Ib.elim fun e z=>by subst e; exact z) fun U U z=>z
theorem Feed.over {St:Nat->Heap->Prop} (F:Feed g A T I fp wr vals l0 l St) {N:Shared->Prop} {Q:GE} {E:GE}
  (st:St l.length s.heap) (hN:∀ h' tk,(∀ b o,b∉wr->s.heap.get? b=some o->h'.get? b=some o)->N { s with heap:=h',toks:=tk }) :
  wpAny (model g.prog g.w) A (pyNext (.ref I)) (fun r s₁=>match r with | none=>N s₁ | some v=>wpAny (model g.prog g.w) A (letOwnedTupleGo T (.ref I) v) (fun U FN=>Q v FN) E s₁) E s:=
 LT (F.done s N E st hN) (fun r s₁ JK=>JK.elim fun e z=>by subst e; exact z) fun U U z=>z
inductive FLI (fx:Fx) (X:Addr->Prop) (oa:Nat->List (List Addr)) (G:Gs) (FO:Shared) (Sp:Nat->Heap->Prop) (vals:List Value) (l0 l:List V) (b:Gs->V->Option Gs) (A:B) (K:GT) (n:Nat) (s':Shared):Prop
 | mk (i:Nat) (FX:Nat->List (List Addr)) (G':Gs) (en:n=l.length - i) (hi:i<=l.length) (st:Sp i s'.heap) (I':Inv ⟨fx.mo X,FX,G'⟩ s') (t':Tr ⟨fx,oa,G⟩ FO ⟨fx,FX,G'⟩ s') (rv:(Ct.mk (fx.mo X) FX G').rps s'.heap vals l0) (ef:jc b A (l.drop i) G' K):FLI fx X oa G FO Sp vals l0 l b A K n s'
def xF {body:List Stmt} {d:Gs->(List V->Prop)->Prop} {b:Gs->V->Option Gs} (HC:bw iter=true) (hT:rE fx T b) (Hh:∀ oa G,eI ⟨fx,oa,G⟩ T true iter (d G)) (hb:∀ X,ExB (fx.mo X) (execs body fx.env) A) :
  ExB fx (exec (.For T iter body [] pos) fx.env) (fun G K=>d G fun xs=>jc b A xs G K):=fun oa G K s hd I E=>by
 refine wpAny_For (Hh oa G _ s hd I _ _ fun l FO it FN kl FY k₀ gr fa=>?_) (gT HC);obtain ⟨J,fp,wr,vals,l0,Sp,rfl,F,st0,rv,Ik,hfp,hsz⟩:=fa;have start:Tr ⟨fx,oa,G⟩ s ⟨fx,oa,G⟩ FO:=.of_keeps k₀;have Ka:∀ b∈wr,fx.g.h0.get? b=none:=fun b m=>aK (fun l=>FY.base.stays.live l) (Ik b m)
 let X:Addr->Prop:=fun b=>b∈fp/\FO.heap.get? b=none
 have Io:∀ b∈wr,(fx.mo X).Mo b:=fun b m=>.inr ⟨F.sub b m,Ik b m⟩;have HW:∀ {FX:Nat->List (List Addr)} {G':Gs} {s':Shared},Inv ⟨fx.mo X,FX,G'⟩ s'->Tr ⟨fx,oa,G⟩ FO ⟨fx,FX,G'⟩ s'->∀ b∈fp,¬ (Ct.mk fx FX G').own b:=fun I' t' b hb q=>by
  cases e:FO.heap.get? b with
  | none=>exact (I'.new b q).2.2 (.inr ⟨hb,e⟩)
  | some o=>exact ((hfp b hb).resolve_left fun z=>al z e) rfl (.inr (t'.grow b ⟨o,e⟩ q))
 refine codeAny_forLoop_any (FLI fx X oa G FO Sp vals l0 l b A K) (fun n s' hLI=>?_) l.length ⟨0,oa,G,rfl,zero_le _,st0,FY.more (FY.base.grown gr) gr.keeps (fun b q=>q.2) fun b q=>F.live 0 _ b st0 q.1,.of_keeps gr.keeps,rv.map (sE (fun b q=>q.2) gr.keeps),kl⟩;refine aV fun Z kZ=>?_;obtain ⟨i,FX,G',rfl,hi,st,I',t',Kh,ef⟩:=hLI;cases hx:l[i]? with
 | none=>
  have HI:i=l.length:=le_antisymm hi (List.getElem?_eq_none_iff.mp hx);subst HI;rw [List.drop_length] at ef;refine kZ (F.over st fun h' tk hk=>wpAny_execs_nil ?_);have I3:Inv ⟨fx,FX,G'⟩ { s' with heap:=h',toks:=tk }:=Inv.others (Φ:=⟨fx.mo X,FX,G'⟩) (Mo₂:=fx.Mo) I' hk Io Ka (fun a q=>.inl q) fun a q=>(I'.mo a (.inl q)).elim fun o e=>⟨o,hk a o (fun m=>(FY.mo a q).elim fun o e=>al (Ik a m) e) e⟩;exact .next I3 (start.trans (Tr.others FY t' hk Ik)) ef
 | some x=>
  have HI:=(List.getElem?_eq_some_iff.mp hx).1;have ed:l.drop i=x :: l.drop (i+1):=by rw [List.drop_eq_getElem_cons HI]; congr 1; exact (List.getElem?_eq_some_iff.mp hx).2
  replace ef:=ed▸ef;refine kZ (F.turn hx st Kh (fun a q=>I'.badLive q) (fun b m=>.inl (Io b m)) fun v h' tk C' hk rx=>?_);clear kZ;refine aV fun Z kZ=>?_;refine ae ef fun G₁ IK ef=>?_;have I3:Inv ⟨fx.mo X,FX,G'⟩ { s' with heap:=h',toks:=tk }:=Inv.others (Φ:=⟨fx.mo X,FX,G'⟩) (Mo₂:=(fx.mo X).Mo) I' hk Io Ka (fun a q=>q) fun a q=>by
   by_cases nw:a∈wr
   ·exact F.live _ _ a C' (F.sub a nw)
   ·obtain ⟨o,e⟩:=I'.mo a q;exact ⟨o,hk a o nw e⟩
  have t3:Tr ⟨fx,oa,G⟩ FO ⟨fx,FX,G'⟩ { s' with heap:=h',toks:=tk }:=Tr.others FY t' hk Ik;have rv3:(Ct.mk (fx.mo X) FX G').rps h' vals l0:=Kh.map fun b o e n=>⟨n,hk b o (fun m=>n (.inl (Io b m))) e⟩;refine kZ (LT (hT X FX G' v x G₁ _ I3 IK rx _) (fun U Gh IM=>IM.elim fun Hw H'=>H'.elim fun I4 t4=>?_) fun U U z=>z);have L0:Tr ⟨fx,oa,G⟩ FO ⟨fx,Hw,G₁⟩ Gh:=t3.trans (t4.mo (Φ:=⟨fx,FX,G'⟩) (Φ':=⟨fx,Hw,G₁⟩) rfl);have Ke:Sp (i+1) Gh.heap:=F.frame _ _ _ C' fun b hb o e=>t4.keep b o e (HW I3 t3 b hb);refine LT (hb X Hw G₁ _ Gh ef I4 _) (fun f Gr Ln=>?_) fun U U z=>z;obtain ⟨GQ,HM,fl,I5,t5,hf,ek⟩:=Ln;have t05:Tr ⟨fx,oa,G⟩ FO ⟨fx,GQ,HM⟩ Gr:=L0.trans (t5.mo (Φ:=⟨fx,Hw,G₁⟩) (Φ':=⟨fx,GQ,HM⟩) rfl);cases fl with
  | none=>
   subst hf;exact ⟨l.length - (i+1),Nat.sub_succ_lt_self _ _ HI,i+1,GQ,HM,rfl,HI,F.frame _ _ _ Ke fun b hb o e=>t5.keep b o e (HW I4 L0 b hb),I5,t05,(rv3.map t4.mapK).map t5.mapK,ek⟩
  | some y=>
   obtain ⟨w,rfl,rw,nv⟩:=hf;exact ⟨GQ,HM,some y,Inv.less (Φ:=⟨fx,GQ,HM⟩) I5,start.trans t05,⟨w,rfl,rw.map (kQ (Φ:=⟨fx,GQ,HM⟩)),fun q=>(nv q).le fun b l=>L0.live b (k₀.live l)⟩,ek⟩
section
variable {fx:Fx}
def vf (hT:TgtOk fx.ρ fx.env n k):rE fx (.Name n py) (jZ k):=fun X oa G v x G' s I e r E=>by
 (injection e with e; subst e);exact LT (AJ (Φ:=⟨fx.mo X,oa,G⟩) hT I r E) (fun U s' q=>⟨_,q.1,q.2.1⟩) fun U U z=>z
def ve (hT:TgtsOk fx.ρ fx.env es ks):rE fx (.Tuple es kk p) (aJ ks):=fun X oa G v x G' s I e r E=>LT (AI (Φ:=⟨fx.mo X,oa,G⟩) hT I e r E) (fun U s' q=>⟨_,q.1,q.2.1⟩) fun U U z=>z
def lU (hT:TgtOk fx.ρ fx.env n k) (I:Inv ⟨fx,oa,G⟩ FO) (B:Base fx.g s) (k₀:ao FO.heap s.heap) (F9:∀ a∈oak.flatten,FO.heap.get? a=none/\aL s.heap a) (ID:sl≠.unset) (MA:¬ isI sl)
  (H1:Bj sl->getSlot G k=.unset)
  (ow:∀ h',(∀ b o,s.heap.get? b=some o->¬ (Ct.mk fx oa G).own b->h'.get? b=some o)->bz fx.g ((Ct.mk fx oa G).put k oak sl).bad h' oak (some u) sl)
  (h:∀ s',Inv ((Ct.mk fx oa G).put k oak sl) s'->Tr ⟨fx,oa,G⟩ FO ((Ct.mk fx oa G).put k oak sl) s'->Q () s'):(Ct.mk fx oa G).wp (storeName fx.env n u) Q s:=fun E=>by
 refine fU (Φ:=⟨fx,oa,G⟩) (I.keep B k₀) hT.lk hT.nf (fun h' tk ps=>?_) E;refine ps.addr.elim fun c Na=>Na.elim fun hc M'=>M'.elim fun hs U=>?_;have kp:∀ b o,s.heap.get? b=some o->¬ (Ct.mk fx oa G).own b->h'.get? b=some o:=fun b o e nb=>hs.extBut b o (fun q=>nb (.inl ⟨k,q▸hc⟩)) e;have q:=Inv.put (tk:=tk) I B k₀ ps (ow h' kp) (fun a m=>⟨(F9 a m).1,(F9 a m).2.elim fun o e=>⟨o,kp a o e fun q=>(I.new a q).1.elim fun o e=>al (F9 a m).1 e⟩⟩) MA ID H1;exact h _ q.1 q.2
def vO {s s₁:Shared} {a:Addr} (ha:s.heap.get? a=none) (kp:∀ b o,s.heap.get? b=some o->¬ (Ct.mk fx oa G).own b->h'.get? b=some o):bK (Ct.mk fx oa G).bad ((Ct.mk fx oa G).put k [[a]] sl).bad s.heap h':=fun b o e n=>⟨fun q=>by
 rcases q with q | q
 ·exact n (.inl q)
 ·exact (put_own q).elim (fun q=>by obtain rfl:=zA6 q; exact al ha e) fun q=>n (.inr q),kp b o e fun q=>n (.inr q)⟩
def Ae {qs:Gs->List (Expr×DV)} (hT:TgtOk fx.ρ fx.env n k) (he:∀ G,(qs G).map Prod.fst=es) (hq:∀ oa G,∀ q∈qs G,aq q.1=true/\bu ⟨fx,oa,G⟩ q) :
  ExB fx (exec (.Assign [.Name n py] (.List es pos) spos) fx.env) (fun G K=>br ((qs G).map Prod.snd) fun xs=>xs.length<=af/\K none (G.set k (.ownL xs))):=fun oa G K s hd I E=>by
 rw [exec_Assign_Name _ _ _ _ _ (bg rfl),arm_eval_List,<- he G];simp only [bind_assoc];refine (bSt ((bSt (zC1 (LT (d5 (Φ:=⟨fx,oa,G⟩) (hq oa G) _ s hd I _) (fun vs s₁ Lk=>?_) fun U U z=>z)))));obtain ⟨B,FQ,xs,⟨hz,hx⟩,rs⟩:=Lk;have FM:=I.keep B FQ;refine zC1 (wpAny_newObj_type ?_ (by refine (?_:vs.toArray.size<=sizeLine); exact size_toArray.symm▸rs.length.symm▸bF hz));have gr:=Grown.push s₁ { cls:=.type "list",data:=.seq vs.toArray } s₁.toks;have hD:s₁.heap.get? s₁.heap.objs.size=none:=ak _;refine (bSt (zC1 (wpAny_bindName (lU (oak:=[[s₁.heap.objs.size]]) (sl:=.ownL xs) hT FM (B.grown gr) gr.keeps (fun a m=>by obtain rfl:=zA6 m; exact ⟨hD,_,Q2 _ rfl⟩) nofun id (fun q=>q.elim) (fun h' kp=>?_) (fun s' I' t'=>zC2 (.next I' ((Tr.of_keeps FQ).trans t') hx)) _))));have nb:¬ (Ct.mk fx oa G).own s₁.heap.objs.size:=fun q=>FM.fresh (.inr q);exact ⟨_,rfl,rfl,_,_,_,kp _ _ (Q2 _ rfl) nb,⟨rfl,rfl⟩,rfl,rs.map (vO (s₁:=s₁) hD fun b o e=>kp b o (am _ _ b o e))⟩
end
section
variable {prog:Program} {w:World} {A:Around} {R:Result->Shared->Prop} {s:Shared}
def lI (I:Nat->Shared->Prop)
  (turn:∀ n s,I n s->GM prog w A (pyNext it) (fun r s₁=>match r with
   | none=>R (.ok .next) s₁
   | some v=>GM prog w A (letOwnedTupleGo target it v) (fun U IQ=>GM prog w A (assign target env v) (fun U FN=>
     GM prog w A (forIn ifs true fun c r=>if r=true then do let ok <- isTrue c env (eval c env); pure (ForInStep.yield ok) else pure (ForInStep.yield r)) (fun ok Gi=>
      if ok=true then GM prog w A (eval Gb env) (fun x Gh=>
       GM prog w A (call (.builtin "list.append") [acc,x]) (fun U Gr=>∃ m,m < n/\I m Gr) (notedBy (model prog w) A env fun e s'=>R (.error e) s') Gh) (notedBy (model prog w) A env fun e s'=>R (.error e) s') Gi
      else ∃ m,m < n/\I m Gi) (notedBy (model prog w) A env fun e s'=>R (.error e) s') FN) (notedBy (model prog w) A env fun e s'=>R (.error e) s') IQ) (notedBy (model prog w) A env fun e s'=>R (.error e) s') s₁) (notedBy (model prog w) A env fun e s'=>R (.error e) s') s)
  (n:Nat) (h:I n s):codeAny (model prog w) A (.compLoop (.ListComp Gb [⟨target,iter,ifs,0⟩] scope pos) 0 it acc env) R s:=by
 refine codeAny_loop rfl I (fun n s hI=>?_) n h
 (refine (?_:wpAny _ A ((compTurn (.ListComp Gb [⟨target,iter,ifs,0⟩] scope pos) 0 it acc env).onRaise (fun x=>do noteFrame x env; theTreesLotGoes x)) _ _ s))
 refine wpAny_noted ?_;rw [compTurn_list];refine (bSt (zC1 (LT (turn n s hI) (fun r s₁ Gf=>?_) fun U U h'=>h')));cases r with
 | none=>exact wpAny_pure Gf
 | some v=>
  refine zC1 (LT Gf (fun U IQ Ks=>?_) fun U U h'=>h');refine zC1 (LT Ks (fun U FN Hn=>zC1 (LT Hn (fun ok Gi Gy=>?_) fun U U h'=>h')) fun U U h'=>h');cases ok with
  | false=>exact zC2 ⟨rfl,Gy⟩
  | true=>
   exact zC1 (zC1 (LT Gy (fun x Gh Jo=>zC1 (LT Jo (fun U Gr He=>zC2 (zC2 ⟨rfl,He⟩)) fun U U h'=>h')) fun U U h'=>h'))
end
noncomputable def dI (ifs:List Expr) (env:Env):Sem Bool:=forIn ifs true fun c r=>if r=true then do let ok <- isTrue c env (eval c env); pure (ForInStep.yield ok) else pure (ForInStep.yield r)
theorem gY (env:Env):∀ ifs:List Expr,(forIn ifs false fun c r=>if r=true then do let ok <- isTrue c env (eval c env); pure (ForInStep.yield ok) else pure (ForInStep.yield r):Sem Bool)=pure false
 | []=>rfl
 | c :: r=>by
  rw [forIn_cons];simp only [false_eq_true,if_false,pure_bind];exact gY env r
def cO (hk:env.scope.kind=.function):(relabel scope env).names=hM env.scope.names scope.names:=by
 unfold relabel hM;simp only [hk];apply map_congr_left
 rintro ⟨n,k⟩ _;have:(ScopeKind.function==ScopeKind.function)=true:=by decide
 simp only [this,Bool.and_true];rfl
theorem relab_lookup (sc:List (Str×NameKind)):∀ (names:List (Str×NameKind)) (x:Str),(hM sc names).lookup x=(names.lookup x).map fun k=>if k==.free&&sc.lookup x==some .cell then .cell else k
 | [],x=>rfl
 | (n,k) :: r,x=>by
  have ih:=relab_lookup sc r x;have e:hM sc ((n,k) :: r)=(n,if k==.free&&sc.lookup n==some .cell then .cell else k) :: hM sc r:=by
   unfold hM;rw [map_cons]
   congr 1
   show (if _ then (n,NameKind.cell) else (n,k))=_
   split <;> rfl
  rw [e,lookup_cons,lookup_cons];cases hx:x==n with
  | true=>have:=beq_iff_eq.mp hx; subst this; rfl
  | false=>exact ih
noncomputable def clOf (cells:List (Str×Addr)):List (Str×NameKind)->List (Str×Addr)->List (Str×Addr)
 | [],acc=>acc
 | (n,k) :: r,acc=>clOf cells r (if k==.free then (n,(cells.lookup n).getD 0) :: acc else acc)
def nJ (cells:List (Str×Addr)) (names:List (Str×NameKind)):Prop:=∀ n,(n,NameKind.free)∈names->∃ c,cells.lookup n=some c
def jm (h:nJ env.cells scope.names):closureFor scope env=pure (clOf env.cells scope.names []):=by
 unfold closureFor
 suffices ∀ (names:List (Str×NameKind)) (acc:List (Str×Addr)),nJ env.cells names->(do
   let r <- forIn names acc fun x r=>match x with
    | (name,kind)=>if (kind==NameKind.free)=true then do let c <- cellOf env name; pure (ForInStep.yield ((name,c) :: r)) else pure (ForInStep.yield r)
   pure r:Sem (List (Str×Addr)))=pure (clOf env.cells names acc) by
  simpa using this scope.names [] h
 intro names;induction names with
 | nil=>intro acc _; rfl
 | cons p r ih=>
  obtain ⟨n,k⟩:=p;intro acc hf;rw [forIn_cons];have hr:nJ env.cells r:=fun m q=>hf m (.tail _ q);by_cases hk:k=.free
  ·subst hk;obtain ⟨c,hc⟩:=hf n (.head _);have e1:cellOf env n=pure c:=by unfold cellOf; rw [hc]
   have:=ih ((n,c) :: acc) hr;simp only [NJ,if_true,e1,pure_bind,clOf,hc,getD_some] at this ⊢;exact this
  ·have hb:(k==NameKind.free)=false:=by simpa using hk
   have:=ih acc hr;simp only [hb,false_eq_true,if_false,pure_bind,clOf] at this ⊢;exact this
theorem gm (cells:List (Str×Addr)):∀ (names:List (Str×NameKind)) (acc:List (Str×Addr)) (x:Str) (c:Addr),cells.lookup x=some c->((x,NameKind.free)∈names\/acc.lookup x=some c)->(∀ d,acc.lookup x=some d->d=c)->(clOf cells names acc).lookup x=some c
 | [],acc,x,c,_,h,_=>by rcases h with h | h; cases h; exact h
 | (n,k) :: r,acc,x,c,hc,h,ha=>by
  unfold clOf;by_cases hk:k=.free
  ·subst hk;simp only [NJ,if_true];by_cases hx:x=n
   ·subst hx;refine gm cells r _ x c hc (.inr ?_) fun d hd=>?_
    ·simp [hc]
    ·simp only [lookup_cons,NJ,hc,getD_some,Option.some.injEq] at hd; exact hd.symm
   ·have hb:(x==n)=false:=by simpa using hx
    refine gm cells r _ x c hc ?_ fun d hd=>?_
    ·rcases h with h | h
     ·rcases mem_cons.mp h with q | q
      ·(injection q with q; subst q); exact absurd rfl hx
      ·exact .inl q
     ·exact .inr (by rw [lookup_cons,hb]; exact h)
    ·rw [lookup_cons,hb] at hd; exact ha d hd
  ·have hb:(k==NameKind.free)=false:=by simpa using hk
   simp only [hb,false_eq_true,if_false];refine gm cells r acc x c hc ?_ ha;rcases h with h | h
   ·rcases mem_cons.mp h with q | q
    ·cases q; exact absurd rfl hk
    ·exact .inl q
   ·exact .inr h
theorem iZ:∀ {l:List (Str×α)} {n:Str} {c:α},l.lookup n=some c->(n,c)∈l
 | (k,v) :: r,n,c,h=>by
  rw [lookup_cons] at h;cases hb:n==k with
  | true=>replace h:=hb▸h; (injection h with h; subst h); rw [beq_iff_eq.mp hb]; exact .head _
  | false=>rw [hb] at h; exact .tail _ (iZ h)
theorem cS {p:Str->Bool}:∀ {l:List (Str×Nat)} {x:Str} {k:Nat},(l.filter fun q=>p q.1).lookup x=some k->p x=true/\l.lookup x=some k
 | [],_,_,h=>by simp at h
 | (n,v) :: r,x,k,h=>by
  replace h:=List.filter_cons▸h;split at h
  ·rename_i hp;rw [lookup_cons] at h ⊢;cases hx:x==n with
   | true=>replace h:=hx▸h; (injection h with h; subst h); have:=beq_iff_eq.mp hx; subst this; exact ⟨hp,rfl⟩
   | false=>rw [hx] at h; exact cS h
  ·rename_i hp;obtain ⟨h1,h2⟩:=cS h;refine ⟨h1,?_⟩;rw [lookup_cons];cases hx:x==n with
   | true=>have:=beq_iff_eq.mp hx; subst this; exact absurd h1 (by exact hp)
   | false=>exact h2
theorem oC:∀ {qs:List (Expr×DV)},(∀ q∈qs,EvT Φ (isTrue q.1 Φ.fx.env (eval q.1 Φ.fx.env)) (tst q.2))->EvT Φ (dI (qs.map Prod.fst) Φ.fx.env) (pJ true (qs.map Prod.snd))
 | [],_=>fun K s hd I=>EvR.pure (a:=true) I hd rfl
 | q :: r,h=>fun K s hd I=>by
  have e:dI ((q :: r).map Prod.fst) Φ.fx.env=(isTrue q.1 Φ.fx.env (eval q.1 Φ.fx.env) >>= fun ok=>if ok then dI (r.map Prod.fst) Φ.fx.env else pure false):=by
   unfold dI;rw [map_cons,forIn_cons];simp only [if_true,bind_assoc,pure_bind]
   congr 1
   funext ok
   cases ok
   ·exact gY _ _
   ·rfl
  rw [e];refine (h q (.head _)).bind (K₁:=fun c=>if c=true then pJ true (r.map Prod.snd) K else K c) hd I fun t c s₁ FM FQ hk e=>?_;subst e;cases t
  ·exact EvR.pure FM hk rfl
  ·exact oC (fun x m=>h x (.tail _ m)) K s₁ hk FM
noncomputable def cpl (fx:Fx) (C:Addr) (x x':Str) (k:Nat):Pl:=if k=fx.nf then .ns C x else if k=fx.nf+1 then (if x'=x then .off else .ns C x') else fx.pl k
def az (fx:Fx) (scope:Scope) (C:Addr) (x x':Str) (X:Addr->Prop):Fx:=
 { fx with env:=compEnvC scope (clOf fx.env.cells scope.names []) C fx.env,ρ:=(x,fx.nf) :: (x',fx.nf+1) :: fx.ρ.filter (fun p=>scope.names.lookup p.1==some .free),nf:=fx.nf+2,Mo:=fun b=>fx.Mo b\/X b,pl:=cpl fx C x x' }
structure CompOk (fx:Fx) (scope:Scope) (x x':Str):Prop where
 kind:scope.kind=.function
 loc:scope.names.lookup x=some .local
 loc':scope.names.lookup x'=some .local
 nocell:∀ y∈scope.names,y.2≠.cell
 names:∀ y∈scope.names,y.2=.local->scope.names.lookup y.1=some .local
 free:∀ n,(n,NameKind.free)∈scope.names->fx.env.kindOf n=some .cell\/fx.env.kindOf n=some .free
 cells:nJ fx.env.cells scope.names
 room:fx.nf+2<=fx.ns
section
variable {Φ:Ct} {s FO FN:Shared} {X:Addr->Prop} {scope:Scope} {x x':Str} {C:Addr}
def cpl_c (fx:Fx) (C:Addr) (x x':Str) (k:Nat):(k=fx.nf/\cpl fx C x x' k=.ns C x)\/(k=fx.nf+1/\x'≠x/\cpl fx C x x' k=.ns C x')\/(k=fx.nf+1/\cpl fx C x x' k=.off)\/cpl fx C x x' k=fx.pl k:=by
 unfold cpl;by_cases h:k=fx.nf
 ·exact .inl ⟨h,NP h⟩
 ·rw [NQ h];by_cases h':k=fx.nf+1
  ·rw [NP h'];by_cases e:x'=x
   ·exact .inr (.inr (.inl ⟨h',NP e⟩))
   ·exact .inr (.inl ⟨h',e,NQ e⟩)
  ·exact .inr (.inr (.inr (NQ h')))
def tg (ho:∀ k,fx.nf<=k->fx.pl k=.off) (h:fx.pl k≠.off):cpl fx C x x' k=fx.pl k:=by
 have:k < fx.nf:=Nat.lt_of_not_le fun q=>h (ho k q);unfold cpl;rw [NQ (ne_of_lt this),NQ (ne_of_lt (Nat.lt_succ_of_lt this))]
def compFx_addr (h:((az fx scope C x x' X).pl k).addr=some a):a=C\/(fx.pl k).addr=some a:=by
 have h:(cpl fx C x x' k).addr=some a:=h;rcases cpl_c fx C x x' k with ⟨_,e⟩ | ⟨_,_,e⟩ | ⟨_,e⟩ | e <;> replace h:=e▸h
 ·(injection h with h; subst h); exact .inl rfl
 ·(injection h with h; subst h); exact .inl rfl
 ·(injection h; done)
 ·exact .inr h
theorem CompOk.toFx (c:CompOk fx scope x x') (ok:FxOk fx) (hC:∀ j,(fx.pl j).addr≠some C) (hX0:∀ b,X b->fx.g.h0.get? b=none):FxOk (az fx scope C x x' X) where
 gr:=ok.gr
 hand:=ok.hand
 kind:=c.kind
 globals:=ok.globals
 builtins:=ok.builtins
 vis:=fun y k hy=>by
  have kn:∀ y,(az fx scope C x x' X).env.kindOf y=(hM fx.env.scope.names scope.names).lookup y:=fun y=>by
   refine (?_:(relabel scope fx.env).names.lookup y=_);rw [cO ok.kind]
  have hy:((x,fx.nf) :: (x',fx.nf+1) :: fx.ρ.filter (fun p=>scope.names.lookup p.1==some .free)).lookup y=some k:=hy;rw [lookup_cons] at hy;cases hb:y==x with
  | true=>
   replace hy:=hb▸hy; (injection hy with hy; subst hy);cases Id hb
   exact .inl ⟨by rw [kn,relab_lookup,c.loc]; rfl,NP rfl⟩
  | false=>
   rw [hb] at hy;replace hy:((x',fx.nf+1) :: fx.ρ.filter (fun p=>scope.names.lookup p.1==some .free)).lookup y=some k:=hy;rw [lookup_cons] at hy;cases HA:y==x' with
   | true=>
    replace hy:=HA▸hy; (injection hy with hy; subst hy);cases Id HA
    refine .inl ⟨by rw [kn,relab_lookup,c.loc']; rfl,?_⟩;refine (?_:cpl fx C x x' (fx.nf+1)=.ns C x');unfold cpl;rw [NQ (succ_ne_self _),NP rfl,NQ fun q=>by rw [q,NJ] at hb; (injection hb; done)]
   | false=>
    rw [HA] at hy;obtain ⟨hf,hk⟩:=cS (p:=fun y=>scope.names.lookup y==some .free) hy;have hf:=Id hf;have hm:=iZ hf;right
    refine ⟨?_,?_⟩
    ·rw [kn,relab_lookup,hf];simp only [map_some,NJ,Bool.true_and];split
     ·exact .inl rfl
     ·exact .inr rfl
    ·obtain ⟨cc,LO⟩:=c.cells y hm;refine ⟨cc,gm _ _ _ _ _ LO (.inl hm) (fun d hd=>by (injection hd; done)),?_⟩;rcases ok.vis y k hk with ⟨q,_⟩ | ⟨_,c',GL,hp⟩
     ·rcases c.free y hm with q' | q' <;> rw [q] at q' <;> cases q'
     ·replace GL:=LO▸GL; (injection GL with GL; subst GL);exact (tg ok.offs (by exact hp.symm▸nofun)).trans hp
 inj:=fun k j e Gc=>by
  have e:cpl fx C x x' k=cpl fx C x x' j:=e;have Gc:cpl fx C x x' k≠.off:=Gc;have no:∀ j y,Pl.ns C y≠fx.pl j:=fun j y q=>hC j (by rw [<- q]; rfl);rcases cpl_c fx C x x' k with ⟨h1,e1⟩ | ⟨h1,n1,e1⟩ | ⟨_,e1⟩ | e1 <;> rcases cpl_c fx C x x' j with ⟨h2,e2⟩ | ⟨h2,n2,e2⟩ | ⟨_,e2⟩ | e2 <;>
   first | exact h1.trans h2.symm | exact absurd e1 Gc | exact absurd (e.trans e2) Gc | (replace e:=e2▸e1▸e; first | (cases e; exact absurd rfl n1) | (cases e; exact absurd rfl n2) | exact absurd e (no _ _) | exact absurd e.symm (no _ _) | exact ok.inj k j e (e1▸Gc))
 apart:=fun k j a y cc e1 e2=>by
  have e1:cpl fx C x x' k=.ns a y:=e1;have e2:cpl fx C x x' j=.cell cc:=e2;have e2:fx.pl j=.cell cc:=by
   rcases cpl_c fx C x x' j with ⟨_,q⟩ | ⟨_,_,q⟩ | ⟨_,q⟩ | q
   ·exact nomatch q.symm.trans e2
   ·exact nomatch q.symm.trans e2
   ·exact nomatch q.symm.trans e2
   ·exact q.symm.trans e2
  have Jj:a=C->a≠cc:=fun z q=>hC j (by rw [e2,<- z,q]; rfl);rcases cpl_c fx C x x' k with ⟨_,q⟩ | ⟨_,_,q⟩ | ⟨_,q⟩ | q <;> replace e1:=q▸e1
  ·(injection e1 with e1; subst e1); exact Jj rfl
  ·(injection e1 with e1; subst e1); exact Jj rfl
  ·(injection e1; done)
  ·exact ok.apart k j a y cc e1 e2
 offs:=fun k hk=>by
  have hk:fx.nf+2<=k:=hk;have a:k≠fx.nf:=ne_of_gt (Q1 (Nat.lt_add_of_pos_right (by decide)) hk);have b:k≠fx.nf+1:=ne_of_gt hk;exact (NQ a).trans ((NQ b).trans (ok.offs k (zB1 (Q3 _ _) hk)))
 nfs:=c.room
 room:=ok.room
 units:=ok.units
 call:=ok.call
 mo0:=fun a q=>q.elim (ok.mo0 a) (hX0 a)
def comp_own (q:(Ct.mk (az Φ.fx scope C x x' X) oa G).own a) (h:oa=Φ.oa):a=C\/Φ.own a:=by
 subst h;rcases q with ⟨j,q⟩ | q
 ·exact (compFx_addr q).imp id fun q=>.inl ⟨j,q⟩
 ·exact .inr (.inr q)
def vE (I:Inv Φ s) (q:Φ.own a):(Ct.mk (az Φ.fx scope C x x' X) Φ.oa Φ.G).own a:=by
 rcases q with ⟨j,q⟩ | q
 ·exact .inl ⟨j,by refine (?_:(cpl Φ.fx C x x' j).addr=some a); rw [tg I.ok.offs fun e=>by replace q:=e▸q; (injection q; done)]; exact q⟩
 ·exact .inr q
theorem Inv.comp (c:CompOk Φ.fx scope x x') (I:Inv Φ FO) (B:Base Φ.fx.g s) (k:ao FO.heap s.heap) (hX:∀ b,X b->FO.heap.get? b=none/\aL s.heap b/\b≠C) (GV:FO.heap.get? C=none) (hC:s.heap.Ns C fun U=>none) :
  Inv ⟨az Φ.fx scope C x x' X,Φ.oa,Φ.G⟩ s/\bK Φ.bad (Ct.mk (az Φ.fx scope C x x' X) Φ.oa Φ.G).bad FO.heap s.heap:=by
 have MP:aL s.heap C:=by obtain ⟨o,_,_,e,_⟩:=hC; exact ⟨o,e⟩
 have hCp:∀ j,(Φ.fx.pl j).addr≠some C:=fun j e=>(I.new C (.inl ⟨j,e⟩)).1.elim fun o e=>al GV e;have mk:bK Φ.bad (Ct.mk (az Φ.fx scope C x x' X) Φ.oa Φ.G).bad FO.heap s.heap:=fun b o e n=>by
  refine ⟨fun q=>?_,k b o e⟩;rcases q with (q | q) | q
  ·exact n (.inl q)
  ·exact al (hX b q).1 e
  ·exact (comp_own (Φ:=Φ) q rfl).elim (fun q=>al GV (q▸e)) fun q=>n (.inr q)
 refine ⟨⟨c.toFx I.ok hCp fun b q=>aK (fun l=>I.base.stays.live l) (hX b q).1,B,fun j=>?_,fun a q=>?_,I.inj,fun j a e i q=>?_,I.gl,fun a q=>q.elim (fun q=>k.live (I.mo a q)) fun q=>(hX a q).2.1⟩,mk⟩
 ·obtain ⟨v,r,so⟩:=I.slot j;have so':=so.map mk fun a U o e=>k a o e;refine ⟨v,?_,so'⟩;refine (?_:ay s.heap (cpl Φ.fx C x x' j) v);have vn:Φ.fx.nf<=j->v=none:=fun q=>by rw [I.ok.offs j q] at r; exact r
  rcases cpl_c Φ.fx C x x' j with ⟨h,e⟩ | ⟨h,_,e⟩ | ⟨h,e⟩ | e <;> refine e.symm▸?_
  ·rw [vn (zB2 h.symm)]; exact ⟨_,hC,rfl⟩
  ·rw [vn (h▸le_succ _)]; exact ⟨_,hC,rfl⟩
  ·exact vn (h▸le_succ _)
  ·exact r.keep k
 ·rcases comp_own (Φ:=Φ) q rfl with rfl | q
  ·exact ⟨MP,aK (fun l=>I.base.stays.live l) GV,fun z=>z.elim (fun z=>(I.mo a z).elim fun o e=>al GV e) fun z=>(hX a z).2.2 rfl⟩
  ·obtain ⟨⟨o,e⟩,n,m⟩:=I.new a q;exact ⟨⟨o,k a o e⟩,n,fun z=>z.elim m fun z=>al (hX a z).1 e⟩
 ·rcases compFx_addr q with rfl | q
  ·exact (I.new a (.inr ⟨j,e⟩)).1.elim fun o e=>al GV e
  ·exact I.off j a e i q
end
def fW {h h':Heap} {D:Addr} {vs:Array Value} (p:h.PlainList D vs) (k:∀ o,h.get? D=some o->h'.get? D=some o):h'.PlainList D vs:=p.elim fun c e=>⟨c,k _ e⟩
def iO {h:Heap} {D:Addr} {vs:Array Value} (p:h.PlainList D vs):aL h D:=p.elim fun c e=>⟨_,e⟩
def vB {Φ:Ct} {k:Nat} {sl:Slot} (h:Φ.oa k=[]):Φ.put k [] sl=⟨Φ.fx,Φ.oa,Φ.G.set k sl⟩:=by
 unfold Ct.put
 congr 1
 funext j
 by_cases e:j=k
 ·rw [NP e,e,h]
 ·exact NQ e
def vG (so:bz g bad h oak none sl):oak=[]:=by
 cases sl with
 | unset=>exact so.1
 | junk=>exact so.1
 | v x=>exact so.1
 | ownL l=>obtain ⟨_,_,q,_⟩:=so; exact nN q.symm
 | ownD l=>obtain ⟨_,_,q,_⟩:=so; exact nN q.symm
 | ownI l=>obtain ⟨_,_,_,_,q,_⟩:=so; exact nN q.symm
 | obj l=>obtain ⟨_,q,_⟩:=so; exact nN q.symm
section
variable {Φ:Ct} {s FO FN:Shared} {scope:Scope} {x x':Str}
inductive CompEnd (Φ:Ct) (FO:Shared) (K:List V->Prop) (D C:Addr) (s':Shared):Prop
 | mk:∀ m ys,Base Φ.fx.g s'->ao FO.heap s'.heap->FO.heap.get? C=none->FO.heap.get? D=none->D≠C->s'.heap.Ns C m->K ys->∀ vs,s'.heap.PlainList D vs->RpAll Φ.fx.g (fun b=>Φ.bad b\/b=C) s'.heap vs.toList ys->CompEnd Φ FO K D C s'
def nS (Φ:Ct) (scope:Scope) (T:Expr) (x x':Str) (b:Gs->V->Option Gs):Prop:=(∀ G y G₁ z,b G y=some G₁->b G₁ z=b G z) /\
 ∀ C X G G₁ v y s,Φ.fx.env.scope.kind=.function->(∀ k,Φ.fx.nf<=k->Φ.oa k=[])->Inv ⟨az Φ.fx scope C x x' X,Φ.oa,G⟩ s->b G y=some G₁->(Ct.mk (az Φ.fx scope C x x' X) Φ.oa G).rp s.heap v y ->
  (Ct.mk (az Φ.fx scope C x x' X) Φ.oa G).wp (assign T (az Φ.fx scope C x x' X).env v) (fun U s'=>Inv ⟨az Φ.fx scope C x x' X,Φ.oa,G₁⟩ s'/\∀ b o,b≠C->s.heap.get? b=some o->s'.heap.get? b=some o) s
inductive CLC (Φ:Ct) (GH:Fx) (FO:Shared) (Sp:Nat->Heap->Prop) (vals:List Value) (l0 l:List V) (Da:Addr) (de:D) (ts:List D) (b:Gs->V->Option Gs) (K:List V->Prop) (n:Nat) (s':Shared):Prop
 | mk (i:Nat) (G':Gs) (zs:List V) (vs:Array Value) (en:n=l.length - i) (hi:i<=l.length) (st:Sp i s'.heap) (I':Inv ⟨GH,Φ.oa,G'⟩ s') (hG:∀ z,b G' z=b Φ.G z) (kx:ao FO.heap s'.heap) (rv:(Ct.mk GH Φ.oa Φ.G).rps s'.heap vals l0)
   (hD:s'.heap.PlainList Da vs) (rz:(Ct.mk GH Φ.oa Φ.G).rps s'.heap vs.toList zs) (hz:zs.length<=i) (ec:jk de ts b Φ.G (l.drop i) fun ys=>K (zs++ys)):CLC Φ GH FO Sp vals l0 l Da de ts b K n s'
def lm {Gb iter T:Expr} {b:Gs->V->Option Gs} {ifs:List Expr} {pos:Pos} {l:List V} {it:Value} {de:D} {ts:List D} {K:List V->Prop} {RR:Value->Addr->Result->Shared->Prop} {E:GE}
  (c:CompOk Φ.fx scope x x') (FY:Inv Φ FO) (gr:Grown FO FN) (fa:FeedAt Φ T false FO FN it l)
  (HJ:∀ C X oa G,Ev ⟨az Φ.fx scope C x x' X,oa,G⟩ (eval Gb (az Φ.fx scope C x x' X).env) (de G))
  (GS:∀ C X oa G,EvT ⟨az Φ.fx scope C x x' X,oa,G⟩ (dI ifs (az Φ.fx scope C x x' X).env) (cp true ts G))
  (hT:nS Φ scope T x x' b) (er:jk de ts b Φ.G l K)
  (hK:∀ D C s',CompEnd Φ FO K D C s'->RR (.ref D) C (.ok .next) s') :
  wpAny (model Φ.fx.g.prog Φ.fx.g.w) Φ.fx.A (newList []) (fun acc Gi=>wpAny (model Φ.fx.g.prog Φ.fx.g.w) Φ.fx.A (newFunctionEnv scope Φ.fx.env.globals (clOf Φ.fx.env.cells scope.names []) [] Φ.fx.env.qual none .none (some Φ.fx.env)) (fun Li Gh=>
   codeAny (model Φ.fx.g.prog Φ.fx.g.w) Φ.fx.A (.compStart (.ListComp Gb [⟨T,iter,ifs,0⟩] scope pos) 0 it acc { Li with scope:=relabel scope Φ.fx.env }) (RR acc Li.locals) Gh) E Gi) E FN:=by
 refine aV fun Z kZ=>?_;obtain ⟨J,fp,wr,vals,l0,Sp,rfl,F,st0,rv,Ik,hfp,hsz⟩:=fa;refine kZ (wpAny_newObj_type (wpAny_newFunctionEnv c.nocell (fun y hy=>nM hy) (fun Gf G3 GZ=>?_) c.kind));clear kZ;dsimp only at G3 GZ ⊢;generalize hH2:FN.heap.push { cls:=.type "list",dict:=none,data:=.seq ([]:List Value).toArray }=H2 at G3 GZ ⊢;have ML:FN.heap.get? FN.heap.objs.size=none:=ak _;have JA:FO.heap.get? FN.heap.objs.size=none:=aK gr.keeps.live ML;have up1:∀ b o,FN.heap.get? b=some o->H2.get? b=some o:=fun b o e=>hH2▸Q4 _ e;have MN:H2.get? FN.heap.objs.size=some { cls:=.type "list",dict:=none,data:=.seq ([]:List Value).toArray }:=hH2▸Q2 _ rfl;have MO:H2.get? H2.objs.size=none:=ak _;have LQ:FN.heap.get? H2.objs.size=none:=aK (fun l=>l.elim fun o e=>⟨o,up1 _ o e⟩) MO;have GV:FO.heap.get? H2.objs.size=none:=aK gr.keeps.live LQ;have I9:FN.heap.objs.size≠H2.objs.size:=fun q=>al MO (q▸MN);have LZ:∀ b o,b≠H2.objs.size->H2.get? b=some o->Gf.get? b=some o:=fun b o n e=>GZ.extBut b o n (Q4 _ e);have up:ao FN.heap Gf:=fun b o e=>LZ b o (fun q=>al LQ (q▸e)) (up1 b o e);have MM:Gf.PlainList FN.heap.objs.size #[]:=⟨_,LZ _ _ I9 MN⟩;generalize hDD:FN.heap.objs.size=D at ML JA MN I9 MM ⊢;generalize hCC:H2.objs.size=C at G3 GZ MO GV LQ I9 LZ ⊢;have MR:Grown FO { FN with heap:=Gf,toks:=FN.toks+([]:List (Str×Value)).length }:=gr.trans ⟨up,rfl,rfl⟩
 let X:Addr->Prop:=fun b=>(b∈fp/\FO.heap.get? b=none)\/b=D
 have MU:∀ b∈fp,aL FN.heap b:=fun b hb=>F.live 0 _ b st0 hb;have MV:∀ b∈fp,b≠C:=fun b hb q=>(MU b hb).elim fun o e=>al LQ (q▸e);have fpD:∀ b∈fp,b≠D:=fun b hb q=>(MU b hb).elim fun o e=>al ML (q▸e);have hXp:∀ b,X b->FO.heap.get? b=none/\aL Gf b/\b≠C:=fun b q=>by
  rcases q with ⟨q,n⟩ | rfl
  ·exact ⟨n,up.live (MU b q),MV b q⟩
  ·exact ⟨JA,iO MM,I9⟩
 obtain ⟨FM,Kl⟩:=FY.comp (X:=X) c (FY.base.grown MR) MR.keeps hXp GV G3
 let GH:=az Φ.fx scope C x x' X
 have Hz:∀ k,Φ.fx.nf<=k->Φ.oa k=[]:=fun k hk=>by
  obtain ⟨v,r,so⟩:=FY.slot k;replace r:=(FY.ok.offs _ hk)▸r;cases r
  exact vG so
 have Io:∀ b∈wr,GH.Mo b:=fun b m=>.inr (.inl ⟨F.sub b m,Ik b m⟩);have Ka:∀ b∈wr,Φ.fx.g.h0.get? b=none:=fun b m=>aK (fun l=>FY.base.stays.live l) (Ik b m);have D0:Φ.fx.g.h0.get? D=none:=aK (fun l=>FY.base.stays.live l) JA;have wrD:D∉wr:=fun m=>fpD D (F.sub D m) rfl;have Gw:Sp 0 Gf:=F.frame _ _ _ st0 fun b U o e=>up b o e;have plC:(GH.pl Φ.fx.nf).addr=some C:=by show (cpl Φ.fx C x x' Φ.fx.nf).addr=_; unfold cpl; rw [NP rfl]; rfl
 have Kn:codeAny (model Φ.fx.g.prog Φ.fx.g.w) Φ.fx.A (.compLoop (.ListComp Gb [⟨T,iter,ifs,0⟩] scope pos) 0 (.ref J) (.ref D) GH.env) (RR (.ref D) C) { FN with heap:=Gf,toks:=FN.toks+([]:List (Str×Value)).length }:=by
  refine lI (CLC Φ GH FO Sp vals l0 l D de ts b K) ?_ l.length ⟨0,Φ.G,[],#[],rfl,zero_le _,Gw,FM,fun U=>rfl,MR.keeps,rv.map Kl,MM,.nil,zero_le _,er⟩;intro n s' hLC;refine aV fun Z kZ=>?_;obtain ⟨i,G',zs,vs,rfl,hi,st,I',hG,kx,Kh,hD',rz,hz,ec⟩:=hLC;cases hx:l[i]? with
  | none=>
   have HI:i=l.length:=le_antisymm hi (List.getElem?_eq_none_iff.mp hx);subst HI;replace ec:=List.drop_length▸ec;refine kZ (F.over st fun h' tk hk=>hK D C _ ?_);have kC:∀ b o,s'.heap.get? b=some o->b∉wr->h'.get? b=some o:=fun b o e n=>hk b o n e;obtain ⟨v,⟨m,hn,hv⟩,_⟩:∃ v,(∃ m,s'.heap.Ns C m/\m x=v)/\True:=by
    obtain ⟨v,r,_⟩:=I'.slot Φ.fx.nf;have r:ay s'.heap (cpl Φ.fx C x x' Φ.fx.nf) v:=r;unfold cpl at r;rw [NP rfl] at r;exact ⟨v,r,trivial⟩
   refine ⟨m,zs,⟨fun b o e=>hk b o (fun q=>al (Ka b q) e) (I'.base.stays b o e),I'.base.os,I'.base.gens⟩,fun b o e=>hk b o (fun q=>al (Ik b q) e) (kx b o e),GV,JA,I9,hn.at' fun o e=>hk C o (fun q=>MV C (F.sub C q) rfl) e,?_,vs,fW hD' fun o e=>hk D o wrD e,rz.map fun b o e n=>⟨fun q=>n ?_,hk b o (fun q=>n (.inl (Io b q))) e⟩⟩
   ·have ec:K (zs++[]):=ec;rwa [append_nil] at ec
   ·rcases q with q | rfl
    ·exact q.imp .inl fun q=>vE (X:=X) FY q
    ·exact .inr (.inl ⟨_,plC⟩)
  | some y=>
   have HI:=(List.getElem?_eq_some_iff.mp hx).1;have ed:l.drop i=y :: l.drop (i+1):=by rw [List.drop_eq_getElem_cons HI]; congr 1; exact (List.getElem?_eq_some_iff.mp hx).2
   rw [ed] at ec;refine kZ (F.turn (bad:=(Ct.mk GH Φ.oa G').bad) hx st Kh (fun a q=>I'.badLive q) (fun b m=>.inl (Io b m)) fun v h' tk C' hk rx=>?_);clear kZ;refine aV fun Z kZ=>?_;have I3:Inv ⟨GH,Φ.oa,G'⟩ { s' with heap:=h',toks:=tk }:=Inv.others (Φ:=⟨GH,Φ.oa,G'⟩) (Mo₂:=GH.Mo) I' hk Io Ka (fun a q=>q) fun a q=>by
    by_cases nw:a∈wr
    ·exact F.live _ _ a C' (F.sub a nw)
    ·exact (I'.mo a q).elim fun o e=>⟨o,hk a o nw e⟩
   have mk3:bK (Ct.mk GH Φ.oa Φ.G).bad (Ct.mk GH Φ.oa Φ.G).bad s'.heap h':=fun b o e n=>⟨n,hk b o (fun m=>n (.inl (Io b m))) e⟩;have ec:okK (b Φ.G y) fun G₁=>_:=ec;refine ae ec fun G₁ IK ec=>kZ (LT (hT.2 C X G' G₁ v y _ FY.ok.kind Hz I3 ((hG y).trans IK) rx _) (fun U Gh q=>?_) fun U U z=>z);clear kZ;refine aV fun Z kZ=>?_;obtain ⟨I4,kC⟩:=q;have mk4:bK (Ct.mk GH Φ.oa Φ.G).bad (Ct.mk GH Φ.oa Φ.G).bad h' Gh.heap:=fun b o e n=>⟨n,kC b o (fun q=>n (.inr (.inl ⟨_,q▸plC⟩))) e⟩;have kx4:ao FO.heap Gh.heap:=fun b o e=>kC b o (fun q=>al GV (q▸e)) (hk b o (fun q=>al (Ik b q) e) (kx b o e));have Ke:Sp (i+1) Gh.heap:=F.frame _ _ _ C' fun b hb o e=>kC b o (MV b hb) e;have rv4:=(Kh.map mk3).map mk4;have rz4:=(rz.map mk3).map mk4;have hD4:Gh.heap.PlainList D vs:=fW hD' fun o e=>kC D o I9 (hk D o wrD e);refine kZ (LT (GS C X Φ.oa G₁ _ Gh ec I4 _) (fun b' Gr Lm=>?_) fun U U z=>z);obtain ⟨B5,k5,c5,hc5,e5⟩:=Lm;clear kZ;refine aV fun Z kZ=>?_;subst e5;have I5:=I4.keep B5 k5;have st5:Sp (i+1) Gr.heap:=F.frame _ _ _ Ke fun b hb o e=>k5 b o e;have hD5:Gr.heap.PlainList D vs:=fW hD4 fun o e=>k5 _ o e;have hGs:∀ z,b G₁ z=b Φ.G z:=fun z=>hT.1 _ _ _ z IK;cases b' with
   | false=>exact kZ ⟨l.length - (i+1),Nat.sub_succ_lt_self _ _ HI,i+1,_,zs,vs,rfl,HI,st5,I5,hGs,kx4.trans k5,rv4.keep k5,hD5,rz4.keep k5,Nat.le_succ_of_le hz,hc5⟩
   | true=>
    refine kZ (LT (HJ C X Φ.oa G₁ _ Gr hc5 I5 _) (fun yv HT Ll=>?_) fun U U z=>z);obtain ⟨B6,k6,z,hz6,rz6⟩:=Ll;clear kZ;refine aV fun Z kZ=>?_;have I6:=I5.keep B6 k6;have hD6:HT.heap.PlainList D vs:=fW hD5 fun o e=>k6 _ o e;have rzs:=(rz4.keep k5).keep k6;refine kZ (wpAny_list_append_plain (hsz:=bF (by rw [aN (Φ:=⟨GH,Φ.oa,Φ.G⟩) rzs]; exact zB1 hz (zB1 hi hsz))) hD6 fun Iv hD7 KC=>?_);have k7:∀ b o,b∉[D]->HT.heap.get? b=some o->Iv.get? b=some o:=fun b o n e=>KC.extBut b o (fun q=>n (by rw [q]; exact .head _)) e;have I7:Inv ⟨GH,Φ.oa,G₁⟩ { HT with heap:=Iv,toks:=HT.toks }:=Inv.others (Φ:=⟨GH,Φ.oa,G₁⟩) (Mo₂:=GH.Mo) I6 k7 (fun b m=>by cases zA6 m; exact .inr (.inr rfl)) (fun b m=>by cases zA6 m; exact D0) (fun a q=>q) fun a q=>by
     by_cases nd:a=D
     ·subst nd; exact iO hD7
     ·exact (I6.mo a q).elim fun o e=>⟨o,KC.extBut a o nd e⟩
    have L8:bK (Ct.mk GH Φ.oa Φ.G).bad (Ct.mk GH Φ.oa Φ.G).bad HT.heap Iv:=fun b o e n=>⟨n,KC.extBut b o (fun q=>n (.inl (.inr (.inr q)))) e⟩;refine ⟨l.length - (i+1),Nat.sub_succ_lt_self _ _ HI,i+1,_,zs++[z],vs.push yv,rfl,HI,F.frame _ _ _ st5 fun b hb o e=>KC.extBut b o (fpD b hb) (k6 b o e),I7,hGs,fun b o e=>KC.extBut b o (fun q=>al JA (q▸e)) (((kx4.trans k5).trans k6) b o e),((rv4.keep k5).keep k6).map L8,hD7,?_,by rw [zB5]; exact succ_le_succ hz,?_⟩
    ·rw [toList_push];exact (rzs.map L8).append (.cons (rz6.map L8) .nil)
    ·have e:(fun ys=>K (zs++[z]++ys))=fun ys=>K (zs++(z :: ys)):=funext fun ys=>by rw [Qa]; rfl
     rw [e]; exact hz6
 exact codeAny_compStart_list Kn (F.self 0 _ _ _ Gw Kn)
end
section
variable {fx:Fx} {Φ:Ct} {s:Shared}
def fg (h:q6 value=true):swappedStores [.Tuple es kk p] value env=pure none/\∀ t n,swapsWith value t n env=pure false:=by
 refine ⟨?_,fun t n=>bg (zA2 h).1⟩;cases value <;> first | rfl | exact nB h
def qK {d:Gs->DV} (hs:q6 value=true) (hT:TgtsOk fx.ρ fx.env es ks) (h:∀ oa G,Ev ⟨fx,oa,G⟩ (eval value fx.env) (d G)) :
  ExB fx (exec (.Assign [.Tuple es kk p] value spos) fx.env) (fun G K=>d G fun x=>okK (aJ ks G x) (K none)):=fun oa G K s hd I E=>
 Assign_Tuple (LT (h oa G _ s hd I _) ((by rintro v s₁ ⟨B,FQ,x,hx,r⟩; exact ae hx fun G' e kG=>LT (AI (Φ:=⟨fx,oa,G⟩) hT (I.keep B FQ) e r _) (fun U FN q=>.next q.1 ((Tr.of_keeps FQ).trans q.2.1) kG) fun U U z=>z)) fun U U z=>z) ((fg (es:=es) (kk:=kk) (p:=p) hs).2 _ _:swapsWith value (some (.Tuple es kk p)) spos.line fx.env=pure false) (fg hs).1
def kN (e:iT G k=some l):getSlot G k=.ownD l:=by
 unfold iT at e
 revert e
 cases getSlot G k with
 | ownD m=>exact fun e=>NO Slot.ownD (LE e)
 | _=>exact fun e=>nN e.symm
def jG (e:qp G k=some l):getSlot G k=.obj l:=by
 unfold qp at e
 revert e
 cases getSlot G k with
 | obj m=>exact fun e=>NO Slot.obj (LE e)
 | _=>exact fun e=>nN e.symm
def cz (e:c6 G k c=some o):getSlot G k=.obj o/\o.c=c:=by
 unfold c6 at e;obtain ⟨o',h,e⟩:=bind_eq_some_iff.mp e;exact if_elim (C:=fun o=>getSlot G k=.obj o/\o.c=c) e fun q=>⟨jG h,q⟩
def db (e:km G k=some l):getSlot G k=.ownI l:=by
 unfold km at e
 revert e
 cases getSlot G k with
 | ownI m=>exact fun e=>NO Slot.ownI (LE e)
 | _=>exact fun e=>nN e.symm
def iS (e:fZ G k c=some o):getSlot G k=.ownI o/\o.c=c:=by
 unfold fZ at e;obtain ⟨o',h,e⟩:=bind_eq_some_iff.mp e;exact if_elim (C:=fun o=>getSlot G k=.ownI o/\o.c=c) e fun q=>⟨db h,q⟩
def lX (I:Inv Φ s) (e:getSlot Φ.G k=.ownL l):∃ a,Φ.oa k=[[a]]/\ay s.heap (Φ.fx.pl k) (some (.ref a))/\OwnLAt Φ.fx.g Φ.bad s.heap a l:=by
 obtain ⟨v,pr,so⟩:=I.slot k;rw [e] at so;obtain ⟨a,ha,rfl,ow⟩:=so;exact ⟨a,ha,pr,ow⟩
def sm (I:Inv Φ s) (e:getSlot Φ.G k=.ownD l):∃ a,Φ.oa k=[[a]]/\ay s.heap (Φ.fx.pl k) (some (.ref a))/\OwnDAt Φ.fx.g Φ.bad s.heap a l:=by
 obtain ⟨v,pr,so⟩:=I.slot k;rw [e] at so;obtain ⟨a,ha,rfl,ow⟩:=so;exact ⟨a,ha,pr,ow⟩
def nj (I:Inv Φ s) (e:getSlot Φ.G k=.obj o):∃ u,ay s.heap (Φ.fx.pl k) (some u)/\ObjAt Φ.fx.g Φ.bad s.heap (Φ.oa k) u o:=by
 obtain ⟨v,pr,so⟩:=I.slot k;rw [e] at so;obtain ⟨u,rfl,ow⟩:=so;exact ⟨u,pr,ow⟩
theorem Inv.nsys (I:Inv Φ s) (q:Φ.own a):a≠sysModules:=fun e=>I.ok.gr.sysm.elim fun o z=>al (I.new a q).2.1 (e▸z)
theorem OwnLAt.rp (k:bK bad FR h h) (na:¬ FR a/\a≠sysModules) (r:OwnLAt g bad h a l):Rp g FR h (.ref a) (.list l):=by
 cases r with | mk o vs n ho hc hd hl=>exact .list na.1 ho hc hd (hl.map k)
theorem OwnDAt.rp (k:bK bad FR h h) (na:¬ FR a/\a≠sysModules) (r:OwnDAt g bad h a l):Rp g FR h (.ref a) (.dict l):=by
 cases r with | mk o es n ho hc hd hk r1 r2=>exact .dict na.1 na.2 ho hc hd hk rfl rfl (r1.map k) (r2.map k)
theorem FldAt.rp (k:bK bad FR h h) (na:∀ a∈fa,¬ FR a/\a≠sysModules) (r:FldAt g bad h w f fa):Rp g FR h w f.v:=by
 cases r with
 | val x=>exact x.map k
 | L x=>exact x.rp k (na _ (.head _))
 | D x=>exact x.rp k (na _ (.head _))
theorem FldsAt.rp (k:bK bad FR h h) (r:FldsAt g bad h ws fs F):(∀ a∈F.flatten,¬ FR a/\a≠sysModules)->RpAll g FR h ws (fs.map Fld.v):=by
 induction r with
 | nil=>exact fun U=>.nil
 | cons x _ ih=>exact fun na=>.cons (x.rp k fun a m=>na a (Qc _ m)) (ih fun a m=>na a (mem_append_right _ m))
theorem ObjAt.slot (k:bK bad FR h h) (na:∀ a∈F.flatten,¬ FR a/\a≠sysModules) (r:ObjAt g bad h F u o):bz g FR h [] (some u) o.sl:=by
 obtain ⟨b,a,od,ws,rfl,nb,Lx,hb,ho,hf,hl,nd⟩:=r;obtain ⟨c,fs⟩:=o;cases fs with
 | nil=>exact ⟨rfl,_,rfl⟩
 | cons f fs=>exact ⟨rfl,_,rfl,.inst (c:=c) (k _ _ hb nb).1 (k _ _ ho Lx).1 hb ho hf rfl (map_map.trans (map_id _)) (hl.rp k na)⟩
theorem Inv.frz (I:Inv Φ s) (pr:ay s.heap (Φ.fx.pl k) (some u)) (hi:¬ isI sl) (ID:sl≠.unset) (H1:∀ o,sl≠.obj o) (cv:∀ FR,(∀ a∈(Φ.oa k).flatten,¬ FR a/\a≠sysModules)->bK Φ.bad FR s.heap s.heap->bz Φ.fx.g FR s.heap [] (some u) sl):Inv (Φ.put k [] sl) s/\Tr Φ s (Φ.put k [] sl) s:=
 Inv.upd (s':=s) I rfl rfl pr (fun U U U e=>e) (fun U l=>l) (fun a m=>nM m) (cv _ (fun a m=>⟨fun q=>by
  rcases q with q | q | ⟨j,q⟩
  ·exact (I.new a (.inr ⟨k,m⟩)).2.2 q
  ·exact q.elim fun j q=>I.off k a m j q
  ·by_cases e:j=k
   ·subst e; rw [put_self] at q; exact nM q
   ·rw [di e] at q; exact e (I.inj j k a q m),I.nsys (.inr ⟨k,m⟩)⟩) fun b o e n=>⟨fun q=>n (q.imp id fun q=>(put_own q).elim (fun q=>nM q) id),e⟩) (fun q=>absurd q hi) ID fun o e=>absurd e (H1 o)
def ul (h:ExB fx t Y):ExB fx t (fun G K=>okK (dJ G k) fun l=>Y (G.set k (.v (.list l))) K):=fun oa G K s hd I E=>ae hd fun l e hk=>by
 obtain ⟨a,ha,pr,ow⟩:=lX (Φ:=⟨fx,oa,G⟩) I (fY e);have q:=Inv.frz (Φ:=⟨fx,oa,G⟩) (sl:=.v (.list l)) I pr id nofun nofun fun b na mk=>⟨rfl,_,rfl,ow.rp mk (na a (by rw [ha]; exact .head _))⟩;exact LT (h _ _ K s hk q.1 E) (fun U U p=>p.lift (Φ:=⟨fx,oa,G⟩) q.2) fun U U z=>z
def qJ (h:ExB fx t Y):ExB fx t (fun G K=>okK (iT G k) fun l=>Y (G.set k (.v (.dict l))) K):=fun oa G K s hd I E=>ae hd fun l e hk=>by
 obtain ⟨a,ha,pr,ow⟩:=sm (Φ:=⟨fx,oa,G⟩) I (kN e);have q:=Inv.frz (Φ:=⟨fx,oa,G⟩) (sl:=.v (.dict l)) I pr id nofun nofun fun b na mk=>⟨rfl,_,rfl,ow.rp mk (na a (by rw [ha]; exact .head _))⟩;exact LT (h _ _ K s hk q.1 E) (fun U U p=>p.lift (Φ:=⟨fx,oa,G⟩) q.2) fun U U z=>z
def xZ (o:Ob):¬ isI o.sl/\o.sl≠.unset/\∀ p,o.sl≠.obj p:=by
 obtain ⟨c,fs⟩:=o;cases fs with
 | nil=>exact ⟨id,nofun,nofun⟩
 | cons=>exact ⟨id,nofun,nofun⟩
def qI (h:ExB fx t Y):ExB fx t (fun G K=>okK (qp G k) fun o=>Y (G.set k o.sl) K):=fun oa G K s hd I E=>ae hd fun o e hk=>by
 obtain ⟨u,pr,ow⟩:=nj (Φ:=⟨fx,oa,G⟩) I (jG e);have q:=Inv.frz (Φ:=⟨fx,oa,G⟩) (sl:=o.sl) I pr (xZ o).1 (xZ o).2.1 (xZ o).2.2 fun b na mk=>ow.slot mk na;exact LT (h _ _ K s hk q.1 E) (fun U U p=>p.lift (Φ:=⟨fx,oa,G⟩) q.2) fun U U z=>z
theorem Inv.quiet (I:Inv Φ s):interactive Φ.fx.env=false:=by unfold interactive; rw [I.ok.kind]; rfl
def Aw {f:Nat} {qs:List (Expr×DV)} {K:V->Prop} {Q:GE} {E:GE} (hx:bW Φ.fx.env.scope.names n=true) (hf:Φ.fx.g.fns.lookup n=some f) (Hi:keepIn Φ.fx.g.K (.ref (Φ.fx.g.fn f))=true)
  (hq:∀ q∈qs,aq q.1=true/\bu Φ q) (hd:br (qs.map Prod.snd) fun xs=>(aj Φ.fx.g.P Φ.fx.d).p f xs K) (I:Inv Φ s)
  (hQ:∀ v s' y,Inv Φ s'->ao s.heap s'.heap->K y->Φ.rp s'.heap v y->(Φ.fx.g.newf f=true->lB s.heap v)->Q v s'):wpAny (model Φ.fx.g.prog Φ.fx.g.w) Φ.fx.A (eval (.Call (.Name n fp) (qs.map Prod.fst) [] pos) Φ.fx.env) Q E s:=
 LT (tc hx hf Hi hq K s hd I E) (by rintro v s' ⟨⟨B,k,y,hy,r⟩,nv⟩; exact hQ v s' y (I.keep B k) k hy r nv) fun U U z=>z
def Ai {qs:Gs->List (Expr×DV)} (H6:∀ G,(qs G).map Prod.fst=es) (hx:bW fx.env.scope.names n=true) (hf:fx.g.fns.lookup n=some f) (Hi:keepIn fx.g.K (.ref (fx.g.fn f))=true)
  (hq:∀ oa G,∀ q∈qs G,aq q.1=true/\bu ⟨fx,oa,G⟩ q):ExB fx (exec (.Expr (.Call (.Name n fp) es [] cpos) pos) fx.env) (fun G K=>br ((qs G).map Prod.snd) fun xs=>(aj fx.g.P fx.d).p f xs fun y=>isNone y=true/\K none G):=fun oa G K s hd I E=>by
 rw [<- H6 G];refine wpAny_Expr (Aw (Φ:=⟨fx,oa,G⟩) hx hf Hi (hq oa G) hd I fun v s' y I' k hy r U=>?_) I.quiet rfl;cases y with
 | none=>exact r.none_elim (.next (Φ:=⟨fx,oa,G⟩) I' (.of_keeps k) hy.2)
 | _=>(injection hy.1; done)
def g6 (o:Obj) (f:Array Value->Array Value):(o.mapSeq f).dict=o.dict:=by
 obtain ⟨c,d,dt,sl⟩:=o; cases dt <;> rfl
def ux {E:GE} {Q:GE} (ho:s.heap.get? l=some o) (hc:o.cls=.type "list"/\o.dict=none) (hd:o.data=.seq items n) (hsz:items.size<=sizeLine)
  (hQ:∀ h' o' n',h'.get? l=some o'->o'.cls=.type "list"/\o'.dict=none->o'.data=.seq (items.push x) n'->SameBut l s.heap h'->Q .none { s with heap:=h' }):GM prog w A (call (.builtin "list.append") [.ref l,x]) Q E s:=by
 obtain ⟨n',F6⟩:=Obj.data_mapSeq hd (·.push x);refine wpAny_call_entry slot_list_append ⟨o,ho,hc.1⟩ entry_list_append ?_ (args_list_append _ _);refine (?_:wpAny _ _ (updateSeq l (·.push x) >>= fun U=>ret .none) _ _ s);exact zC1 (wpAny_updateSeq ho hd (zC2 ⟨.none,rfl,hQ _ _ n' (get?_update_self _ ho (Obj.isFreed_of_seq F6)) ⟨(Obj.cls_mapSeq ..).trans hc.1,(g6 ..).trans hc.2⟩ F6 (SameBut.update ..)⟩))
structure Chg (Φ:Ct) (s:Shared) (a:Addr) (h':Heap):Prop where
 kp:∀ b o,b≠a->s.heap.get? b=some o->h'.get? b=some o
 lv:aL h' a
theorem Chg.live (c:Chg Φ s a h'):∀ b,aL s.heap b->aL h' b:=(by rintro b ⟨o,e⟩; exact (Classical.em (b=a)).elim (fun q=>q▸c.lv) fun n=>⟨o,c.kp b o n e⟩)
theorem Chg.mapK (c:Chg Φ s a h') (q:Φ.own a):bK Φ.bad Φ.bad s.heap h':=fun b o e n=>⟨n,c.kp b o (fun z=>n (.inr (z▸q))) e⟩
def pI {E:GE} {Q:GE} (q:Φ.own a) (ow:OwnLAt Φ.fx.g Φ.bad s.heap a l) (r:Φ.rp s.heap v x) (hz:l.length < af) (h:∀ h',Chg Φ s a h'->OwnLAt Φ.fx.g Φ.bad h' a (l++[x])->Q .none { s with heap:=h' }):wpAny (model Φ.fx.g.prog Φ.fx.g.w) Φ.fx.A (call (.builtin "list.append") [.ref a,v]) Q E s:=by
 obtain ⟨o,vs,m,ho,hc,F6,hl⟩:=ow;refine ux ho hc F6 (bF (by rw [aN hl]; exact le_of_lt hz)) fun h' o' n' Gj GL Jz hs=>?_;have c:Chg Φ s a h':=⟨fun b o n e=>hs.extBut b o n e,_,Gj⟩;exact h h' c ⟨o',_,n',Gj,GL,Jz,by rw [toList_push]; exact (hl.map (c.mapK q)).append (.cons (r.map (c.mapK q)) .nil)⟩
def lV (h:Φ.oa k=oak):(Φ.put k oak sl).bad=Φ.bad:=by
 have eo:(Φ.put k oak sl).oa=Φ.oa:=funext fun j=>(Classical.em (j=k)).elim (fun e=>(NP e).trans (e▸h.symm)) fun e=>NQ e;unfold Ct.bad Ct.own;rw [eo]; rfl
theorem Inv.chg (I:Inv Φ s) (c:Chg Φ s a h') (ha:Φ.oa k=[[a]]) (pr:ay s.heap (Φ.fx.pl k) (some u)) (so:bz Φ.fx.g Φ.bad h' [[a]] (some u) sl) (hi:¬ isI sl) (ID:sl≠.unset) (H1:∀ o,sl≠.obj o):Inv (Φ.put k [[a]] sl) { s with heap:=h',toks:=tk }/\Tr Φ s (Φ.put k [[a]] sl) { s with heap:=h',toks:=tk }:=
 Inv.upd (s':={ s with heap:=h',toks:=tk }) I rfl rfl pr (fun b o n e=>c.kp b o (fun q=>n (by rw [ha,q]; exact .head _)) e) c.live (fun b m=>.inl (by rw [ha]; exact m)) (by rw [lV ha]; exact so) (fun q=>absurd q hi) ID fun o e=>absurd e (H1 o)
def um {d:Gs->DV} (hx:fx.ρ.lookup n=some k) (hn:aP n=true) (hp:aq e=true) (FV:(FZ.endLine==pos.line)=true) (h:∀ oa G,Ev ⟨fx,oa,G⟩ (eval e fx.env) (d G)) :
  ExB fx (exec (.Expr (.Call (.Attribute (.Name n np) "append" FZ) [e] [] pos) spos) fx.env) (fun G K=>okK (dJ G k) fun l=>d G fun x=>l.length < af/\K none (G.set k (.ownL (l++[x])))):=fun oa G K s hd I E=>ae hd fun l el hd=>by
 refine wpAny_Expr ?_ I.quiet rfl;obtain ⟨a,ha,pr,ow⟩:=lX (Φ:=⟨fx,oa,G⟩) I (fY el);have FX:(Ct.mk fx oa G).own a:=.inr ⟨k,by rw [ha]; exact .head _⟩;refine wpAny_Call_method (T:="list") (id:="list.append") (aQ rfl) ?_ FV PySem.F.plainAttrs_list slot_list_append type_list_append (bq (Φ:=⟨fx,oa,G⟩) I.ok hx hn pr ⟨ow.casesOn fun o U U ho hc U U=>⟨o,ho,hc.1⟩,fun a q=>by cases q; exact ow.casesOn fun o U U ho hc U U=>⟨o,ho,hc.2⟩,?_⟩ _)
 ·rw [aF hp]; rfl
 refine callWith_builtin (by rw [aF hp]; rfl) ?_;refine cm (Φ:=⟨fx,oa,G⟩) (qs:=[(e,d G)]) (K:=fun xs=>okK (one xs some) fun x=>l.length < af/\K none (G.set k (.ownL (l++[x])))) (fun q m=>by cases zA6 m; exact ⟨hp,h oa G⟩) hd I fun ws xs s₁ FM FQ hx rs=>ae hx fun x e hk=>?_;refine cJ (Φ:=⟨fx,oa,G⟩) (C:=fun ws=>wpAny _ _ (call (.builtin "list.append") ([.ref a]++ws) []) _ _ s₁) e rs fun w y r e=>?_;cases e
 refine pI (Φ:=⟨fx,oa,G⟩) FX (ow.map FQ.mapK fun o e=>FQ _ o e) r hk.1 fun h' c Iu=>?_;have q:=Inv.chg (Φ:=⟨fx,oa,G⟩) (sl:=.ownL (l++[x])) (tk:=s₁.toks) FM c ha (pr.keep FQ) ⟨a,rfl,rfl,Iu⟩ id nofun nofun;exact .next (Φ:=⟨fx,oa,G⟩) q.1 ((Tr.of_keeps FQ).trans q.2) hk.2
end
section
variable {Φ:Ct}
def qL {fp pos:Pos} {e:Expr} {d:DV} (hx:bW Φ.fx.env.scope.names "tuple"=true) (hp:aq e=true) (h:Ev Φ (eval e Φ.fx.env) d):Ev Φ (eval (.Call (.Name "tuple" fp) [e] [] pos) Φ.fx.env) (fun K=>br [d] fun xs=>okK (opN .tupleOf xs) K):=
 pq (op:=opN .tupleOf) (qs:=[(e,d)]) hx rfl (.inr ⟨_,rfl⟩) (fun q m=>by obtain rfl:=zA6 m; exact ⟨hp,h⟩) fun s vs xs z I rs e=>cJ (C:=fun vs=>Φ.wp (call (.type "tuple") vs) (Φ.Gives s z) s) e rs fun v x r e=>cD (C:=fun x=>Φ.rp s.heap v x->Φ.wp (call (.type "tuple") [v]) (Φ.Gives s z) s) e (fun l e r=>fit_elim e fun hz=>r.list_elim fun a o vs n U ha hc hd hl E=>call_tuple_list ⟨_,ha,hc.1,_,hd⟩ (fun h' hk=>by
   have k2:ao s.heap (h'.push { cls:=.type "tuple",data:=.seq vs }):=fun b o e=>Q4 _ (hk b o e);refine ⟨jL (tk:=s.toks) k2,.tuple (fun q=>?_) (Q2 _ rfl) rfl rfl (hl.keep k2)⟩;obtain ⟨o',e'⟩:=I.badLive q;exact al (ak _) (hk _ _ e')) (by rw [aN hl]; exact bF hz)) r
end
def dX (ds:List D) (G:Gs):bj ds G=br (ds.map (· G)):=by
 induction ds with
 | nil=>rfl
 | cons d r ih=>exact funext fun f=>NO (d G) (funext fun x=>congrFun ih fun xs=>f (x :: xs))
def gV (b:Bool) (ds:List D) (G:Gs):cp b ds G=pJ b (ds.map (· G)):=by
 induction ds with
 | nil=>rfl
 | cons d r ih=>exact funext fun f=>NO (d G) (funext fun x=>NO (okK (bY x some)) (funext fun c=>NO (fun z=>if c=b then z else f c) (congrFun ih f)))
section
variable {Φ:Ct} {scope:Scope} {x x':Str}
def mN (hk:fx.env.scope.kind=.function) (h:scope.names.lookup y=some .local):(az fx scope C x x' X).env.kindOf y≠some .free:=by
 show (relabel scope fx.env).names.lookup y≠_
 rw [cO hk,relab_lookup,h]; exact nofun
def Dg (c:CompOk Φ.fx scope x x'):nS Φ scope (.Name x py) x x' (jZ Φ.fx.nf):=by
 refine ⟨fun G y G₁ z e=>by (injection e with e; subst e); exact NO some (set_set ..),fun C X G G₁ v y s hk Hz I e r E=>?_⟩;(injection e with e; subst e);refine LT (AJ (Φ:=⟨az Φ.fx scope C x x' X,Φ.oa,G⟩) (k:=Φ.fx.nf) ⟨by refine (?_:((x,Φ.fx.nf) :: _).lookup x=_); rw [lookup_cons,NJ],mN hk c.loc⟩ I r E) (fun U s' q=>?_) fun U U z=>z;obtain ⟨I',_,k'⟩:=q;rw [vB (Φ:=⟨az Φ.fx scope C x x' X,Φ.oa,G⟩) (Hz _ (le_refl _))] at I';refine ⟨I',fun b o n e=>k' b o e fun q=>n ?_⟩;have q:(cpl Φ.fx C x x' Φ.fx.nf).addr=some b:=q;unfold cpl at q;rw [NP rfl] at q;(injection q with q; subst q); rfl
def BD (h:fx.nf<=k) (ho:fx.pl k=.off) (q:(cpl fx C x x' k).addr=some b):b=C:=by
 rcases cpl_c fx C x x' k with ⟨_,e⟩ | ⟨_,_,e⟩ | ⟨_,e⟩ | e <;> rw [e] at q
 ·(injection q with q; subst q); rfl
 ·(injection q with q; subst q); rfl
 ·(injection q; done)
 ·rw [ho] at q; (injection q; done)
def Fu {G:Gs} {k:Nat} (a b c d:Slot):(((G.set k a).set (k+1) b).set k c).set (k+1) d=(G.set k c).set (k+1) d:=by
 rw [List.set_comm _ _ (succ_ne_self k),set_set,set_set]
def Df {kk:Nat} {p p1 p2:Pos} (c:CompOk Φ.fx scope x x') (Gc:x'≠x) (ho:∀ k,Φ.fx.nf<=k->Φ.fx.pl k=.off):nS Φ scope (.Tuple [.Name x p1,.Name x' p2] kk p) x x' (aJ [Φ.fx.nf,Φ.fx.nf+1]):=by
 refine ⟨fun G y G₁ z e=>?_,fun C X G G₁ v y s hk Hz I e r E=>?_⟩
 ·refine fB (C:=fun U G₁=>aJ [Φ.fx.nf,Φ.fx.nf+1] G₁ z=aJ [Φ.fx.nf,Φ.fx.nf+1] G z) e fun xs hl=>?_;obtain ⟨a,b,rfl⟩:∃ a b,xs=[a,b]:=by
   rcases xs with _ | ⟨a,_ | ⟨b,_ | _⟩⟩ <;> cases hl
   exact ⟨a,b,rfl⟩
  cases z with
  | tuple zs=>
   rcases zs with _ | ⟨c,_ | ⟨d,_ | _⟩⟩ <;> try rfl
   exact NO some (Fu (.v a) (.v b) (.v c) (.v d))
  | _=>rfl
 ·have hb:(x'==x)=false:=by cases q:x'==x with | false=>rfl | true=>exact absurd (Id q) Gc
  refine LT (AI (Φ:=⟨az Φ.fx scope C x x' X,Φ.oa,G⟩) (ks:=[Φ.fx.nf,Φ.fx.nf+1]) (.cons ⟨?_,mN hk c.loc⟩ (.cons ⟨?_,mN hk c.loc'⟩ .nil)) I e r E) (fun U s' q=>?_) fun U U z=>z
  ·show ((x,Φ.fx.nf) :: _).lookup x=_; rw [lookup_cons,NJ]
  ·show ((x,Φ.fx.nf) :: (x',Φ.fx.nf+1) :: _).lookup x'=_; rw [lookup_cons,hb]; show lookup x' ((x',Φ.fx.nf+1) :: _)=_; rw [lookup_cons,NJ]
  ·obtain ⟨I',_,k'⟩:=q;have eo:offs [Φ.fx.nf,Φ.fx.nf+1] Φ.oa=Φ.oa:=funext fun j=>by
    show (if j=Φ.fx.nf+1 then [] else if j=Φ.fx.nf then [] else Φ.oa j)=_
    by_cases h:j=Φ.fx.nf+1
    ·rw [NP h,h,Hz _ (le_succ _)]
    ·rw [NQ h];by_cases h':j=Φ.fx.nf
     ·rw [NP h',h',Hz _ (le_refl _)]
     ·rw [NQ h']
   rw [eo] at I';refine ⟨I',fun b o n e=>k' b o e fun j m q=>n ?_⟩;rcases mem_cons.mp m with rfl | m
   ·exact BD (le_refl _) (ho _ (le_refl _)) q
   ·cases zA6 m
    exact BD (le_succ _) (ho _ (le_succ _)) q
end
section
variable {Φ:Ct} {s FO:Shared} {scope:Scope} {x x':Str}
theorem CompEnd.rp {K:List V->Prop} {D C:Addr} {s':Shared} (FY:Inv Φ FO) (ce:CompEnd Φ FO K D C s'):∃ ys,K ys/\Rp Φ.fx.g (fun b=>Φ.bad b\/b=C) s'.heap (.ref D) (.list ys):=by
 obtain ⟨m,ys,B,kx,GV,JA,I9,hn,ky,vs,⟨c,hP⟩,rp⟩:=ce;exact ⟨ys,ky,.list (fun q=>q.elim (fun q=>(FY.badLive q).elim fun o e=>al JA e) I9) hP ⟨rfl,rfl⟩ rfl rp⟩
def ta {b:Gs->V->Option Gs} {ds:(List V->Prop)->Prop} (c:CompOk Φ.fx scope x x') (hT:nS Φ scope T x x' b) (HC:bw iter=true) (Hh:eI Φ T false iter ds)
  (HJ:∀ C X oa G,Ev ⟨az Φ.fx scope C x x' X,oa,G⟩ (eval Gb (az Φ.fx scope C x x' X).env) (de G))
  (GS:∀ C X oa G,EvT ⟨az Φ.fx scope C x x' X,oa,G⟩ (dI ifs (az Φ.fx scope C x x' X).env) (cp true ts G)) :
  Ev Φ (eval (.ListComp Gb [⟨T,iter,ifs,0⟩] scope pos) Φ.fx.env) (fun K=>ds fun xs=>jk de ts b Φ.G xs fun ys=>K (.list ys)):=fun K s hd I E=>by
 rw [eval_ListComp];refine wpAny_comprehension_free (use:=none) rfl (gT HC) (jm c.cells) c.kind c.names (Hh _ s hd I _ _ fun l FO it FN kl FY k₀ gr fa=>lm (RR:=fun acc C=>compPost _ Φ.fx.A E none (Post Φ Φ.rp s K) acc C) c FY gr fa HJ GS hT kl fun D C s' ce=>?_);obtain ⟨ys,ky,rp⟩:=ce.rp FY;obtain ⟨m,_,B,kx,GV,_,_,hn,_⟩:=ce;have h0:Φ.fx.g.h0.get? C=none:=aK (fun l=>FY.base.stays.live l) GV;exact ⟨m,hn,fun h' hs=>⟨⟨fun b o e=>hs.extBut b o (fun q=>al h0 (q▸e)) (B.stays b o e),B.os,B.gens⟩,fun b o e=>hs.extBut b o (fun q=>al GV (q▸k₀ b o e)) ((k₀.trans kx) b o e),_,ky,rp.map fun b o e n=>⟨fun q=>n (.inl q),hs.extBut b o (fun q=>n (.inr q)) e⟩⟩⟩
noncomputable def AL (sc:List (Str×NameKind)) (scope:Scope) (y:Str) (py vp:Pos):Bool:=sc.lookup y==some .local&&py.line==vp.line&&!(scope.names.any fun (n,k)=>n==y&&(k==.local||k==.cell))
def rO {fx:Fx} {Gb:Expr} {gens:List Comprehension} {pos py:Pos} {y:Str} {n:Nat} (hk:fx.env.scope.kind=.function):swapsWith (.ListComp Gb gens scope pos) (some (.Name y py)) n fx.env=pure (AL fx.env.scope.names scope y py pos):=by
 have hb:(fx.env.blockKind==ScopeKind.function)=true:=by unfold Env.blockKind; rw [hk]; rfl
 refine (?_:(pure (fx.env.blockKind==ScopeKind.function&&_&&_&&_):Sem Bool)=_);rw [hb];rfl
def iA {fx:Fx} {Gb iter T:Expr} {b:Gs->V->Option Gs} {ifs:List Expr} {pos py p' spos:Pos} {y:Str} {k:Nat} {ds:Gs->(List V->Prop)->Prop} {de:D} {ts:List D} (c:CompOk fx scope x x') (hTc:∀ oa G,nS ⟨fx,oa,G⟩ scope T x x' b) (HC:bw iter=true) (Hh:∀ oa G,eI ⟨fx,oa,G⟩ T false iter (ds G))
  (HJ:∀ C X oa G,Ev ⟨az fx scope C x x' X,oa,G⟩ (eval Gb (az fx scope C x x' X).env) (de G))
  (GS:∀ C X oa G,EvT ⟨az fx scope C x x' X,oa,G⟩ (dI ifs (az fx scope C x x' X).env) (cp true ts G)) (hT:TgtOk fx.ρ fx.env y k) :
  ExB fx (exec (.Assign [.Name y p'] (.ListComp Gb [⟨T,iter,ifs,0⟩] scope pos) spos) fx.env) (fun G K=>ds G fun xs=>jk de ts b G xs fun ys=>K none (G.set k (.v (.list ys)))):=fun oa G K s hd I E=>by
 cases LC:AL fx.env.scope.names scope y p' pos with
 | false=>exact li (fx:=fx) (d:=fun G K=>ds G fun xs=>jk de ts b G xs fun ys=>K (.list ys)) (by rw [rO I.ok.kind,LC]) hT (fun oa G=>ta (Φ:=⟨fx,oa,G⟩) c (hTc oa G) HC (Hh oa G) HJ GS) oa G K s hd I E
 | true=>
  rw [exec_Assign_Name_used _ _ _ _ ((rO I.ok.kind).trans (by rw [LC]))];refine (bSt (zC1 ?_))
  show wpAny _ _ (do let _ <- comprehension (.ListComp Gb [⟨T,iter,ifs,0⟩] scope pos) scope fx.env _ (newList []) false (eval iter fx.env) (some (assign (.Name y p') fx.env))) _ _ s
  refine zC1 (LT (wpAny_comprehension_free (use:=some (assign (.Name y p') fx.env)) (Q:=fun U s'=>PostS ⟨fx,oa,G⟩ s K .next s') (E:=E) rfl (gT HC) (jm c.cells) c.kind c.names ?_) (fun U s' hq=>zC2 (wpAny_pure hq)) fun U U z=>z);refine Hh oa G _ s hd I _ _ fun l FO it FN kl FY k₀ gr fa=>lm (Φ:=⟨fx,oa,G⟩) (RR:=fun acc C=>compPost _ fx.A E (some (assign (.Name y p') fx.env)) (fun U s'=>PostS ⟨fx,oa,G⟩ s K .next s') acc C) c FY gr fa HJ GS (hTc oa G) kl fun D C s' ce=>?_;obtain ⟨ys,ky,rp⟩:=ce.rp FY;obtain ⟨m,_,B,kx,GV,_,_,hn,_⟩:=ce;have h0:fx.g.h0.get? C=none:=aK (fun l=>FY.base.stays.live l) GV;have MP:aL s'.heap C:=by obtain ⟨o,_,_,e,_⟩:=hn; exact ⟨o,e⟩
  have I':Inv ((Ct.mk fx oa G).mo (·=C)) s':=FY.more B kx (fun b q=>q▸GV) fun b q=>q▸MP
  show wpAny _ _ (assign (.Name y p') fx.env (.ref D)) _ _ _
  refine LT (AJ (Φ:=(Ct.mk fx oa G).mo (·=C)) hT I' (rp.map fun b o e n=>⟨fun q=>n (q.elim (fun q=>q.elim (fun q=>.inl (.inl q)) .inr) fun q=>.inl (.inr q)),e⟩) _) (fun U Gr Ii=>?_) fun U U z=>z;obtain ⟨I5,t5,k5⟩:=Ii;have hpC:(fx.pl k).addr≠some C:=fun q=>(FY.new C (.inl ⟨k,q⟩)).1.elim fun o e=>al GV e;refine ⟨m,hn.at' fun o e=>k5 C o e hpC,fun h' hs=>?_⟩;have kC:∀ b o,b∉[C]->Gr.heap.get? b=some o->h'.get? b=some o:=fun b o n e=>hs.extBut b o (fun q=>n (by rw [q]; exact .head _)) e;have I6:=Inv.others (tk:=Gr.toks) (Φ:=((Ct.mk fx oa G).mo (·=C)).put k [] (.v (.list ys))) (Mo₂:=fx.Mo) I5 kC (fun b m=>by cases zA6 m; exact .inr rfl) (fun b m=>by cases zA6 m; exact h0) (fun a q=>.inl q)
   fun a q=>(I5.mo a (.inl q)).elim fun o e=>⟨o,hs.extBut a o (fun z=>(FY.mo a q).elim fun o e=>al GV (z▸e)) e⟩
  have t6:Tr ⟨fx,oa,G⟩ FO ((Ct.mk fx oa G).put k [] (.v (.list ys))) Gr:=(Tr.of_keeps kx).trans (Tr.mo (Φ:=⟨fx,oa,G⟩) (Φ':=(Ct.mk fx oa G).put k [] (.v (.list ys))) (X:=(·=C)) rfl t5);exact .next (Φ:=⟨fx,oa,G⟩) I6 ((Tr.of_keeps k₀).trans (Tr.others (tk:=Gr.toks) FY t6 kC fun b m=>by cases zA6 m; exact GV)) ky
end
section
variable {Φ:Ct} {s:Shared} {v u:Value} {x y z:V} {d d1 d2 d3:DV}
def jn {γ δ:Type} {R:Heap->γ->δ->Prop} {K:δ->Prop} {K₁:Bool->Prop} {fin stop:Value->Sem γ} (hs:bw c=true) (h1:Ev Φ (eval a Φ.fx.env) d1) (h2:Ev Φ (eval b Φ.fx.env) d2) (h3:Ev Φ (eval c Φ.fx.env) d3)
  (MF:∀ s b,Inv Φ s->K₁ b->Φ.wp (fin (.bool b)) (Post Φ R s K) s) (KB:∀ s,Inv Φ s->K₁ false->Φ.wp (stop (.bool false)) (Post Φ R s K) s)
  (hd:d1 fun x=>d2 fun y=>okK (aO .LtE x y) fun t=>if t=true then d3 fun z=>okK (aO o y z) K₁ else K₁ false) (I:Inv Φ s):Φ.wp (do
  let x <- eval a Φ.fx.env
  let y <- holding [x] (eval b Φ.fx.env)
  standAt pos
  let t <- holding [x,y] (compareOp .LtE x y)
  release [x,y] [t]
  if <- holding [t,y] (truthy t) then (do
   let z <- holding [y] (markedBehindIn o c (eval c Φ.fx.env))
   standAt pos
   let u <- operate [y,z] (compareOp o y z)
   fin u) else stop t) (Post Φ R s K) s:=by
 rw [iW hs];refine h1.bind hd I fun v x s₁ FM FQ hx r1=>h2.holding.bind hx FM fun u y FN FU F4 hy r2=>a8 ?_;refine ae hy fun t e kt E=>zC1 (NN (LT (rk (o:=.LtE) (c:=t) e FU (r1.keep F4) r2 E) (fun w s' q=>?_) fun U U z=>z));obtain ⟨gr,rfl⟩:=q;have Je:=FU.keep (FU.base.grown gr) gr.keeps;refine zC1 (bv (zC1 (NN (wpAny_truthy_bool ?_))));refine LT (?_:wpAny _ _ _ (Post Φ R s' K) E s') (fun U U p=>p.lift gr.keeps) fun U U z=>z;cases t with
 | false=>exact KB _ Je kt E
 | true=>exact h3.holding.bind kt Je (fun w z Gi Gv Mb hz r3=>ae hz fun c e kc=>a8 fun E=>zC1 (dz (fun E'=>LT (rk (o:=o) e Gv ((r2.keep gr.keeps).keep Mb) r3 E') (fun w s' q=>by obtain ⟨gr,rfl⟩:=q; exact LT (MF _ _ (Gv.keep (Gv.base.grown gr) gr.keeps) kc E) (fun U U p=>p.lift gr.keeps) fun U U z=>z) fun U U z=>z) E)) E
def wx (hs:bw c=true) (h1:Ev Φ (eval a Φ.fx.env) d1) (h2:Ev Φ (eval b Φ.fx.env) d2) (h3:Ev Φ (eval c Φ.fx.env) d3) :
  Ev Φ (eval (.Compare a [.LtE,o] [b,c] pos) Φ.fx.env) (fun K=>d1 fun x=>d2 fun y=>okK (aO .LtE x y) fun t=>if t=true then d3 fun z=>okK (aO o y z) fun u=>K (.bool u) else K (.bool false)):=fun K s hd I=>by
 have q:=jn (o:=o) (pos:=pos) (fin:=pure) (stop:=pure) (R:=Φ.rp) (K:=K) hs h1 h2 h3 (fun s b I k=>EvR.pure I k (.bool b)) (fun s I k=>EvR.pure I k (.bool _)) hd I;simp only [bind_pure] at q;exact q
def pY (hs:bw c=true) (h1:Ev Φ (eval a Φ.fx.env) d1) (h2:Ev Φ (eval b Φ.fx.env) d2) (h3:Ev Φ (eval c Φ.fx.env) d3) :
  EvT Φ (isTrue (.Compare a [.LtE,o] [b,c] pos) Φ.fx.env w) (fun K=>d1 fun x=>d2 fun y=>okK (aO .LtE x y) fun t=>if t=true then d3 fun z=>okK (aO o y z) fun u=>K u else K false):=fun K s hd I=>
 jn (o:=o) (pos:=pos) (fin:=fun c=>holding [c] (truthy c)) (stop:=fun U=>pure false) (R:=fun U=>Eq) (K:=K) hs h1 h2 h3 (fun s b I k E=>NN (wpAny_truthy_bool ⟨I.base,.refl _,b,k,rfl⟩)) (fun s I k=>EvR.pure I k rfl) hd I
def jN {dd:V->Prop} {K:V->Prop} (hx:bW Φ.fx.env.scope.names f=true) (hF:bD.lookup f=some F) (hk:(∃ id,F=.builtin id)\/∃ T,F=.type T) (hp:aq e=true) (h:Ev Φ (eval e Φ.fx.env) d)
  (st:∀ s v x E,Inv Φ s->Φ.rp s.heap v x->dd x->wpAny (model Φ.fx.g.prog Φ.fx.g.w) Φ.fx.A (call F [v]) (gx Φ s K) E s) (hd:d dd) (I:Inv Φ s):Φ.wp (eval (.Call (.Name f fp) [e] [] pos) Φ.fx.env) (gx Φ s K) s:=fun E=>by
 refine (?_:wpAny _ _ (eval (.Name f fp) Φ.fx.env >>= fun F=>callWith pos F [] (backTo pos (starEach [e] Φ.fx.env)) []) _ _ s);refine zC1 (cL I hx hF ?_ E);have JV:(backTo pos (starEach [e] Φ.fx.env)).any (·.1)=false:=by rw [aF hp]; rfl
 have main:wpAny (model Φ.fx.g.prog Φ.fx.g.w) Φ.fx.A (evalArgs F true (backTo pos (starEach [e] Φ.fx.env)) []) (fun a s₁=>wpAny (model Φ.fx.g.prog Φ.fx.g.w) Φ.fx.A (call F ([]++a.pos) a.kw) (gx Φ s K) E s₁) E s:=
  cm (qs:=[(e,d)]) (K:=fun xs=>okK (one xs some) dd) (fun q m=>by obtain rfl:=zA6 m; exact ⟨hp,h⟩) hd I fun vs xs s₁ FM FQ hx rs=>ae hx fun x e hx=>cJ (C:=fun vs=>wpAny _ _ (call F ([]++vs) []) _ _ s₁) e rs fun v x' r e=>by
   (injection e with e; subst e);exact LT (st s₁ v _ E FM r hx) (fun U U p=>p.lift FQ) fun U U z=>z
 rcases hk with ⟨id,rfl⟩ | ⟨T,rfl⟩
 ·exact callWith_builtin JV main
 ·exact PySem.callWith_type JV main
def y9 {vs:List Value} {ns:List Int} (z:IntsAre vs ns):Φ.rps h vs (ns.map .int):=by
 induction z with
 | nil=>exact .nil
 | cons n t hr ih=>exact .cons (.int n t) ih
def un (hx:bW Φ.fx.env.scope.names "sorted"=true) (hp:aq e=true) (h:Ev Φ (eval e Φ.fx.env) d) :
  EvN Φ (eval (.Call (.Name "sorted" fp) [e] [] pos) Φ.fx.env) (fun K=>d fun x=>okK (gc x eE) fun is=>is.length < 64/\∀ r:List Int,r.Perm is->r.Pairwise (·<=·)->K (.list (r.map .int))):=fun K s hd I=>
 jN hx rfl (.inl ⟨_,rfl⟩) hp h (fun s v x E I r hx=>ae hx fun is e ⟨hz,hK⟩=>by
  refine cD (C:=fun x=>Φ.rp s.heap v x->wpAny _ _ (call (.builtin "sorted") [v]) _ E s) e (fun l e r=>?_) r;refine r.list_elim fun a o vs n U ha hc hd hl=>?_;have hi:=i9 e hl;refine sorted_ints (vs:=vs.toList) ⟨o,ha,hc.1,n,by rw [hd]⟩ hi (by rw [<- hi.nums,zA4] at hz; exact hz) fun out ns' h1 h2 h3=>?_;have k:ao s.heap (sortedAll s.heap vs.toList out):=fun b o e=>sortedAll_old e;obtain ⟨ep,ho⟩:=sortedAll_at s.heap vs.toList out;refine ⟨⟨I.base.grown (jL (tk:=s.toks) k),k,_,hK ns' h2 h3,.list (fun q=>?_) ho ⟨rfl,rfl⟩ rfl (y9 h1)⟩,eB (le_succ _)⟩;obtain ⟨o',e'⟩:=I.badLive q;exact absurd (lt_size e') (not_lt.mpr (le_succ _))) hd I
end
def wB:typeLookup (.type "dict") "__len__"=pure (some (.builtin "dict.__len__")):=by rw [typeLookup_type,builtinLookup_eq_fast]; kernel_rfl
def u2:isSubtype (.type "dict") (.type "dict")=pure true:=by rw [isSubtype_type]; kernel_rfl
section
variable {prog:Program} {w:World} {A:Around} {E:GE} {s:Shared} {I d X:Addr} {od:Obj} {es:Array DictEntry} {ep i:Nat}
def kX {Q:Bool->Shared->Prop} (hT:s.TypeIs (.ref X) "dict") (h:Q false s):GM prog w A (Builtin.List.listLengthHint (.ref X)) Q E s:=by
 unfold Builtin.List.listLengthHint;refine zC1 (wpAny_specialOf hT wB ?_)
 wp_delta
 refine zC1 (wpAny_isInstance hT u2 ?_);refine (?_:wpAny _ A (typeOf (Value.ref X) >>= _) _ _ _);exact zC1 (wpAny_typeOf hT (wpAny_pure h))
def vT {Q:GE} {T:String} {vals:List Value} (hh:A.handled=none) (hT:T="set"\/T="dict_values"\/T="dict") (hX:X≠s.heap.objs.size) (hTy:∀ s':Shared,ao s.heap s'.heap->s'.TypeIs (.ref X) T)
  (GK:∀ (s':Shared) (Q:Bool->Shared->Prop) (E:GE),ao s.heap s'.heap->Q false s'->GM prog w A.in1.in1 (Builtin.List.listLengthHint (.ref X)) Q E s') (hz:vals.length<=sizeLine)
  (it:∀ (s':Shared) (Q:GE) (E:GE),ao s.heap s'.heap->s'.heap.objs.size≠s.heap.objs.size->(∀ fp St h',(∀ b∈fp,b=s'.heap.objs.size\/aL s.heap b)->ao s'.heap h'->Walks prog w A.in1.in1 s'.heap.objs.size fp [s'.heap.objs.size] vals.length (fun i v=>vals[i]?=some v) St->St 0 h'->Q (.ref s'.heap.objs.size) { s' with heap:=h' })->GM prog w A.in1.in1 (pyIter (.ref X)) Q E s')
  (h:∀ h' dr tk c',ao s.heap h'->h'.get? s.heap.objs.size=some { cls:=.type "list",dict:=none,data:=.seq vals.toArray c',slots:=#[] }->Q (.ref s.heap.objs.size) { s with heap:=h',drawn:=dr,toks:=tk }):GM prog w A (call (.type "list") [.ref X]) Q E s:=by
 refine callType_codes (Q₁:=fun obj s₁=>obj=.ref s.heap.objs.size/\s₁={ s with heap:=s.heap.push { cls:=.type "list",data:=.seq #[] } }) PySem.F.called_list (PySem.F.typeCall_list_1 _) PySem.F.entry_list_init (code_list_new _ ⟨rfl,rfl⟩) fun obj s₁ Gf=>?_;obtain ⟨rfl,rfl⟩:=Gf;have hS:(s.heap.push { cls:=.type "list",data:=.seq #[] }).get? s.heap.objs.size=some { cls:=.type "list",data:=.seq #[] }:=Q2 _ rfl;refine ⟨⟨_,hS,rfl⟩,PySem.F.args_list_init_2 _ _,?_⟩;refine (?_:wpAny _ A.in1.in1 (do let old <- Builtin.List.listItems (.ref s.heap.objs.size); Builtin.List.listUpdate (.ref s.heap.objs.size) (fun U=>#[]); letGo old.toList.reverse; Builtin.List.listExtendWith (.ref s.heap.objs.size) (.ref X) .none) _ _ _);refine zC1 (listItems_at hS rfl (zC1 (listUpdate_at hS rfl ?_)));have LP:=get?_update_self (mapSeq (fun U=>(#[]:Array Value))) hS rfl;have k1:ao s.heap ((s.heap.push { cls:=.type "list",data:=.seq #[] }).update s.heap.objs.size (mapSeq fun U=>#[])):=fun b o e=>(get?_update_other _ _ (Ne.symm (aY e))).trans (am _ _ b o e);refine zC1 (wpAny_letGo ?_);refine fw (R:=wants _ _) (C:=fun out=>out=vals) (A:=A.in1) hh LP hX.symm hT (hTy _ k1) (fun s' Q E k hq=>GK s' Q E (k1.trans k) hq) (fun Q E hQ=>?_) fun out h' dr tk c' hC k hD=>?_
 ·refine it { s with heap:=(s.heap.push { cls:=.type "list",data:=.seq #[] }).update s.heap.objs.size (mapSeq fun U=>#[]) } Q E k1 (by refine (?_:((s.heap.push { cls:=.type "list",data:=.seq #[] }).update s.heap.objs.size (mapSeq fun U=>#[])).objs.size≠_); rw [Heap.size_update,size_push]; exact succ_ne_self _) fun fp St h' hf k W st=>hQ _ _ _ _ _ _ s.drawn rfl hz k (fun b m=>by obtain rfl:=zA6 m; exact ak _) (fun m=>?_) W st;rcases hf _ m with q | q
  ·have q:s.heap.objs.size=((s.heap.push { cls:=.type "list",data:=.seq #[] }).update s.heap.objs.size (mapSeq fun U=>#[])).objs.size:=q;rw [Heap.size_update,size_push] at q; exact absurd q (ne_of_lt (lt_succ_self _))
  ·exact q.elim fun o e=>aY e rfl
 ·subst hC;exact ⟨rfl,h h' dr tk c' (fun b o e=>k b o (aY e) (k1 _ _ e)) hD⟩
end
section
variable {Φ:Ct} {s:Shared} {v u:Value} {x y z:V} {d:DV}
def zK (I:Inv Φ s) (hz:FP.length<=af) (q:dkV FP=true) (r:Φ.rp s.heap v (.dict FP)):Φ.wp (call (.type "list") [v]) (fun w s'=>w=.ref s.heap.objs.size/\Φ.Gives s (.list (FP.map (·.1))) w s') s:=fun E=>by
 refine r.dict_elim q fun a o es n hb hm ha hc hd he k1 k2=>?_;have hl:(es.toList.map (·.key)).length=es.size:=by rw [zA4,zB3]
 have hl2:es.size=FP.length:=by have:=k1.length; rwa [hl,zA4] at this
 refine vT (T:="dict") (vals:=es.toList.map (·.key)) I.ok.hand (.inr (.inr rfl)) (aY ha) (fun s' k=>⟨o,k _ _ ha,hc.1⟩) (fun s' Q E k hq=>kX ⟨o,k _ _ ha,hc.1⟩ hq) (by rw [hl,hl2]; exact bF hz) (fun s' Q E k Gc hQ=>?_) fun h' dr tk c' k hD=>⟨rfl,⟨k,rfl,rfl⟩,.list I.fresh hD ⟨rfl,rfl⟩ rfl (k1.keep k)⟩;have W:=fc (prog:=Φ.fx.g.prog) (w:=Φ.fx.g.w) (A:=Φ.fx.A.in1.in1) (I:=s'.heap.objs.size) I.ok.hand (aY (k _ _ ha)) hd;rw [<- hl] at W;exact gQ (beq_eq_false_iff_ne.mpr hm) (k _ _ ha) hc hd (hQ _ _ _ (fun b m=>(mem_cons.mp m).imp id fun m=>by obtain rfl:=zA6 m; exact ⟨o,ha⟩) (am _ _) W ⟨⟨_,Q2 _ rfl,rfl,by rw [hl]; rfl⟩,am _ _ _ _ (k _ _ ha)⟩)
def vU (I:Inv Φ s) (e:Ba x=some l) (r:Φ.rp s.heap v x):Φ.wp (call (.type "list") [v]) (fun w s'=>w=.ref s.heap.objs.size/\Φ.Gives s (.list l) w s') s:=by
 cases x with
 | dict FP=>exact aU (e:(if dkV FP=true then cq FP (FP.map (·.1)) else none)=some l) fun q e=>fit_elim (C:=fun l=>Φ.wp (call (.type "list") [v]) (fun w s'=>w=.ref s.heap.objs.size/\Φ.Gives s (.list l) w s') s) e fun hz=>zK I hz q r
 | list m=>exact sL I (x:=.list m) (e:qo (.list m)=some l) r
 | tuple m=>exact sL I (x:=.tuple m) (e:qo (.tuple m)=some l) r
 | _=>(injection e; done)
def lj (hx:bW Φ.fx.env.scope.names "list"=true) (hp:aq e=true) (h:Ev Φ (eval e Φ.fx.env) d):EvN Φ (eval (.Call (.Name "list" fp) [e] [] pos) Φ.fx.env) (fun K=>d fun x=>okK (opN .listOf [x]) K):=fun K s hd I=>
 jN hx rfl (.inr ⟨_,rfl⟩) hp h (fun s v x E I r hx=>ae hx fun z e kz=>map_elim (C:=fun z=>K z->wpAny _ _ (call (.type "list") [v]) (gx Φ s K) E s) e (fun l e kz=>LT (vU I e r E) (fun w s' q=>⟨⟨I.base.grown q.2.1,q.2.1.keeps,_,kz,q.2.2⟩,q.1▸eB (le_refl _)⟩) fun U U z=>z) kz) hd I
end
section
variable {g:Gl} {bad FR:Addr->Prop} {h h':Heap}
theorem FldsAt.get (r:FldsAt g bad h ws fs F):∀ {j:Nat},fs[j]?=some f->∃ w fa,ws[j]?=some w/\F[j]?=some fa/\FldAt g bad h w f fa:=by
 induction r with
 | nil=>exact fun e=>nN e.symm
 | cons x _ ih=>
  intro j e;cases j with
  | zero=>obtain rfl:=LE e; exact ⟨_,_,rfl,rfl,x⟩
  | succ j=>exact ih e
def qS (h:Heap) (a:Addr):Prop:=∃ o,h.get? a=some o/\o.cls≠.type "tuple"
def rm {o:Obj} (h:o.cls=.type n) (q:n≠"tuple"):o.cls≠.type "tuple":=fun e=>q (Value.type.inj (h.symm.trans e))
theorem OwnLAt.cls (r:OwnLAt g bad h a l):qS h a:=by cases r with | mk o vs n ho hc hd hl=>exact ⟨o,ho,rm hc.1 (by decide)⟩
theorem OwnDAt.cls (r:OwnDAt g bad h a l):qS h a:=by cases r with | mk o es n ho hc hd hk r1 r2=>exact ⟨o,ho,rm hc.1 (by decide)⟩
theorem FldAt.cls (r:FldAt g bad h w f fa):∀ a∈fa,qS h a:=by
 cases r with
 | val x=>exact fun U m=>nM m
 | L x=>exact forall_mem_singleton.mpr x.cls
 | D x=>exact forall_mem_singleton.mpr x.cls
theorem FldsAt.cls (r:FldsAt g bad h ws fs F):∀ a∈F.flatten,qS h a:=by
 induction r with
 | nil=>exact fun U m=>nM m
 | cons x _ ih=>exact fun a m=>(mem_append.mp m).elim (x.cls a) (ih a)
theorem bz.cls (r:bz g bad h oak v sl):∀ a∈oak.flatten,qS h a:=by
 cases sl with
 | ownL l=>obtain ⟨a,rfl,_,x⟩:=r; exact forall_mem_singleton.mpr x.cls
 | ownD l=>obtain ⟨a,rfl,_,x⟩:=r; exact forall_mem_singleton.mpr x.cls
 | ownI o=>obtain ⟨a,F,u,rfl,_,b,od,ws,_,_,_,ho,hf,hl,_⟩:=r; exact zA1 ⟨⟨od,ho,rm hf.1.1 (by decide)⟩,hl.cls⟩
 | obj o=>obtain ⟨u,_,b,a,od,ws,_,_,_,_,_,_,hl,_⟩:=r; exact hl.cls
 | _=>exact fun a m=>by rw [r.1] at m; exact nM m
theorem rY (q:∀ a o,bad a->h.get? a=some o->o.cls=.type "tuple"->FR a):∀ (n:Nat) {v:Value} {x:V},flN n x=true->Rp g FR h v x->Rp g bad h v x
 | 0,v,x,e,r=>by
  cases r with
  | none=>exact .none
  | bool=>exact .bool _
  | int=>exact .int _ _
  | str=>exact .str _ _
  | _=>exact nB e
 | n+1,v,x,e,r=>by
  cases r with
  | none=>exact .none
  | bool=>exact .bool _
  | int=>exact .int _ _
  | str=>exact .str _ _
  | @tuple a o vs m l nb ha hc hd hl=>
   refine .tuple (fun z=>nb (q a o z ha hc)) ha hc hd ?_;exact hl.ind (D:=fun vs l=>l.all (flN n)=true->RpAll g bad h vs l) (fun U=>.nil) (fun v vs x l r U ih e=>have e:=zA2 e; .cons (rY q n e.1 r) (ih e.2)) e
  | _=>exact nB e
end
def oj (G:Gs) (k:Nat):getSlot (fv G) k=E9 (getSlot G k):=by
 unfold getSlot fv;rw [getD_eq_getElem?_getD,getD_eq_getElem?_getD,getElem?_map];cases G[k]? <;> rfl
def lg (e:qC o j=some l):o.fs[j]?=some (.L l):=by
 delta qC at e
 cases q:o.fs[j]? with
 | none=>rw [q] at e; exact nN e.symm
 | some f=>
  rw [q] at e;cases f with
  | L l'=>rw [LE e]
  | _=>exact nN e.symm
def gU (e:mE o j=some l):o.fs[j]?=some (.D l):=by
 delta mE at e
 cases q:o.fs[j]? with
 | none=>rw [q] at e; exact nN e.symm
 | some f=>
  rw [q] at e;cases f with
  | D l'=>rw [LE e]
  | _=>exact nN e.symm
def r8 {p:Pl} (r:ay h p v) (r':ay h p v'):v=v':=by
 cases p with
 | ns a x=>
  obtain ⟨m,⟨o,es,ep,ho,hd,_,hf⟩,hv⟩:=r;obtain ⟨m',⟨o',HK,ep',Gj,F6,_,Jv⟩,Jp⟩:=r';obtain rfl:=LE (ho.symm.trans Gj);replace F6:=hd▸F6; (injection F6 with F6; subst F6);rw [<- hv,<- Jp,<- hf,Jv]
 | cell c=>obtain ⟨o,ho,hd⟩:=r; obtain ⟨o',Gj,F6⟩:=r'; obtain rfl:=LE (ho.symm.trans Gj); have z:=hd.symm.trans F6; injection z
 | off=>exact (r:v=none).trans (r':v'=none).symm
section
variable {Φ:Ct} {s:Shared}
noncomputable def Ct.frz (Φ:Ct):Ct:=⟨Φ.fx,fun U=>[],fv Φ.G⟩
def sU (q:Φ.frz.bad a):Φ.fx.Mo a\/∃ k,(Φ.fx.pl k).addr=some a:=q.imp id fun q=>q.elim id fun q=>q.elim fun U m=>nM m
def CX (I:Inv Φ s) (m:a∈(Φ.oa k).flatten):¬ Φ.frz.bad a/\a≠sysModules:=
 ⟨fun q=>(sU q).elim (I.new a (.inr ⟨k,m⟩)).2.2 fun q=>q.elim fun j q=>I.off k a m j q,I.nsys (.inr ⟨k,m⟩)⟩
def nH:bK Φ.bad Φ.frz.bad h h:=fun b o e n=>⟨fun q=>n ((sU q).imp id .inl),e⟩
theorem Inv.frzd (I:Inv Φ s):Inv Φ.frz s where
 ok:=I.ok
 base:=I.base
 slot:=fun k=>by
  obtain ⟨v,r,so⟩:=I.slot k;refine ⟨v,r,?_⟩;refine (?_:bz Φ.fx.g Φ.frz.bad s.heap [] v (getSlot (fv Φ.G) k));rw [oj];have na:=fun a m=>CX (a:=a) (k:=k) I m;cases e:getSlot Φ.G k with
  | unset=>rw [e] at so; exact ⟨rfl,so.2⟩
  | junk=>rw [e] at so; exact ⟨rfl,so.2⟩
  | v x=>rw [e] at so; obtain ⟨_,u,h1,h2⟩:=so; exact ⟨rfl,u,h1,h2.map nH⟩
  | ownL l=>rw [e] at so; obtain ⟨a,ha,h1,h2⟩:=so; exact ⟨rfl,_,h1,h2.rp nH (na a (by rw [ha]; exact .head _))⟩
  | ownD l=>rw [e] at so; obtain ⟨a,ha,h1,h2⟩:=so; exact ⟨rfl,_,h1,h2.rp nH (na a (by rw [ha]; exact .head _))⟩
  | ownI o=>rw [e] at so; obtain ⟨_,_,u,_,h1,_⟩:=so; exact ⟨rfl,u,h1⟩
  | obj o=>rw [e] at so; obtain ⟨u,rfl,h2⟩:=so; exact h2.slot nH na
 new:=fun a q=>I.new a (q.imp id fun q=>q.elim fun U m=>nM m)
 inj:=fun U U U m=>nM m
 off:=fun U U m=>nM m
 gl:=by refine (?_:(fv Φ.G).length=_); exact (length_map _).trans I.gl
 mo:=I.mo
def lA (I:Inv Φ s) (k:ao s.heap h') (e:flN n y=true) (r:Rp Φ.fx.g Φ.frz.bad h' v y):Rp Φ.fx.g Φ.bad h' v y:=rY (fun a o b ha hc=>by
 rcases b with b | b | ⟨j,b⟩
 ·exact .inl b
 ·exact .inr (.inl b)
 ·obtain ⟨v,_,so⟩:=I.slot j;obtain ⟨o',e',n⟩:=so.cls a b;obtain rfl:=LE ((k _ _ e').symm.trans ha);exact absurd hc n) n e r
def Ak {fx:Fx} {t:Sem Value} {d:Gs->DV} (h:∀ oa G,Ev ⟨fx,oa,G⟩ t (d G)) (oa:Nat->List (List Addr)) (G:Gs):Ev ⟨fx,oa,G⟩ t (fun K=>d (fv G) fun y=>gi y=true/\K y):=fun K s hd I E=>
 LT (h (fun U=>[]) (fv G) _ s hd (Inv.frzd (Φ:=⟨fx,oa,G⟩) I) E) (by rintro v s' ⟨B,k,y,hy,r⟩; exact ⟨B,k,y,hy.2,lA (Φ:=⟨fx,oa,G⟩) I k hy.1 r⟩) fun U U z=>z
def tX (K:Bool->Prop):(fun y=>gi y=true/\okK (bY y some) K)=fun y=>okK (bY y some) K:=funext fun y=>propext ⟨And.right,fun z=>⟨by cases y <;> first | rfl | exact z.elim,z⟩⟩
def tE {fx:Fx} {t:Sem Bool} {d:Gs->DV} (h:∀ oa G,EvT ⟨fx,oa,G⟩ t (tst (d G))) (oa:Nat->List (List Addr)) (G:Gs):EvT ⟨fx,oa,G⟩ t (tst fun K=>d (fv G) fun y=>gi y=true/\K y):=fun K s hd I E=>
 LT (h (fun U=>[]) (fv G) K s (by have z:d (fv G) (fun y=>gi y=true/\okK (bY y some) K):=hd; rw [tX] at z; exact z) (Inv.frzd (Φ:=⟨fx,oa,G⟩) I) E) (by rintro v s' ⟨B,k,y,hy,r⟩; exact ⟨B,k,y,hy,r⟩) fun U U z=>z
def wv {fx:Fx} {t:Sem Value} {d:Gs->DV} (h:∀ oa G,EvN ⟨fx,oa,G⟩ t (d G)) (oa:Nat->List (List Addr)) (G:Gs):Ev ⟨fx,oa,G⟩ t (fun K=>d (fv G) fun y=>yi y=true/\K y):=fun K s hd I E=>
 LT (h (fun U=>[]) (fv G) _ s hd (Inv.frzd (Φ:=⟨fx,oa,G⟩) I) E) (by
  rintro v s' ⟨⟨B,k,y,hy,r⟩,nv⟩;refine ⟨B,k,y,hy.2,?_⟩;cases y with
  | list l=>
   refine Rp.list_elim (C:=fun v=>lB s.heap v->Rp fx.g (Ct.mk fx oa G).bad s'.heap v (.list l)) r (fun a o vs n U ha hc hd hl nv=>.list (fun q=>lt_irrefl a (nv a a rfl (I.badLive q))) ha hc hd ?_) nv;exact hl.ind (D:=fun vs l=>l.all gi=true->RpAll fx.g (Ct.mk fx oa G).bad s'.heap vs l) (fun U=>.nil) (fun v vs x l r U ih e=>have e:=zA2 e; .cons (lA (Φ:=⟨fx,oa,G⟩) I k e.1 r) (ih e.2)) hy.1
  | _=>exact nB hy.1) fun U U z=>z
end
section
variable {Φ:Ct} {s:Shared}
def jD {E:GE} {Q:Unit->Shared->Prop} (I:Inv Φ s) (q:Φ.own a) (ow:OwnDAt Φ.fx.g Φ.bad s.heap a l) (hx:aZ x=true) (rx:Φ.rp s.heap vx x) (ry:Φ.rp s.heap v y) (hz:l.length < af) (h:∀ h' tk,Chg Φ s a h'->OwnDAt Φ.fx.g Φ.bad h' a (cX l x y)->Q () { s with heap:=h',toks:=tk }):wpAny (model Φ.fx.g.prog Φ.fx.g.w) Φ.fx.A (setItem (.ref a) vx v) Q E s:=by
 obtain ⟨c,rfl⟩:=gE rx hx;obtain ⟨xs,D,En⟩:=DAt.dk ow;refine @wpAny_setItem_heap _ _ V dG (eQ Φ.fx.g.prog Φ.fx.g.w) _ _ _ _ _ _ _ _ _ I.room3 (KIs.of hx rx) D (fun h' D' sb=>?_) (bF (by rw [En.length]; exact le_of_lt hz));have lv:aL h' a:=by obtain ⟨o,_,_,e,_⟩:=D'; exact ⟨o,e⟩
 have c:Chg Φ s a h':=⟨fun b o n e=>sb.extBut b o n e,lv⟩;have mk:=c.mapK q;exact h h' _ c (DAt.of D' ((En.map mk).put hx (rx.map mk) (ry.map mk)))
end
section
variable {fx:Fx}
def Af (hT:TgtOk fx.ρ fx.env n k):ExB fx (exec (.Assign [.Name n py] (.Dict [] [] pos) spos) fx.env) (fun G K=>K none (G.set k (.ownD []))):=fun oa G K s hd I E=>by
 rw [exec_Assign_Name _ _ _ _ _ (bg rfl)];refine zC1 (wpAny_standAt (zC1 (wpAny_Dict_empty ?_)));have gr:=Grown.push s { cls:=.type "dict",data:=.dict #[] } s.toks;have hD:s.heap.get? s.heap.objs.size=none:=ak _;refine zC1 (wpAny_standAt (zC1 (wpAny_bindName (lU (oak:=[[s.heap.objs.size]]) (sl:=.ownD []) hT I (I.base.grown gr) gr.keeps (fun a m=>by obtain rfl:=zA6 m; exact ⟨hD,_,Q2 _ rfl⟩) nofun id (fun q=>q.elim) (fun h' kp=>?_) (fun s' I' t'=>zC2 (.next I' t' hd)) _))));have nb:¬ (Ct.mk fx oa G).own s.heap.objs.size:=fun q=>I.fresh (.inr q);exact ⟨_,rfl,rfl,_,#[],0,kp _ _ (Q2 _ rfl) nb,⟨rfl,rfl,rfl⟩,rfl,⟨rfl,nodup_nil,rfl⟩,.nil,.nil⟩
def Ac {n:Str} {k:Nat} {np sp spos:Pos} {ei ev:Expr} {d1 d2:Gs->DV} (hx:fx.ρ.lookup n=some k) (hn:aP n=true) (hs:b8 ev=true) (h1:∀ oa G,Ev ⟨fx,oa,G⟩ (eval ev fx.env) (d1 G)) (h2:∀ oa G,Ev ⟨fx,oa,G⟩ (eval ei fx.env) (d2 G)) :
  ExB fx (exec (.Assign [.Subscript (.Name n np) ei sp] ev spos) fx.env) (fun G K=>okK (iT G k) fun l=>d1 G fun y=>d2 G fun x=>okK (if (aZ x&&decide (l.length < af))=true then some (cX l x y) else none) fun l'=>K none (G.set k (.ownD l'))):=fun oa G K s hd I E=>ae hd fun l el hd=>by
 rw [exec_Assign_Subscript _ _ _ _ _ (bg hs)];refine zC1 (wpAny_standAt (zC1 (LT (h1 oa G _ s hd I _) (fun v1 s₁ NH=>?_) fun U U z=>z)));obtain ⟨B1,k1,y,hy,r1⟩:=NH;have I1:=I.keep B1 k1;rw [assign_Subscript];obtain ⟨a,ha,pr,ow⟩:=sm (Φ:=⟨fx,oa,G⟩) I1 (kN el);refine zC1 (zC1 (NN (bq (Φ:=⟨fx,oa,G⟩) I1.ok hx hn pr ?_ _)));refine zC1 (NN (LT (h2 oa G _ s₁ hy I1 _) (fun v2 FN JR=>?_) fun U U z=>z));obtain ⟨B2,k2,x,Mq,r2⟩:=JR;have I2:=I1.keep B2 k2;refine ae Mq fun l2 e2 kz=>?_;refine aU e2 fun hf e2=>?_;obtain rfl:=LE e2;have hf:=zA2 hf;refine zC1 (wpAny_standAt (zC1 (NN (jD (Φ:=⟨fx,oa,G⟩) I2 (.inr ⟨k,by rw [ha]; exact .head _⟩) (ow.map k2.mapK fun o e=>k2 _ o e) hf.1 r2 (r1.keep k2) (IO hf.2) fun h' tk c Iu=>bv (zC2 ?_)))));have q:=Inv.chg (Φ:=⟨fx,oa,G⟩) (sl:=.ownD (cX l x y)) (tk:=tk) I2 c ha (pr.keep k2) ⟨a,rfl,rfl,Iu⟩ id nofun nofun;exact .next (Φ:=⟨fx,oa,G⟩) q.1 ((Tr.of_keeps (k1.trans k2)).trans q.2) kz
end
section
variable {g:Gl} {bad:Addr->Prop} {h:Heap} {o:Obj} {ws:List Value} {j:Nat} {x:Str} {v:Value}
def vR (f:bZ g c o ws) (nd:(g.flds c).Nodup) (hx:(g.flds c)[j]?=some x) (hv:ws[j]?=some v):lookIn x o=some (some v):=by
 obtain ⟨_,es,n,hd,hw,hk⟩:=f;subst hw;replace hv:=(Q5)▸(getElem?_map)▸hv;obtain ⟨e,ee,rfl⟩:=map_eq_some_iff.mp hv;obtain ⟨y,t,hy,ek⟩:=hk j e ee;replace hy:=hx▸hy; (injection hy with hy; subst hy);unfold lookIn;rw [hd];dsimp only;cases hf:es.toList.find? (·.key.isStr x) with
 | none=>
  have:=List.find?_eq_none.mp hf e (mem_of_getElem? (Q5▸ee));rw [ek] at this;exact absurd (by simp [Value.isStr]) this
 | some e'=>
  have hm:=List.mem_of_find?_eq_some hf;have hs:=List.find?_some hf;obtain ⟨i,hi⟩:=getElem?_of_mem hm;replace hi:=(Q5)▸hi;obtain ⟨z,t',hz,Ld⟩:=hk i e' hi;replace hs:=Ld▸hs;have hzx:z=x:=by simpa [Value.isStr] using hs
  subst hzx;have:=(getElem?_inj (List.getElem?_eq_some_iff.mp hx).1 nd).mp (hx.trans hz.symm);subst this;replace hi:=ee▸hi; (injection hi with hi; subst hi); rfl
def look_none (f:bZ g c o ws) (hx:x∉g.flds c):lookIn x o=some none:=by
 refine aV fun Z4 Kp=>?_;refine f.elim fun U JN=>JN.elim fun es No=>No.elim fun n Nn=>Nn.elim fun hd JM=>JM.elim fun hw hk=>?_;refine Kp ?_;have key:∀ e∈es.toList,∃ y t,y∈g.flds c/\e.key=.str y t:=fun e m=>by
  refine (getElem?_of_mem m).elim fun i hi=>?_;rw [Q5] at hi;refine (hk i e hi).elim fun z JJ=>JJ.elim fun t' Nm=>Nm.elim fun hz Ld=>?_;exact ⟨z,t',mem_of_getElem? hz,Ld⟩
 unfold lookIn;rw [hd];dsimp only;have hf:es.toList.find? (·.key.isStr x)=none:=List.find?_eq_none.mpr fun e m q=>by
  refine (key e m).elim fun y Nl=>Nl.elim fun t Nk=>Nk.elim fun hy ek=>?_;rw [ek] at q;have:y=x:=by simpa [Value.isStr] using q
  exact hx (this▸hy)
 have hr:es.toList.any (·.refKey)=false:=any_eq_false.mpr fun e m q=>by
  refine (key e m).elim fun y Nj=>Nj.elim fun t Ia=>Ia.elim fun hy ek=>?_;unfold DictEntry.refKey at q;rw [ek] at q; (injection q; done)
 rw [hf,hr]; rfl
def k9 {y:V} (r:Rp g bad h v y):handedIn v=true:=by cases r <;> rfl
end
section
variable {Φ:Ct} {s:Shared} {v u:Value} {x y z:V} {d:DV}
def vD {o:Obj} {nm:Str} (hc:ClsOk Φ.fx.g c):∃ cd,clsIn Φ.fx.g.K (Φ.fx.g.C c)=some cd/\PySem.W.ownOf cd (some o) nm=lookIn nm o:=by
 refine (any_some hc.hdict).elim fun cd JI=>JI.elim fun hc hd=>?_;exact ⟨cd,hc,by unfold PySem.W.ownOf; rw [hd]; rfl⟩
def wg {o:Obj} {ws:List Value} {j:Nat} {nm:Str} (F3:ClsOk Φ.fx.g c) (f:bZ Φ.fx.g c o ws) (hx:(Φ.fx.g.flds c)[j]?=some nm) (hv:ws[j]?=some v):findObj Φ.fx.g.K (Φ.fx.g.C c) (some o) nm=some (.value v):=by
 refine (vD (o:=o) (nm:=nm) F3).elim fun cd Ni=>Ni.elim fun hc ho=>?_;unfold findObj;rw [hc,bind_some,F3.flds nm (mem_of_getElem? hx),bind_some,bind_some,bind_some];refine (?_:(PySem.W.ownOf cd (some o) nm).bind _=_);rw [ho,vR f F3.nodup hx hv]; rfl
def oP {E:GE} {Q:GE} {nm:Str} {j:Nat} {e:Expr} (F3:ClsOk Φ.fx.g c) (I:Inv Φ s) (hb:s.heap.get? b=some (instObj (Φ.fx.g.C c) a)) (ho:s.heap.get? a=some od) (hf:bZ Φ.fx.g c od ws) (hx:(Φ.fx.g.flds c)[j]?=some nm) (hw:ws[j]?=some w) (hh:handedIn w=true)
  (h:∀ tk,Q w { s with toks:=tk }):wpAny (model Φ.fx.g.prog Φ.fx.g.w) Φ.fx.A (holding [.ref b] (getAttr (.ref b) nm true) >>= fun v=>letTemporaryGo e (.ref b) v >>= fun U=>pure v) Q E s:=
 zC1 (NN (get_value I.frag ⟨hb,rfl,rfl,ho⟩ F3.hga (wg F3 hf hx hw) hh (zC1 (wpAny_letTemporaryGo (zC2 (h _))))))
def Aq {e:Expr} {nm:Str} {j c:Nat} {pos:Pos} (F3:ClsOk Φ.fx.g c) (he:bR e=true) (hx:(Φ.fx.g.flds c)[j]?=some nm) (h:Ev Φ (eval e Φ.fx.env) d) :
  Ev Φ (eval (.Attribute e nm pos) Φ.fx.env) (fun K=>d fun x=>okK (opN (.attr c j) [x]) K):=fun K s hd I=>by
 rw [arm_eval_Attribute,aQ he];refine h.bind hd I fun v x s₁ FM FQ Iy r=>a8 ?_;refine ae Iy fun z ez kz E=>?_;cases x with
 | dict FP=>
  refine aU (ez:(if ikO FP=some c then (FP[j]?).map (·.2) else none)=some z) fun HQ ez=>?_;obtain ⟨p,hp,rfl⟩:=map_eq_some_iff.mp ez;refine r.inst_elim (C:=fun v=>wpAny _ _ (holding [v] (getAttr v nm true) >>= fun r=>letTemporaryGo e v r >>= fun U=>pure r) _ E s₁) HQ fun a dd o ws nb Lx ha G5 hf hl=>?_;have hz:(FP.map (·.2))[j]?=some p.2:=by rw [getElem?_map,hp]; rfl
  obtain ⟨w,hw,rw'⟩:=hl.get hz;exact oP F3 FM ha G5 hf hx hw (k9 rw') fun tk=>⟨FM.base.grown (.toks _ _),.refl _,_,kz,rw'⟩
 | _=>(injection ez; done)
structure MetOk (g:Gl) (c:Nat) (nm:Str) (f:Nat):Prop where
 nf:nm∉g.flds c
 hf:findIn g.K (.ref (g.C c)) nm=some (some (.ref (g.fn f)))
 ht:typeIn g.K (.ref (g.fn f))=some (.type "function")
 hk:keepIn g.K (.ref (g.fn f))=true
def oY {e:Expr} {es:List Expr} {FZ pos:Pos} {E:GE} {Q:GE} {qs:List (Expr×DV)} {K:List V->Prop} (F3:ClsOk Φ.fx.g c) (hm:MetOk Φ.fx.g c nm f) (FV:(FZ.endLine==pos.line)=true) (H6:qs.map Prod.fst=es) (F2:es.length < 30) (hq:∀ q∈qs,aq q.1=true/\bu Φ q) (hd:br (qs.map Prod.snd) K)
  (I:Inv Φ s) (hb:s.heap.get? b=some (instObj (Φ.fx.g.C c) a)) (ho:s.heap.get? a=some od) (hf:bZ Φ.fx.g c od ws)
  (h:∀ vs xs s₁,Inv Φ s₁->ao s.heap s₁.heap->K xs->Φ.rps s₁.heap vs xs->wpAny (model Φ.fx.g.prog Φ.fx.g.w) Φ.fx.A (call (.ref (Φ.fx.g.fn f)) (.ref b :: vs)) Q E s₁) :
  wpAny (model Φ.fx.g.prog Φ.fx.g.w) Φ.fx.A (methodCall e nm FZ pos Φ.fx.env (.ref b) (es.length+([]:List Keyword).length) (backTo pos (starEach es Φ.fx.env)) (backToKw pos (keywordEach [] Φ.fx.env))) Q E s:=by
 subst H6;have ha:=dx (pos:=pos) (l:=starEach (qs.map Prod.fst) Φ.fx.env) (bU fun q m=>(hq q m).1);have KZ:methodCallForm ((qs.map Prod.fst).length+([]:List Keyword).length) (backTo pos (starEach (qs.map Prod.fst) Φ.fx.env)) (backToKw pos (keywordEach [] Φ.fx.env))=true:=by
  refine zA3 ⟨zA3 ⟨?_,rfl⟩,NL F2⟩;rw [List.all_eq_not_any_not];simp only [Bool.not_not];rw [ha]; rfl
 unfold methodCall;rw [KZ];refine zC1 (NN ?_);refine (?_:wpAny _ _ (getMethod (.ref b) nm _) _ _ s);refine method_fn (od:=some od) I.frag ⟨hb,rfl,rfl,ho⟩ F3.hga F3.hgk hm.hf hm.ht (by refine (?_:(lookIn nm od).map _=_); rw [look_none hf hm.nf]; rfl) ?_;have hp:methodCallPos true e Φ.fx.env FZ pos=pure pos:=by unfold methodCallPos; rw [FV,Bool.or_true]; rfl
 refine zC1 ?_;rw [hp];exact zC2 (callWith_of (by rw [ha]; rfl) (keeps_K hm.hk) (cm hq hd I fun vs xs s₁ FM FQ hx rs=>⟨FM.frag,h vs xs s₁ FM FQ hx rs⟩))
def Al {e:Expr} {es:List Expr} {FZ pos:Pos} {qs:List (Expr×DV)} (F3:ClsOk Φ.fx.g c) (hm:MetOk Φ.fx.g c nm f) (he:bR e=true) (FV:(FZ.endLine==pos.line)=true) (H6:qs.map Prod.fst=es) (F2:es.length < 30) (hq:∀ q∈qs,aq q.1=true/\bu Φ q) (h:Ev Φ (eval e Φ.fx.env) d) :
  Ev Φ (eval (.Call (.Attribute e nm FZ) es [] pos) Φ.fx.env) (fun K=>d fun x=>nC c x=true/\br (qs.map Prod.snd) fun xs=>(aj Φ.fx.g.P Φ.fx.d).p f (x :: xs) K):=fun K s hd I=>by
 rw [arm_eval_Call,aQ he];refine h.bind hd I fun v x s₁ FM FQ hx r=>a8 fun E=>?_;cases x with
 | dict FP=>
  have HQ:ikO FP=some c:=by have z:=hx.1; unfold nC at z; exact Id z
  refine Rp.inst_elim (C:=fun v=>Φ.rp s₁.heap v (.dict FP)->wpAny _ _ (methodCall e nm FZ pos Φ.fx.env v _ _ _) _ E s₁) r HQ (fun a dd o ws nb Lx ha G5 G9 hl r'=>?_) r;refine oY (K:=fun xs=>(aj Φ.fx.g.P Φ.fx.d).p f (.dict FP :: xs) K) F3 hm FV H6 F2 hq hx.2 FM ha G5 G9 fun vs xs FN FU F4 hk rs=>?_;exact LT (fC FU hk (.cons (r'.keep F4) rs)) (fun U U p=>p.1.lift F4) fun U U z=>z
 | _=>exact nB hx.1
end
section
variable {fx:Fx}
def qe {Φ:Ct} {s:Shared} {E:GE} {b a:Addr} {o:Obj} {ws:List Value} {nm:Str} {v:Value} {Q:Unit->Shared->Prop} (I:Inv Φ s) (F3:ClsOk Φ.fx.g c) (hb:s.heap.get? b=some (instObj (Φ.fx.g.C c) a)) (ha:s.heap.get? a=some o) (hf:bZ Φ.fx.g c o ws) (hx:(Φ.fx.g.flds c)[ws.length]?=some nm)
  (h:∀ h' tk o',SameBut a s.heap h'->h'.get? a=some o'->bZ Φ.fx.g c o' (ws++[v])->Q () { s with heap:=h',toks:=tk }):wpAny (model Φ.fx.g.prog Φ.fx.g.w) Φ.fx.A (setAttr (.ref b) nm v) Q E s:=by
 have ht:takerIn Φ.fx.g.K (Φ.fx.g.C c) nm=some none:=by unfold takerIn; rw [F3.flds nm (mem_of_getElem? hx)]; rfl
 have IA:InstAt s.heap b (instObj (Φ.fx.g.C c) a) (Φ.fx.g.C c) (some o):=⟨hb,rfl,rfl,ha⟩;refine set_plain I.frag IA F3.hsa ?_;refine osa_open (s:={ s with toks:=s.toks+1 }) (od:=some o) I.frag ⟨hb,rfl,rfl,ha⟩ F3.over ht fun bb=>?_;obtain ⟨cd,LO,F6⟩:=any_some F3.hdict;refine (bPu (zC1 (zC1 (wpAny_loadPart hb (zC1 (Looks.here (s:={ s with toks:=s.toks+1 }) (looks_clsIn I.frag LO) ?_))))));refine F6.symm▸?_;refine wpAny_pure (a:=some a) ((bPu (zC1 ?_)))
 skip
 refine zC1 (zC1 (wpAny_askSetting (zC2 (zC1 (wpAny_mkText (zC1 (wpAny_loadPart ha ?_)))))));obtain ⟨Ha,es,n,hd,hw,hk⟩:=hf;have F2:es.size=ws.length:=by rw [<- hw,zA4,zB3]
 have key:∀ e∈es.toList,∃ y t,e.key=.str y t/\y≠nm:=fun e m=>by
  refine (getElem?_of_mem m).elim fun i hi=>?_;replace hi:=(Q5)▸hi;refine (hk i e hi).elim fun z Nc=>Nc.elim fun t' Nb=>Nb.elim fun hz Ld=>?_;refine ⟨z,t',Ld,fun q=>?_⟩;subst q;have:=(getElem?_inj (List.getElem?_eq_some_iff.mp hz).1 F3.nodup).mp (hz.trans hx.symm);have:=(Array.getElem?_eq_some_iff.mp hi).1;lia
 have na:es.toList.any (·.key.isStr nm)=false:=any_eq_false.mpr fun e m q=>by
  obtain ⟨y,t,ek,hy⟩:=key e m;rw [ek] at q;exact hy (by simpa [Value.isStr] using q)
 have nr:es.toList.any (·.refKey)=false:=any_eq_false.mpr fun e m q=>by
  obtain ⟨y,t,ek,hy⟩:=key e m;unfold DictEntry.refKey at q;rw [ek] at q; (injection q; done)
 rw [hd];dsimp only;rw [aRefKeyMayBeTheName_at,<- any_toList,<- any_toList,nr,Bool.and_false];refine wpAny_updatePart ha ?_;refine aV fun Z19 Mh=>?_;obtain ⟨l⟩:=es;obtain ⟨oc,od,dat,sl⟩:=o;refine Mh ?_;subst hd;have pe:=putName_eq nm (keyHash Φ.fx.g.w.params nm) (.str nm (s.toks+1)) v oc od l n sl;rw [na,NQ NK,show PySem.putIn (·.key.isStr nm) (fun e=>{ e with val:=v }) ⟨keyHash Φ.fx.g.w.params nm,.str nm (s.toks+1),v⟩ l=l++[⟨keyHash Φ.fx.g.w.params nm,.str nm (s.toks+1),v⟩] by unfold PySem.putIn; rw [List.findIdx?_eq_none_iff.mpr fun e m=>by simpa using any_eq_false.mp na e m]] at pe;have D':=get?_update_self (Obj.putName nm (keyHash Φ.fx.g.w.params nm) (.str nm (s.toks+1)) v) ha (by rw [pe]; rfl);rw [pe] at D';have F8:=(List.getElem?_eq_some_iff.mp hx).1;have MG:=F3.few;refine zC1 (wpAny_lookBehind D' (pastItsLine_dict (by rw [size_toArray,zB5,sizeLine_eq]; refine (?_:l.length+1<=_); have:l.length=ws.length:=F2; exact zB1 (add_le_add (zB1 (zB2 this) (zB1 (le_of_lt F8) MG)) (le_refl _)) (by decide))) ?_);refine zC2 (h _ _ _ (.update ..) D' ⟨⟨Ha.1,Ha.2.1,Ha.2.2⟩,_,_,rfl,?_,fun j e ee=>?_⟩)
 ·rw [map_append,hw]; rfl
 ·have ee:(l++[(⟨keyHash Φ.fx.g.w.params nm,.str nm (s.toks+1),v⟩:DictEntry)])[j]?=some e:=by simpa using ee
  rcases lt_or_ge j l.length with q | q
  ·rw [getElem?_append_left q] at ee; exact hk j e (by simpa using ee)
  ·replace ee:=(getElem?_append_right q)▸ee;have:j - l.length=0:=by have:=(List.getElem?_eq_some_iff.mp ee).1; rw [length_singleton] at this; exact le_antisymm (Qb this) (zero_le _)
   replace ee:=this▸ee;(injection ee with ee; subst ee);have hl2:l.length=ws.length:=F2;exact ⟨nm,_,by rw [show j=ws.length by grind]; exact hx,rfl⟩
theorem FldsAt.snoc (r:FldsAt g bad h ws fs F) (x:FldAt g bad h w f fa):FldsAt g bad h (ws++[w]) (fs++[f]) (F++[fa]):=by
 induction r with
 | nil=>exact .cons x .nil
 | cons y _ ih=>exact .cons y ih
theorem FldsAt.length (r:FldsAt g bad h ws fs F):ws.length=fs.length:=by
 induction r with
 | nil=>rfl
 | cons _ _ ih=>exact NO (· + 1) ih
def wW {Φ:Ct} {s s₁:Shared} {E:GE} {Q:Unit->Shared->Prop} {nm:Str} (F3:ClsOk Φ.fx.g o.c) (I:Inv Φ s) (B:Base Φ.fx.g s₁) (FQ:ao s.heap s₁.heap) (eo:getSlot Φ.G k=.ownI o) (Gk:(Φ.fx.g.flds o.c)[o.fs.length]?=some nm) (pr:ay s.heap (Φ.fx.pl k) (some u))
  (nf:fa.Nodup) (K0:∀ b∈fa,s.heap.get? b=none/\aL s₁.heap b)
  (fl:∀ FR h',(∀ b o,s₁.heap.get? b=some o->¬ Φ.bad b->b∉fa->¬ FR b/\h'.get? b=some o)->(∀ b∈fa,∀ o,s₁.heap.get? b=some o->h'.get? b=some o)->FldAt Φ.fx.g FR h' w f fa)
  (h:∀ Φ' s',Φ'=Φ.put k ((Φ.oa k)++[fa]) (.ownI ⟨o.c,o.fs++[f]⟩)->Inv Φ' s'->Tr Φ s Φ' s'->Q () s'):wpAny (model Φ.fx.g.prog Φ.fx.g.w) Φ.fx.A (setAttr u nm w) Q E s₁:=by
 obtain ⟨v,L7,so⟩:=I.slot k;rw [eo] at so;obtain ⟨a,F,u',ha,rfl,b,od,ws,rfl,nb,hb,ho,hf,hl,nd⟩:=so;obtain rfl:=LE (r8 L7 pr).symm;have I1:=I.keep B FQ;have FX:a∈(Φ.oa k).flatten:=by rw [ha]; exact .head _
 have own:Φ.own a:=.inr ⟨k,FX⟩;refine qe I1 F3 (FQ _ _ hb) (FQ _ _ ho) hf (by rw [hl.length]; exact Gk) fun h' tk o' sb Gj Jv=>?_;have naf:a∉fa:=fun m=>al (K0 a m).1 ho;have live:∀ b,aL s.heap b->aL h' b:=(by rintro b ⟨o,e⟩; exact (Classical.em (b=a)).elim (fun q=>q▸⟨_,Gj⟩) fun n=>⟨o,sb.extBut b o n (FQ _ _ e)⟩);have fal:∀ b∈fa,aL h' b:=fun b m=>(K0 b m).2.elim fun o e=>⟨o,sb.extBut b o (fun q=>naf (q▸m)) e⟩;have LV:(Φ.oa k++[fa]).flatten=(Φ.oa k).flatten++fa:=by rw [List.flatten_append,List.flatten_singleton]
 have HU:∀ b,(Φ.put k (Φ.oa k++[fa]) (.ownI ⟨o.c,o.fs++[f]⟩)).own b->Φ.own b\/b∈fa:=fun b q=>(put_own q).elim (fun q=>by rw [LV] at q; exact (mem_append.mp q).imp (fun q=>.inr ⟨k,q⟩) id) .inl;have mk:∀ b ob,s₁.heap.get? b=some ob->¬ Φ.bad b->b∉fa->¬ (Φ.put k (Φ.oa k++[fa]) (.ownI ⟨o.c,o.fs++[f]⟩)).bad b/\h'.get? b=some ob:=fun b o e n nf=>⟨fun q=>q.elim (fun q=>n (.inl q)) fun q=>(HU b q).elim (fun q=>n (.inr q)) nf,sb.extBut b o (fun q=>n (.inr (q▸own))) e⟩;have mk0:bK Φ.bad (Φ.put k (Φ.oa k++[fa]) (.ownI ⟨o.c,o.fs++[f]⟩)).bad s.heap h':=fun b o e n=>mk b o (FQ _ _ e) n fun m=>al (K0 b m).1 e;have q:=Inv.upd (Φ:=Φ) (k:=k) (oak:=Φ.oa k++[fa]) (sl:=.ownI ⟨o.c,o.fs++[f]⟩) (s':={ s₁ with heap:=h',toks:=tk }) I (B.os.trans I.base.os.symm) (B.gens.trans I.base.gens.symm) pr (fun b o n e=>sb.extBut b o (fun q=>n (q▸FX)) (FQ _ _ e)) live (fun b m=>by
   rw [LV] at m;exact (mem_append.mp m).imp id fun m=>⟨(K0 b m).1,fal b m⟩) (by
   refine ⟨a,F++[fa],.ref b,by rw [ha]; rfl,rfl,b,o',ws++[w],rfl,(mk0 _ _ hb nb).1,(mk0 _ _ hb nb).2,Gj,Jv,(hl.map mk0 fun c m o e=>sb.extBut c o (fun z=>(nodup_cons.mp nd).1 (z▸m)) (FQ _ _ e)).snoc (fl _ _ mk fun c m o e=>sb.extBut c o (fun z=>naf (z▸m)) e),?_⟩;rw [List.flatten_append,List.flatten_singleton];refine (nodup_append (l₁:=a :: F.flatten)).mpr ⟨nd,nf,fun x hx y hy e=>?_⟩;have:Φ.own x:=.inr ⟨k,by rw [ha]; exact hx⟩;exact (I.new x this).1.elim fun o z=>al (K0 y hy).1 (e▸z))
  (fun U a' F' e=>by rw [ha] at e; obtain ⟨e1,_⟩:=zA5 e; exact ⟨F,by rw [ha,e1],by rw [eo]; trivial⟩) nofun nofun
 exact h _ _ rfl q.1 q.2
def qH {n:Str} {k c j:Nat} {np ap spos:Pos} {nm:Str} {e:Expr} {d:Gs->DV} (F3:ClsOk fx.g c) (hx:fx.ρ.lookup n=some k) (hn:aP n=true) (Gk:(fx.g.flds c)[j]?=some nm) (hs:b8 e=true) (h:∀ oa G,Ev ⟨fx,oa,G⟩ (eval e fx.env) (d G)) :
  ExB fx (exec (.Assign [.Attribute (.Name n np) nm ap] e spos) fx.env) (fun G K=>d G fun x=>okK (fZ G k c) fun o=>o.fs.length=j/\K none (G.set k (.ownI ⟨o.c,o.fs++[.val x]⟩))):=fun oa G K s hd I E=>by
 refine plainObj_wpAny_Assign_Attribute (LT (h oa G _ s hd I E) (fun v s₁ ⟨B,FQ,x,Iy,r⟩=>ae Iy fun o eo hk=>?_) fun U U z=>z) (bg hs);have q:=iS eo;clear eo Iy;obtain ⟨eo,ec⟩:=q;subst ec;obtain ⟨u,pr⟩:∃ u,ay s.heap (fx.pl k) (some u):=by
  obtain ⟨v,pr,so⟩:=I.slot k;rw [eo] at so;obtain ⟨_,_,u,_,rfl,_⟩:=so;exact ⟨u,pr⟩
 refine bq (Φ:=⟨fx,oa,G⟩) I.ok hx hn (pr.keep FQ) ?_ _;refine wW (Φ:=⟨fx,oa,G⟩) (fa:=[]) (f:=.val x) F3 I B FQ eo (hk.1▸Gk) pr nodup_nil (fun b m=>nM m) (fun FR h' m U=>.val (r.map fun b o e n=>m b o e n not_mem_nil)) fun Φ' s' e I' t'=>?_;subst e;exact .next (Φ:=⟨fx,oa,G⟩) I' t' hk.2
def oq {n:Str} {k c j:Nat} {np ap spos:Pos} {nm:Str} {e:Expr} {f:Fld} (F3:ClsOk fx.g c) (hx:fx.ρ.lookup n=some k) (hn:aP n=true) (Gk:(fx.g.flds c)[j]?=some nm) (hf:Fa f=true) (heD:DE f=true->∃ p,e=.Dict [] [] p) (heL:DE f=false->∃ p,e=.List [] p) :
  ExB fx (exec (.Assign [.Attribute (.Name n np) nm ap] e spos) fx.env) (fun G K=>okK (fZ G k c) fun o=>o.fs.length=j/\K none (G.set k (.ownI ⟨o.c,o.fs++[f]⟩))):=fun oa G K s hd I E=>ae hd fun o eo hk=>by
 have q:=iS eo;clear eo hd;obtain ⟨eo,ec⟩:=q;subst ec;obtain ⟨u,pr⟩:∃ u,ay s.heap (fx.pl k) (some u):=by
  obtain ⟨v,pr,so⟩:=I.slot k;rw [eo] at so;obtain ⟨_,_,u,_,rfl,_⟩:=so;exact ⟨u,pr⟩
 have hD:s.heap.get? s.heap.objs.size=none:=ak _;have main:∀ ob:Obj,ob.isFreed=false->(∀ FR h',h'.get? s.heap.objs.size=some ob->FldAt fx.g FR h' (.ref s.heap.objs.size) f [s.heap.objs.size])->wpAny (model fx.g.prog fx.g.w) fx.A (eval (.Name n np) fx.env) (fun u FN=>wpAny (model fx.g.prog fx.g.w) fx.A (setAttr u nm (.ref s.heap.objs.size)) (fun U=>PostS ⟨fx,oa,G⟩ s K .next) E FN) E { s with heap:=s.heap.push ob }:=fun ob hfr fl=>by
  have gr:=Grown.push s ob s.toks;have hp:(s.heap.push ob).get? s.heap.objs.size=some ob:=Q2 _ hfr;refine bq (Φ:=⟨fx,oa,G⟩) (s:={ s with heap:=s.heap.push ob }) I.ok hx hn (pr.keep gr.keeps) ?_ _;refine wW (Φ:=⟨fx,oa,G⟩) (fa:=[s.heap.objs.size]) (f:=f) F3 I (I.base.grown gr) gr.keeps eo (hk.1▸Gk) pr (pairwise_singleton _ _) (fun b m=>by obtain rfl:=zA6 m; exact ⟨hD,_,hp⟩) (fun FR h' U m=>fl FR h' (m _ (.head _) _ hp)) fun Φ' s' e I' t'=>?_;subst e;exact .next (Φ:=⟨fx,oa,G⟩) I' t' hk.2
 have dct:∀ p,(∀ FR h',h'.get? s.heap.objs.size=some { cls:=.type "dict",data:=.dict #[] }->FldAt fx.g FR h' (.ref s.heap.objs.size) f [s.heap.objs.size])->wpAny (model fx.g.prog fx.g.w) fx.A (exec (.Assign [.Attribute (.Name n np) nm ap] (.Dict [] [] p) spos) fx.env) (PostS ⟨fx,oa,G⟩ s K) E s:=fun p fl=>plainObj_wpAny_Assign_Attribute (wpAny_Dict_empty (main _ rfl fl)) (bg rfl);have dk:∀ {h':Heap} {FR:Addr->Prop},h'.get? s.heap.objs.size=some { cls:=.type "dict",data:=.dict #[] }->OwnDAt fx.g FR h' s.heap.objs.size []:=fun e=>⟨_,#[],0,e,⟨rfl,rfl,rfl⟩,rfl,⟨rfl,nodup_nil,rfl⟩,.nil,.nil⟩;cases f with
 | val=>exact nB hf
 | L l=>
  cases l with
  | cons=>exact nB hf
  | nil=>
   obtain ⟨p,rfl⟩:=heL rfl;refine plainObj_wpAny_Assign_Attribute ?_ (bg rfl);rw [arm_eval_List];refine bSt (zC1 (zC2 ?_));exact wpAny_newObj_type (main _ rfl fun FR h' e=>.L ⟨_,_,_,e,⟨rfl,rfl⟩,rfl,.nil⟩)
 | D l=>
  cases l with
  | cons=>exact nB hf
  | nil=>obtain ⟨p,rfl⟩:=heD rfl; exact dct p fun FR h' e=>.D (dk e)
end
section
variable {g:Gl} {bad FR:Addr->Prop} {h h':Heap}
theorem FldsAt.set (r:FldsAt g bad h ws fs F) (k:bK bad FR h h'):∀ {j:Nat} {w:Value} {fa MW:List Addr} {f':Fld},ws[j]?=some w->F[j]?=some fa->F.flatten.Nodup->(∀ b,b∉fa->∀ o,h.get? b=some o->h'.get? b=some o)->FldAt g FR h' w f' MW->FldsAt g FR h' ws (fs.set j f') (F.set j MW):=by
 induction r with
 | nil=>exact fun e=>nN e.symm
 | @cons w₀ f₀ fa₀ ws fs F x rs ih=>
  intro j w fa MW f' e1 e2 nd kp y;have nd:=nodup_append.mp (nd:(fa₀++F.flatten).Nodup);cases j with
  | zero=>
   obtain rfl:=LE e1;obtain rfl:=LE e2;exact .cons y (rs.map k fun b m o e=>kp b (fun z=>nd.2.2 b z b m rfl) o e)
  | succ j=>
   exact .cons (x.map k fun b m o e=>kp b (fun z=>nd.2.2 b m b (mem_flatten.mpr ⟨fa,mem_of_getElem? e2,z⟩) rfl) o e) (ih e1 e2 nd.2.1 kp y)
theorem FldAt.handed (r:FldAt g bad h w f fa):handedIn w=true:=by
 cases r with
 | val x=>exact k9 x
 | _=>rfl
end
def vg {F:List (List Addr)} {j:Nat} {fa:List Addr} (e:F[j]?=some fa):F.set j fa=F:=by
 obtain ⟨h,rfl⟩:=List.getElem?_eq_some_iff.mp e;exact List.set_getElem_self h
section
variable {Φ:Ct} {s s':Shared}
def jH {C:Prop} {j:Nat} (I:Inv Φ s) (eo:getSlot Φ.G k=.obj o) (ef:o.fs[j]?=some f)
  (h:∀ b a od ws w fa,ay s.heap (Φ.fx.pl k) (some (.ref b))->s.heap.get? b=some (instObj (Φ.fx.g.C o.c) a)->s.heap.get? a=some od->bZ Φ.fx.g o.c od ws->ws[j]?=some w->(Φ.oa k)[j]?=some fa->FldAt Φ.fx.g Φ.bad s.heap w f fa->(∀ x∈fa,Φ.own x) ->
   (∀ s' f',s'.os=s.os->s'.gens=s.gens->(∀ b ob,b∉fa->s.heap.get? b=some ob->s'.heap.get? b=some ob)->(∀ b,aL s.heap b->aL s'.heap b)->FldAt Φ.fx.g Φ.bad s'.heap w f' fa->Inv (Φ.put k (Φ.oa k) (.obj (o.set j f'))) s'/\Tr Φ s (Φ.put k (Φ.oa k) (.obj (o.set j f'))) s')->C):C:=by
 obtain ⟨u,pr,b,a,od,ws,rfl,nb,na,hb,ho,hf,hl,nd⟩:=nj I eo;obtain ⟨w,fa,hw,hF,fl⟩:=hl.get ef;have Jn:∀ x∈fa,x∈(Φ.oa k).flatten:=fun x m=>mem_flatten.mpr ⟨fa,mem_of_getElem? hF,m⟩;refine h b a od ws w fa pr hb ho hf hw hF fl (fun x m=>.inr ⟨k,Jn x m⟩) fun s' f' IB ME kp lv LV=>?_;have eb:(Φ.put k (Φ.oa k) (.obj (o.set j f'))).bad=Φ.bad:=lV rfl;have mk:bK Φ.bad Φ.bad s.heap s'.heap:=fun c ob e n=>⟨n,kp c ob (fun q=>n (.inr (.inr ⟨k,Jn c q⟩))) e⟩;refine Inv.upd (s':=s') I IB ME pr (fun c ob n e=>kp c ob (fun q=>n (Jn c q)) e) lv (fun c m=>.inl m) ?_ (fun q=>q.elim) nofun fun o' e=>⟨o,eo,rfl⟩;rw [eb];exact ⟨.ref b,rfl,b,a,od,ws,rfl,nb,na,(mk _ _ hb nb).2,(mk _ _ ho na).2,hf,vg hF▸hl.set mk hw hF nd (fun c n ob e=>kp c ob n e) LV,nd⟩
def gg {E:GE} {Q:GE} {np ap:Pos} {nm:Str} {j:Nat} (F3:ClsOk Φ.fx.g o.c) (hx:Φ.fx.ρ.lookup n=some k) (hn:aP n=true) (Gk:(Φ.fx.g.flds o.c)[j]?=some nm) (I:Inv Φ s) (eo:getSlot Φ.G k=.obj o) (ef:o.fs[j]?=some f)
  (h:∀ w fa tk,(Φ.oa k)[j]?=some fa->FldAt Φ.fx.g Φ.bad s.heap w f fa->Inv Φ { s with toks:=tk }->Q w { s with toks:=tk }):wpAny (model Φ.fx.g.prog Φ.fx.g.w) Φ.fx.A (eval (.Attribute (.Name n np) nm ap) Φ.fx.env) Q E s:=by
 rw [arm_eval_Attribute,aQ rfl];refine jH I eo ef fun b a od ws w fa pr hb ho hf hw hF fl U U=>?_;refine zC1 (bq I.ok hx hn pr (bSt ?_) E);exact oP F3 I hb ho hf Gk hw fl.handed fun tk=>h w fa tk hF fl (I.keep (I.base.grown (.toks _ _)) (.refl _))
def jd (x:FldAt g bad h w (.L l) fa):∃ a,w=.ref a/\fa=[a]/\OwnLAt g bad h a l:=by cases x with | L x=>exact ⟨_,rfl,rfl,x⟩
def je (x:FldAt g bad h w (.D l) fa):∃ a,w=.ref a/\fa=[a]/\OwnDAt g bad h a l:=by cases x with | D x=>exact ⟨_,rfl,rfl,x⟩
def lY {C:Prop} {j:Nat} (I:Inv Φ s) (eo:getSlot Φ.G k=.obj o) (ef:o.fs[j]?=some f) (hF:(Φ.oa k)[j]?=some [a]) (c:Chg Φ s a h') (Jv:FldAt Φ.fx.g Φ.bad h' (.ref a) f' [a]) (hw:∀ w fa,FldAt Φ.fx.g Φ.bad s.heap w f fa->fa=[a]->w=.ref a)
  (h:∀ FX,Inv ⟨Φ.fx,FX,Φ.G.set k (.obj (o.set j f'))⟩ { s with heap:=h',toks:=tk }->Tr Φ s ⟨Φ.fx,FX,Φ.G.set k (.obj (o.set j f'))⟩ { s with heap:=h',toks:=tk }->C):C:=by
 refine jH I eo ef fun b a' od ws w fa pr hb ho hf hw' MK fl own st=>?_;obtain rfl:=LE (hF.symm.trans MK);obtain rfl:=hw w _ fl rfl;have q:=st { s with heap:=h',toks:=tk } f' rfl rfl (fun b ob n e=>c.kp b ob (fun q=>n (by rw [q]; exact .head _)) e) c.live Jv;exact h _ q.1 q.2
end
section
variable {fx:Fx}
def Ah {d:Gs->DV} {nm:Str} {c j:Nat} (F3:ClsOk fx.g c) (hx:fx.ρ.lookup n=some k) (hn:aP n=true) (Gk:(fx.g.flds c)[j]?=some nm) (hp:aq e=true) (FV:(FZ.endLine==pos.line)=true) (h:∀ oa G,Ev ⟨fx,oa,G⟩ (eval e fx.env) (d G)) :
  ExB fx (exec (.Expr (.Call (.Attribute (.Attribute (.Name n np) nm ap) "append" FZ) [e] [] pos) spos) fx.env) (fun G K=>okK (c6 G k c) fun o=>okK (qC o j) fun l=>d G fun x=>l.length < af/\K none (G.set k (.obj (o.set j (.L (l++[x])))))):=fun oa G K s h0 I E=>ae h0 fun o ec h1=>ae h1 fun l el hd=>by
 have q:=cz ec;clear h0 h1 ec;obtain ⟨eo,rfl⟩:=q;have ef:=lg el;refine wpAny_Expr ?_ I.quiet rfl;refine wpAny_Call_method (T:="list") (id:="list.append") (aQ rfl) ?_ FV PySem.F.plainAttrs_list slot_list_append type_list_append (gg (Φ:=⟨fx,oa,G⟩) F3 hx hn Gk I eo ef fun w fa tk hF fl It=>?_)
 ·rw [aF hp]; rfl
 obtain ⟨a,rfl,rfl,ow⟩:=jd fl;refine ⟨ow.casesOn fun o U U ho hc U U=>⟨o,ho,hc.1⟩,fun a q=>by cases q; exact ow.casesOn fun o U U ho hc U U=>⟨o,ho,hc.2⟩,?_⟩;refine callWith_builtin (by rw [aF hp]; rfl) ?_;refine cm (Φ:=⟨fx,oa,G⟩) (qs:=[(e,d G)]) (K:=fun xs=>okK (one xs some) fun x=>l.length < af/\K none (G.set k (.obj (o.set j (.L (l++[x])))))) (fun q m=>by cases zA6 m; exact ⟨hp,h oa G⟩) hd It fun ws xs s₁ FM FQ hx rs=>ae hx fun x e hk=>?_;refine cJ (Φ:=⟨fx,oa,G⟩) (C:=fun ws=>wpAny _ _ (call (.builtin "list.append") ([.ref a]++ws) []) _ _ s₁) e rs fun w y r e=>?_;cases e
 have own:(Ct.mk fx oa G).own a:=.inr ⟨k,mem_flatten.mpr ⟨_,mem_of_getElem? hF,.head _⟩⟩;refine pI (Φ:=⟨fx,oa,G⟩) own (ow.map FQ.mapK fun o e=>FQ _ o e) r hk.1 fun h' c Iu=>?_;exact lY (Φ:=⟨fx,oa,G⟩) (tk:=s₁.toks) (f':=.L (l++[x])) FM eo ef hF c (.L Iu) (fun w fa fl e=>by obtain ⟨a',rfl,q,_⟩:=jd fl; rw [e] at q; rw [(zA5 q).1]) fun FX I' t'=>.next (Φ:=⟨fx,oa,G⟩) I' ((Tr.of_keeps (s:=s) (s':=s₁) FQ).trans t') hk.2
def Ag {d1 d2:Gs->DV} {nm:Str} {c j:Nat} {ei ev:Expr} (F3:ClsOk fx.g c) (hx:fx.ρ.lookup n=some k) (hn:aP n=true) (Gk:(fx.g.flds c)[j]?=some nm) (hs:b8 ev=true) (h1:∀ oa G,Ev ⟨fx,oa,G⟩ (eval ev fx.env) (d1 G)) (h2:∀ oa G,Ev ⟨fx,oa,G⟩ (eval ei fx.env) (d2 G)) :
  ExB fx (exec (.Assign [.Subscript (.Attribute (.Name n np) nm ap) ei sp] ev spos) fx.env) (fun G K=>okK (c6 G k c) fun o=>okK (mE o j) fun l=>d1 G fun y=>d2 G fun x=>okK (if (aZ x&&decide (l.length < af))=true then some (cX l x y) else none) fun l'=>K none (G.set k (.obj (o.set j (.D l'))))):=fun oa G K s h0 I E=>ae h0 fun o ec Jb=>ae Jb fun l el hd=>by
 have q:=cz ec;clear h0 Jb ec;obtain ⟨eo,rfl⟩:=q;have ef:=gU el;rw [exec_Assign_Subscript _ _ _ _ _ (bg hs)];refine zC1 (wpAny_standAt (zC1 (LT (h1 oa G _ s hd I _) (fun v1 s₁ Nz=>?_) fun U U z=>z)));obtain ⟨B1,k1,y,hy,r1⟩:=Nz;have I1:=I.keep B1 k1;rw [assign_Subscript];refine zC1 (zC1 (NN (gg (Φ:=⟨fx,oa,G⟩) F3 hx hn Gk I1 eo ef fun w fa tk hF fl It=>?_)));obtain ⟨a,rfl,rfl,ow⟩:=je fl;refine zC1 (NN (LT (h2 oa G _ _ hy It _) (fun v2 FN Nx=>?_) fun U U z=>z));obtain ⟨B2,k2,x,Mq,r2⟩:=Nx;have k2:ao s₁.heap FN.heap:=k2;have I2:=It.keep B2 k2;refine ae Mq fun l2 e2 kz=>?_;refine aU e2 fun hf e2=>?_;obtain rfl:=LE e2;have hf:=zA2 hf;have own:(Ct.mk fx oa G).own a:=.inr ⟨k,mem_flatten.mpr ⟨_,mem_of_getElem? hF,.head _⟩⟩;refine zC1 (wpAny_standAt (zC1 (NN (jD (Φ:=⟨fx,oa,G⟩) I2 own (ow.map k2.mapK fun o e=>k2 _ o e) hf.1 r2 (r1.keep k2) (IO hf.2) fun h' tk c Iu=>bv (zC2 ?_)))));exact lY (Φ:=⟨fx,oa,G⟩) (tk:=tk) (f':=.D (cX l x y)) I2 eo ef hF c (.D Iu) (fun w fa fl e=>by obtain ⟨a',rfl,q,_⟩:=je fl; rw [e] at q; rw [(zA5 q).1]) fun FX I' t'=>.next (Φ:=⟨fx,oa,G⟩) I' ((Tr.of_keeps (s':=FN) (k1.trans k2)).trans t') kz
end
section
variable {Φ:Ct} {s:Shared}
def vI {K:V->Ob->Prop} {Q:GE} {E:GE} (I:Inv Φ s) (eo:getSlot Φ.G k=.obj o) (pr:ay s.heap (Φ.fx.pl k) (some u)) (ob:ObjAt Φ.fx.g Φ.bad s.heap (Φ.oa k) u o) (hk:(aj Φ.fx.g.P Φ.fx.d).o f o args K) (rs:Φ.rps s.heap vals args)
  (h:∀ v y o' FX s',K y o'->Rp Φ.fx.g (Ct.mk Φ.fx FX (Φ.G.set k (.obj o'))).bad s'.heap v y->Inv ⟨Φ.fx,FX,Φ.G.set k (.obj o')⟩ s'->Tr Φ s ⟨Φ.fx,FX,Φ.G.set k (.obj o')⟩ s'->Q v s'):wpAny (model Φ.fx.g.prog Φ.fx.g.w) Φ.fx.A (call (.ref (Φ.fx.g.fn f)) (u :: vals)) Q E s:=by
 have eb:mP (fun a=>Φ.bad a/\a∉(Φ.oa k).flatten) (Φ.oa k)=Φ.bad:=funext fun a=>propext ⟨fun q=>q.elim (·.1) fun q=>.inr (.inr ⟨k,q⟩),fun q=>(Classical.em (a∈(Φ.oa k).flatten)).elim .inr fun n=>.inl ⟨q,n⟩⟩;refine LT (I.ok.call.o f o args K Φ.fx.A s (fun a=>Φ.bad a/\a∉(Φ.oa k).flatten) (Φ.oa k) vals u E hk (by rw [eb]; exact I.cc) (fun a m z=>z.2 m) (by rw [eb]; exact ob) (by rw [eb]; exact rs)) (fun v s' NI=>?_) fun U U z=>z;obtain ⟨B,kp,y,o',ky,r,Lw,lv⟩:=NI;rw [eb] at r Lw;have ep:(Φ.put k (Φ.oa k) (.obj o')).bad=Φ.bad:=lV rfl;have q:=Inv.upd (s':=s') (oak:=Φ.oa k) (sl:=.obj o') I (B.os.trans I.base.os.symm) (B.gens.trans I.base.gens.symm) pr (fun b o n e=>kp b o e n) (fun b l=>(Classical.em (b∈(Φ.oa k).flatten)).elim (fun m=>lv b m) fun m=>l.elim fun o e=>⟨o,kp b o e m⟩) (fun a m=>.inl m) (by rw [ep]; exact ⟨u,rfl,Lw⟩) (fun q=>q.elim) nofun fun o'' e=>⟨o,eo,rfl⟩;exact h v y o' _ s' ky (ep.symm▸r) q.1 q.2
def xg {fx:Fx} {es:List Expr} {qs:Gs->List (Expr×DV)} {FZ pos np:Pos} {K:V->Gs->Prop} {Q:GE} {E:GE} (F3:ClsOk fx.g c) (hm:MetOk fx.g c nm f) (hx:fx.ρ.lookup n=some k) (hn:aP n=true) (FV:(FZ.endLine==pos.line)=true) (H6:∀ G,(qs G).map Prod.fst=es) (F2:es.length < 30) (hq:∀ oa G,∀ q∈qs G,aq q.1=true/\bu ⟨fx,oa,G⟩ q)
  (h0:okK (c6 G k c) fun o=>br ((qs G).map Prod.snd) fun xs=>(aj fx.g.P fx.d).o f o xs fun y o'=>K y (G.set k (.obj o'))) (I:Inv ⟨fx,oa,G⟩ s) (h:∀ FX G' v y s',Inv ⟨fx,FX,G'⟩ s'->Tr ⟨fx,oa,G⟩ s ⟨fx,FX,G'⟩ s'->K y G'->(Ct.mk fx FX G').rp s'.heap v y->Q v s') :
  wpAny (model fx.g.prog fx.g.w) fx.A (eval (.Call (.Attribute (.Name n np) nm FZ) es [] pos) fx.env) Q E s:=ae h0 fun o ec hd=>by
 have q:=cz ec;clear h0 ec;obtain ⟨eo,rfl⟩:=q;rw [arm_eval_Call,aQ rfl];obtain ⟨u,pr,ob⟩:=nj (Φ:=⟨fx,oa,G⟩) I eo;obtain ⟨b,a,od,ws,rfl,nb,na,hb,ho,hf,hl,nd⟩:=id ob;refine zC1 (bq (Φ:=⟨fx,oa,G⟩) I.ok hx hn pr (bSt ?_) _);refine oY (Φ:=⟨fx,oa,G⟩) (K:=fun xs=>(aj fx.g.P fx.d).o f o xs fun y o'=>K y (G.set k (.obj o'))) F3 hm FV (H6 G) F2 (hq oa G) hd I hb ho hf fun vs xs FN FU F4 hk rs=>?_;exact vI (Φ:=⟨fx,oa,G⟩) FU eo (pr.keep F4) (ob.map F4.mapK fun a U o e=>F4 a o e) hk rs fun v y o' FX s' hy r I' t'=>h FX _ v y s' I' ((Tr.of_keeps (s:=s) (s':=FN) F4).trans t') hy r
def wq {fx:Fx} {es:List Expr} {qs:Gs->List (Expr×DV)} {FZ pos np:Pos} (F3:ClsOk fx.g c) (hm:MetOk fx.g c nm f) (hx:fx.ρ.lookup n=some k) (hn:aP n=true) (FV:(FZ.endLine==pos.line)=true) (H6:∀ G,(qs G).map Prod.fst=es) (F2:es.length < 30) (hq:∀ oa G,∀ q∈qs G,aq q.1=true/\bu ⟨fx,oa,G⟩ q) :
  ExB fx (exec (.Expr (.Call (.Attribute (.Name n np) nm FZ) es [] pos) spos) fx.env) (fun G K=>okK (c6 G k c) fun o=>br ((qs G).map Prod.snd) fun xs=>(aj fx.g.P fx.d).o f o xs fun y o'=>K none (G.set k (.obj o'))):=fun oa G K s h0 I E=>
 wpAny_Expr_any (xg (K:=fun U G'=>K none G') F3 hm hx hn FV H6 F2 hq h0 I fun FX G' v y s' I' t' hy r=>.next (Φ:=⟨fx,oa,G⟩) I' t' hy) I.quiet rfl
end
def zC {items:Array Value} {ws:List Value} (hx:items.toList=ws++[x]):items.isEmpty=false/\((seqIndex? (-1) items.size).bind fun k=>items[k]?.map (k,·))=some (ws.length,x)/\items.eraseIdxIfInBounds ws.length=ws.toArray:=by
 obtain ⟨l⟩:=items;obtain rfl:l=ws++[x]:=hx;have hs:(Array.mk (ws++[x])).size=ws.length+1:=length_append;refine ⟨?_,?_,?_⟩
 ·cases ws <;> rfl
 ·rw [hs,show seqIndex? (-1) (ws.length+1)=some ws.length from jK (.inr ⟨by decide,by lia,by lia⟩) (lt_succ_self _),bind_some];refine (?_:Option.map _ ((ws++[x]).toArray[ws.length]?)=_);rw [List.getElem?_toArray,getElem?_append_right (le_refl _),sub_self]; rfl
 ·refine (?_:(ws++[x]).toArray.eraseIdxIfInBounds ws.length=_);rw [List.eraseIdxIfInBounds_toArray,List.eraseIdx_append_of_length_le (le_refl _),sub_self];exact NO _ (append_nil _)
def w9 {E:GE} {items:Array Value} {ws:List Value} {n:Nat} {Q:GE} (ho:s.heap.get? l=some o) (hc:o.cls=.type "list"/\o.dict=none) (hd:o.data=.seq items n) (hx:items.toList=ws++[x]) (hsz:items.size<=sizeLine)
  (hQ:∀ h' o' n',h'.get? l=some o'->o'.cls=.type "list"/\o'.dict=none->o'.data=.seq ws.toArray n'->SameBut l s.heap h'->Q x { s with heap:=h' }):GM prog w A (call (.builtin "list.pop") [.ref l]) Q E s:=by
 refine (zC hx).elim fun h1 H'=>H'.elim fun h2 h3=>?_;refine wpAny_call_entry F.slot_list_pop ⟨o,ho,hc.1⟩ F.entry_list_pop ?_ (F.args_list_pop_1 _);refine (?_:wpAny _ _ (Builtin.List.listItems (.ref l) >>= _) _ _ s);refine zC1 (listItems_at ho hd ?_);refine bI (by exact h1.symm▸NK) ?_;refine h2.symm▸?_;refine (Obj.data_mapSeq hd (·.eraseIdxIfInBounds ws.length)).elim fun n' F6=>?_;rw [h3] at F6;exact zC1 (listUpdate_at ho hd (zC2 ⟨x,rfl,hQ _ _ n' (get?_update_self _ ho (Obj.isFreed_of_seq F6)) ⟨(Obj.cls_mapSeq ..).trans hc.1,(g6 ..).trans hc.2⟩ F6 (SameBut.update ..)⟩) hsz (h3.symm▸by rw [size_toArray]; rw [<- zB3,hx,zB5] at hsz; exact zB1 (Q3 _ _) (Nat.le_succ_of_le hsz)))
section
variable {g:Gl} {bad:Addr->Prop} {h:Heap}
theorem RpAll.snoc:∀ {m:List V} {vs:List Value},RpAll g bad h vs (m++[y])->∃ ws v,vs=ws++[v]/\RpAll g bad h ws m/\Rp g bad h v y:=by
 intro m;induction m with
 | nil=>
  intro vs r;cases r with
  | cons r rs=>cases rs with
   | nil=>exact ⟨[],_,rfl,.nil,r⟩
 | cons x m ih=>
  intro vs r;cases r with
  | cons r rs=>
   refine (ih rs).elim fun ws JG=>JG.elim fun v Lj=>Lj.elim fun e JF=>JF.elim fun r1 r2=>?_;exact ⟨_ :: ws,v,NO (_ :: ·) e,.cons r r1,r2⟩
end
section
variable {s:Shared}
def wn {fx:Fx} {fm:Str} {c j:Nat} {np ap JD Jh:Pos} (F3:ClsOk fx.g c) (hx:fx.ρ.lookup n=some k) (hn:aP n=true) (FV:(JD.endLine==Jh.line)=true) (Gk:(fx.g.flds c)[j]?=some fm) (hT:TgtsOk fx.ρ fx.env es ks) :
  ExB fx (exec (.Assign [.Tuple es kk p] (.Call (.Attribute (.Attribute (.Name n np) fm ap) "pop" JD) [] [] Jh) spos) fx.env) (fun G K=>okK (c6 G k c) fun o=>okK (qC o j) fun l=>l.length<=af/\okK l.getLast? fun y=>okK (aJ ks (G.set k (.obj (o.set j (.L l.dropLast)))) y) (K none)):=fun oa G K s h0 I E=>ae h0 fun o ec h1=>ae h1 fun l el hd=>ae hd.2 fun y ey hk=>ae hk fun G' eG kG=>by
 have q:=cz ec;clear h0 h1 ec hk;obtain ⟨eo,rfl⟩:=q;have ef:=lg el;have hz:=hd.1;clear hd el;have sw:=fg (env:=fx.env) (value:=.Call (.Attribute (.Attribute (.Name n np) fm ap) "pop" JD) [] [] Jh) (es:=es) (kk:=kk) (p:=p) rfl;refine Assign_Tuple (wpAny_Call_method (T:="list") (id:="list.pop") (aQ rfl) rfl FV PySem.F.plainAttrs_list F.slot_list_pop F.type_list_pop (gg (Φ:=⟨fx,oa,G⟩) F3 hx hn Gk I eo ef fun w fa tk hF fl It=>?_)) (sw.2 _ _:swapsWith _ (some (.Tuple es kk p)) spos.line fx.env=pure false) sw.1;obtain ⟨a1,rfl,rfl,ow⟩:=jd fl;obtain ⟨o1,vs,n1,JW,IG,Jw,hl1⟩:=id ow;refine ⟨⟨o1,JW,IG.1⟩,fun a q=>by cases q; exact ⟨o1,JW,IG.2⟩,?_⟩;refine callWith_builtin rfl (PySem.evalArgs_none ?_);have hsz:=aN hl1;obtain ⟨m',rfl⟩:=List.getLast?_eq_some_iff.mp ey;obtain ⟨ws,v,ev,r1,r2⟩:=hl1.snoc;rw [dropLast_concat] at eG;refine w9 JW IG Jw ev (hsz▸bF hz) fun h' o' n' Gj GL F6 sb=>?_;have own:(Ct.mk fx oa G).own a1:=.inr ⟨k,mem_flatten.mpr ⟨_,mem_of_getElem? hF,.head _⟩⟩;have cg:Chg ⟨fx,oa,G⟩ s a1 h':=⟨fun b o n e=>sb.extBut b o n e,_,Gj⟩;have mk:=cg.mapK own;refine lY (Φ:=⟨fx,oa,G⟩) (tk:=tk) (f':=.L m') I eo ef hF cg (.L ⟨o',_,n',Gj,GL,F6,by rw [List.toList_toArray]; exact r1.map mk⟩) (fun w fa fl e=>by obtain ⟨a',rfl,q,_⟩:=jd fl; rw [e] at q; rw [(zA5 q).1]) fun FX I' t'=>?_;exact LT (AI (Φ:=⟨fx,FX,_⟩) hT I' eG (r2.map t'.mapK) _) (fun U FN q=>.next q.1 (t'.trans q.2.1) kG) fun U U z=>z
def C2 {fx:Fx} {es:List Expr} {qs:Gs->List (Expr×DV)} (hT:TgtOk fx.ρ fx.env m k) (H6:∀ G,(qs G).map Prod.fst=es) (hx:bW fx.env.scope.names n=true) (hf:fx.g.fns.lookup n=some f) (Hi:keepIn fx.g.K (.ref (fx.g.fn f))=true)
  (hq:∀ oa G,∀ q∈qs G,aq q.1=true/\bu ⟨fx,oa,G⟩ q):ExB fx (exec (.Assign [.Name m py] (.Call (.Name n fp) es [] cpos) spos) fx.env) (fun G K=>getSlot G k=.unset/\br ((qs G).map Prod.snd) fun xs=>(aj fx.g.P fx.d).m f xs fun o=>K none (G.set k (.obj o))):=fun oa G K s hd I E=>by
 rw [exec_Assign_Name _ _ _ _ _ (bg rfl),<- H6 G];refine bSt (zC1 ?_);refine (?_:wpAny _ _ (eval (.Name n fp) fx.env >>= fun F=>callWith cpos F [] (backTo cpos (starEach ((qs G).map Prod.fst) fx.env)) []) _ _ s);refine zC1 (gK (Φ:=⟨fx,oa,G⟩) I hx (I.ok.gr.fns n f hf) ?_ _);refine callWith_of (by rw [dx (bU fun q m=>(hq oa G q m).1)]; rfl) (keeps_K Hi) (cm (Φ:=⟨fx,oa,G⟩) (hq oa G) hd.2 I fun vs xs s₁ FM FQ hx rs=>⟨FM.frag,?_⟩);refine LT (FM.ok.call.m f xs _ fx.A s₁ (Ct.mk fx oa G).bad vs _ hx FM.cc rs) (fun v s' Ii=>?_) fun U U z=>z;obtain ⟨B,k',o,F,hk,ob,nw⟩:=Ii;refine (bSt (zC1 (wpAny_bindName (lU (oak:=F) (sl:=.obj o) hT I B (FQ.trans k') (fun b m=>⟨aK (fun l=>FQ.live l) (nw b m).1,(nw b m).2⟩) nofun id (fun U=>hd.1) (fun h' kp=>?_) (fun s'' I'' t''=>zC2 (.next I'' t'' hk)) _))));have mk:bK (mP (Ct.mk fx oa G).bad F) ((Ct.mk fx oa G).put k F (.obj o)).bad s'.heap h':=fun a ob e n=>⟨fun q=>q.elim (fun q=>n (.inl (.inl q))) fun q=>(put_own q).elim (fun q=>n (.inr q)) fun q=>n (.inl (.inr q)),kp a ob e fun q=>n (.inl (.inr q))⟩;exact ⟨v,rfl,ob.map mk fun a m ob e=>kp a ob e fun q=>(FM.new a q).1.elim fun o e=>al (nw a m).1 e⟩
def wk {fx:Fx} {d:Gs->DV} (hc:∀ oa G,EvT ⟨fx,oa,G⟩ (isTrue c fx.env (eval c fx.env)) (tst (d G))) (ha:ExB fx (execs a fx.env) X) :
  ExB fx (exec (.While c a [] pos) fx.env) (fun G K=>wL d X G K):=fun oa G K s ⟨P,⟨n,hn⟩,turn⟩ I E=>by
 refine wpAny_While (codeAny_whileLoop (fun n s'=>∃ FX G',P n G'/\Inv ⟨fx,FX,G'⟩ s'/\Tr ⟨fx,oa,G⟩ s ⟨fx,FX,G'⟩ s') ?_ n ⟨oa,G,hn,I,.refl _ _⟩);rintro n s₁ ⟨oa₁,G₁,hP,FM,Hc⟩;refine LT (hc oa₁ G₁ (fun t=>if t=true then X G₁ fun fl G'=>(match fl with | none=>∃ m,m < n/\P m G' | some y=>K (some y) G') else K none G₁) s₁ (turn n G₁ hP) FM _) (fun t FN Lp=>?_) fun U U z=>z;obtain ⟨B,k,t',hk,e⟩:=Lp;subst e;have FU:=FM.keep B k;have Gq:Tr ⟨fx,oa,G⟩ s ⟨fx,oa₁,G₁⟩ FN:=Hc.trans (.of_keeps k);cases t with
 | true=>
  refine LT (ha oa₁ G₁ _ FN hk FU _) (fun f Gi Lo=>?_) fun U U z=>z;obtain ⟨IT,Lu,fl,Gv,Kb,hf,h3⟩:=Lo;cases fl with
  | none=>subst hf; exact h3.elim fun m z=>⟨m,z.1,IT,Lu,z.2,Gv,Gq.trans Kb⟩
  | some x=>obtain ⟨v,rfl,r⟩:=hf; exact PostS.lift (Φ:=⟨fx,oa,G⟩) (oa₁:=oa₁) (G₁:=G₁) ⟨IT,Lu,some x,Gv,Kb,⟨v,rfl,r⟩,h3⟩ Gq
 | false=>exact wpAny_execs_nil (.next (Φ:=⟨fx,oa,G⟩) FU Gq hk)
end
section
variable {M:Model} {A:Around} {E:GE} {s:Shared} {env:Env} {pos:Pos} {Q:List Value->Shared->Prop}
def u8 (hp:aq e=true) (h:wpAny M A (eval e env) (fun v s₁=>wpAny M A (spliced (backTo pos (starEach r env))) (fun vs FN=>Q (v :: vs) FN) E s₁) E s):wpAny M A (spliced (backTo pos (starEach (e :: r) env))) Q E s:=by
 refine (aF hp).symm▸?_;have q:spliced (backTo pos ((false,eval e env) :: starEach r env))=(eval e env >>= fun v=>holding [v] (spliced (backTo pos (starEach r env))) >>= fun vs=>pure (v :: vs)):=rfl;exact q.symm▸zC1 (LT h (fun v s₁ p=>zC1 (NN (LT p (fun vs FN p=>wpAny_pure p) fun U U z=>z))) fun U U z=>z)
end
section
variable {fx:Fx}
def EvX (fx:Fx) (e:Expr) (d:Gs->(V->Gs->Prop)->Prop):Prop:=∀ oa G (K:V->Gs->Prop) s (Q:GE) E,d G K->Inv ⟨fx,oa,G⟩ s->(∀ FX G' v y s',Inv ⟨fx,FX,G'⟩ s'->Tr ⟨fx,oa,G⟩ s ⟨fx,FX,G'⟩ s'->K y G'->(Ct.mk fx FX G').rp s'.heap v y->Q v s')->wpAny (model fx.g.prog fx.g.w) fx.A (eval e fx.env) Q E s
def Spl (fx:Fx) (es:List Expr) (d:Gs->(List V->Gs->Prop)->Prop):Prop:=∀ pos oa G (K:List V->Gs->Prop) s (Q:List Value->Shared->Prop) E,d G K->Inv ⟨fx,oa,G⟩ s->(∀ FX G' vs ys s',Inv ⟨fx,FX,G'⟩ s'->Tr ⟨fx,oa,G⟩ s ⟨fx,FX,G'⟩ s'->K ys G'->(Ct.mk fx FX G').rps s'.heap vs ys->Q vs s')->wpAny (model fx.g.prog fx.g.w) fx.A (spliced (backTo pos (starEach es fx.env))) Q E s
theorem EvX.of {d:Gs->DV} (h:∀ oa G,Ev ⟨fx,oa,G⟩ (eval e fx.env) (d G)):EvX fx e (fun G K=>d G fun x=>K x G):=fun oa G K s Q E hd I hQ=>
 LT (h oa G _ s hd I E) ((by rintro v s₁ ⟨B,k,x,hx,r⟩; exact hQ oa G v x s₁ (I.keep B k) (.of_keeps k) hx r)) fun U U z=>z
theorem Spl.nil:Spl fx [] (fun G K=>K [] G):=fun pos oa G K s Q E hd I hQ=>zC2 (hQ oa G [] [] s I (.refl _ _) hd .nil)
theorem Spl.cons {d:Gs->(V->Gs->Prop)->Prop} {ds:Gs->(List V->Gs->Prop)->Prop} (hp:aq e=true) (h:EvX fx e d) (hs:Spl fx es ds):Spl fx (e :: es) (fun G K=>d G fun x G'=>ds G' fun xs Hb=>K (x :: xs) Hb):=fun pos oa G K s Q E hd I hQ=>
 u8 hp (h oa G _ s _ E hd I fun oa₁ G₁ v y s₁ FM Hc FQ r=>hs pos oa₁ G₁ _ s₁ _ E FQ FM fun GR Ij vs ys FN FU Gq F4 rs=>hQ GR Ij _ _ FN FU (Hc.trans Gq) F4 (.cons (r.map Gq.mapK) rs))
theorem EvX.pop (hx:fx.ρ.lookup n=some k) (hn:aP n=true) (FV:(FZ.endLine==ppos.line)=true):EvX fx (.Call (.Attribute (.Name n np) "pop" FZ) [] [] ppos) (fun G K=>okK (dJ G k) fun l=>l.length<=af/\okK l.getLast? fun y=>K y (G.set k (.ownL l.dropLast))):=fun oa G K s Q E hd I hQ=>ae hd fun l el hd=>ae hd.2 fun y ey hk=>by
 obtain ⟨a,ha,pr,o,vs,m,ho,hc,F6,hl⟩:=lX (Φ:=⟨fx,oa,G⟩) I (fY el);refine wpAny_Call_method (T:="list") (id:="list.pop") (aQ rfl) rfl FV PySem.F.plainAttrs_list F.slot_list_pop F.type_list_pop (bq (Φ:=⟨fx,oa,G⟩) I.ok hx hn pr ⟨⟨o,ho,hc.1⟩,fun a q=>by (injection q with q; subst q); exact ⟨o,ho,hc.2⟩,?_⟩ _);refine callWith_builtin rfl (PySem.evalArgs_none ?_);have hsz:=aN hl;have hz:=hd.1;clear hd;obtain ⟨m',rfl⟩:=List.getLast?_eq_some_iff.mp ey;obtain ⟨ws,v,ev,r1,r2⟩:=hl.snoc;rw [dropLast_concat] at hk;refine w9 ho hc F6 ev (hsz▸bF hz) fun h' o' n' Gj GL Jz hs=>?_;have own:(Ct.mk fx oa G).own a:=.inr ⟨k,by rw [ha]; exact .head _⟩;have cg:Chg ⟨fx,oa,G⟩ s a h':=⟨fun b o n e=>hs.extBut b o n e,_,Gj⟩;have q:=Inv.chg (Φ:=⟨fx,oa,G⟩) (sl:=.ownL m') (tk:=s.toks) I cg ha pr ⟨a,rfl,rfl,o',_,n',Gj,GL,Jz,by rw [List.toList_toArray]; exact r1.map (cg.mapK own)⟩ id nofun nofun;exact hQ _ _ v y _ q.1 q.2 hk (r2.map q.2.mapK)
def Ay {oa:Nat->List (List Addr)} {HV:Nat->List (List Addr)} {K:GT} {E:GE} (hT:TgtOk fx.ρ fx.env x j) (I:Inv ⟨fx,oa,G⟩ s) (t:Tr ⟨fx,HV,G₀⟩ FO ⟨fx,oa,G⟩ s) (r:(Ct.mk fx oa G).rp s.heap v z) (hk:K none (G.set j (.v z))) :
  wpAny (model fx.g.prog fx.g.w) fx.A (do standAt p; bindName fx.env x v; pure Flow.next) (PostS ⟨fx,HV,G₀⟩ FO K) E s:=by
 refine (bSt (zC1 (wpAny_bindName (fU (Φ:=⟨fx,oa,G⟩) I hT.lk hT.nf (fun h' tk ps=>zC2 ?_) _))));have q:=lT (Φ:=⟨fx,oa,G⟩) (tk:=tk) I ps r;exact .next (Φ:=⟨fx,HV,G₀⟩) q.1 (t.trans q.2) hk
def Aa {d0:Gs->DV} {ds:Gs->(List V->Gs->Prop)->Prop} (hT:TgtOk fx.ρ fx.env x j) (h0:∀ oa G,Ev ⟨fx,oa,G⟩ (eval e0 fx.env) (d0 G)) (hs:Spl fx es ds) :
  ExB fx (exec (.Assign [.Name x py] (.Subscript e0 (.Tuple es kk tp) bp) spos) fx.env) (fun G K=>d0 G fun D=>ds G fun xs G'=>xs.length<=af/\okK (g9 D (.tuple xs)) fun z=>K none (G'.set j (.v z))):=fun oa G K s hd I E=>by
 rw [exec_Assign_Name _ _ _ _ _ (bg rfl),arm_eval_Subscript];refine zC1 (wpAny_standAt (zC1 (zC1 (LT (h0 oa G _ s hd I _) (fun v s₁ NG=>?_) fun U U z=>z))));obtain ⟨B,FQ,D,hD,rD⟩:=NG;have FM:=I.keep B FQ;refine zC1 (NN ?_);rw [arm_eval_Tuple];refine zC1 (wpAny_standAt (zC1 ?_));refine hs _ oa G _ s₁ _ _ hD FM fun FX G' vs xs FN FU Gq hk rs=>?_;refine ae hk.2 fun z ez kz=>?_;refine wpAny_newObj_type ?_ (by refine (?_:vs.toArray.size<=sizeLine); rw [size_toArray,rs.length]; exact bF hk.1);have m:=cC (Φ:=⟨fx,FX,G'⟩) (n:=0) (tk:=FN.toks) FU rs;have Gv:=FU.keep (FU.base.grown m.1) m.1.keeps;refine LT (jC (Φ:=⟨fx,FX,G'⟩) (wR (Φ:=⟨fx,FX,G'⟩) Gv ez ((rD.map Gq.mapK).keep m.1.keeps) m.2) _) (fun w Gh p=>?_) fun U U z=>z;exact Ay hT (Gv.keep (Gv.base.grown p.1) p.1.keeps) ((Tr.of_keeps FQ).trans (Gq.trans ((Tr.of_keeps m.1.keeps).trans (Tr.of_keeps p.1.keeps)))) p.2 kz
def Ab {dv:Gs->(V->Gs->Prop)->Prop} {ds:Gs->(List V->Gs->Prop)->Prop} {nm:Str} {c j:Nat} {ev:Expr} (F3:ClsOk fx.g c) (hx:fx.ρ.lookup n=some k) (hn:aP n=true) (Gk:(fx.g.flds c)[j]?=some nm) (LC:b8 ev=true) (hv:EvX fx ev dv) (hs:Spl fx es ds) :
  ExB fx (exec (.Assign [.Subscript (.Attribute (.Name n np) nm ap) (.Tuple es kk tp) sp] ev spos) fx.env) (fun G K=>dv G fun v G1=>okK (c6 G1 k c) fun o1=>okK (mE o1 j) fun U=>ds G1 fun ys G2=>ys.length<=af/\aZ (.tuple ys)=true/\okK (c6 G2 k c) fun o2=>okK (mE o2 j) fun l=>l.length < af/\K none (G2.set k (.obj (o2.set j (.D (cX l (.tuple ys) v)))))):=fun oa G K s hd I E=>by
 rw [exec_Assign_Subscript _ _ _ _ _ (bg LC)];refine zC1 (wpAny_standAt (zC1 (hv oa G _ s _ _ hd I fun oa₁ G₁ v y s₁ FM Hc hy L4=>?_)));refine ae hy fun o1 ec1 h1=>ae h1 fun l1 el1 hp=>?_;obtain ⟨eo1,e1⟩:=cz ec1;subst e1;have ef1:=gU el1;rw [assign_Subscript];refine zC1 (zC1 (NN (gg (Φ:=⟨fx,oa₁,G₁⟩) F3 hx hn Gk FM eo1 ef1 fun w fa tk hF fl It=>?_)));obtain ⟨a,rfl,rfl,ow⟩:=je fl;refine zC1 (NN ?_);rw [arm_eval_Tuple];refine zC1 (wpAny_standAt (zC1 (hs _ oa₁ G₁ _ _ _ _ hp It fun GR Ij vs ys FN FU Gq hk rs=>?_)));obtain ⟨hz,HG,hk⟩:=hk;refine ae hk fun o2 ec2 h2=>ae h2 fun l el2 hk=>?_;obtain ⟨eo2,e2⟩:=cz ec2;have ef2:=gU el2;refine wpAny_newObj_type ?_ (by refine (?_:vs.toArray.size<=sizeLine); rw [size_toArray,rs.length]; exact bF hz);have m:=cC (Φ:=⟨fx,GR,Ij⟩) (n:=0) (tk:=FN.toks) FU rs;have Gv:=FU.keep (FU.base.grown m.1) m.1.keeps;obtain ⟨o0,q1,q2,q3⟩:=(Gq.sl k).objs o2 eo2 (by rw [(eo1:getSlot (Ct.mk fx oa₁ G₁).G k=_)]; nofun);have hF:(oa₁ k)[j]?=some [a]:=hF;have q2:GR k=oa₁ k:=q2;rw [<- q2] at hF;refine jH (Φ:=⟨fx,GR,Ij⟩) Gv eo2 ef2 fun b a' od ws w fa pr hb ho hf hw MK fl2 own st=>?_;obtain rfl:=LE (hF.symm.trans MK);obtain ⟨a'',rfl,q,ow2⟩:=je fl2;obtain rfl:=(zA5 q).1;refine zC1 (wpAny_standAt (zC1 (NN (jD (Φ:=⟨fx,GR,Ij⟩) Gv (own _ (.head _)) ow2 HG m.2 (((L4.map Gq.mapK)).keep m.1.keeps) hk.1 fun h' tk' c' Iu=>bv (zC2 ?_)))));have q:=st { FN with heap:=h',toks:=tk' } (.D (cX l (.tuple ys) y)) rfl rfl (fun b ob n e=>c'.kp b ob (fun q=>n (by rw [q]; exact .head _)) e) c'.live (.D Iu);exact .next (Φ:=⟨fx,oa,G⟩) q.1 (((Hc.trans (Tr.of_keeps (s':={ s₁ with toks:=tk }) (.refl _))).trans Gq).trans ((Tr.of_keeps m.1.keeps).trans q.2)) hk.2
end
end Mine
end
noncomputable section
namespace Mine
open PySem PySem.SetTable
def Bn {G:Prop} (h:∀ P:Prop,(G->P)->P):G:=h G id
def mV (xs:Array Nat):Prop:=∀ i j a b:Nat,i < j->xs[i]?=some a->xs[j]?=some b->a < b
def Dw (h:lo < hi):(lo+hi) / 2 < hi:=Nat.div_lt_of_lt_mul (by rw [two_mul]; exact Nat.add_lt_add_right h hi)
def EZ (h:lo<=hi):lo<=(lo+hi) / 2:=(Nat.le_div_iff_mul_le (by decide)).mpr (by rw [mul_two]; exact Q7 h lo)
theorem jQ (r:mV xs):∀ FW lo hi,lo<=hi->hi<=xs.size->hi<=lo+FW->(∀ i a:Nat,i < lo->xs[i]?=some a->a < j)->(∀ i a:Nat,hi<=i->xs[i]?=some a->j<=a) ->
  below.go xs j FW lo hi<=xs.size/\(∀ i a:Nat,i < below.go xs j FW lo hi->xs[i]?=some a->a < j)/\∀ i a:Nat,below.go xs j FW lo hi<=i->xs[i]?=some a->j<=a
 | 0,lo,hi,h1,h2,h3,h4,h5=>⟨zB1 h1 h2,h4,fun i a q=>h5 i a (zB1 h3 q)⟩
 | FW+1,lo,hi,h1,h2,h3,h4,h5=>by
  rw [show below.go xs j (FW+1) lo hi=if lo < hi then (if xs.getD ((lo+hi) / 2) j < j then below.go xs j FW ((lo+hi) / 2+1) hi else below.go xs j FW lo ((lo+hi) / 2)) else lo from rfl];by_cases h:lo < hi
  ·rw [NP h];have hm:(lo+hi) / 2 < xs.size:=Q1 (Dw h) h2;have e:xs[(lo+hi) / 2]?=some (xs.getD ((lo+hi) / 2) j):=by simp [hm]
   by_cases c:xs.getD ((lo+hi) / 2) j < j
   ·rw [NP c];refine jQ r FW _ hi (Dw h) h2 (zB1 h3 (zB1 (add_le_add_right (EZ h1) (FW+1)) (zB2 (add_right_comm _ 1 FW).symm))) (fun i a q ea=>?_) h5;by_cases q':i=(lo+hi) / 2
    ·subst q'; rw [e] at ea; (injection ea with ea; subst ea); exact c
    ·exact lt_trans (r _ _ _ _ (lt_of_le_of_ne (Qb q) q') ea e) c
   ·rw [NQ c];refine jQ r FW lo _ (EZ h1) (le_of_lt hm) (Qb (Q1 (Dw h) h3)) h4 fun i a q ea=>?_;by_cases q':i=(lo+hi) / 2
    ·subst q'; rw [e] at ea; (injection ea with ea; subst ea); exact le_of_not_lt c
    ·exact le_of_lt (Q0 (le_of_not_lt c) (r _ _ _ _ (lt_of_le_of_ne q (Ne.symm q')) e ea))
  ·rw [NQ h];exact ⟨zB1 h1 h2,h4,fun i a q=>h5 i a (by exact zB1 (not_lt.mp h) q)⟩
def d6 (r:mV xs) (j:Nat):below xs j<=xs.size/\(∀ i a:Nat,i < below xs j->xs[i]?=some a->a < j)/\∀ i a:Nat,below xs j<=i->xs[i]?=some a->j<=a:=
 jQ r _ _ _ (zero_le _) (le_refl _) (le_add_left _ _) (fun U U q=>absurd q (not_lt_zero _)) fun i a q e=>by rw [getElem?_eq_none q] at e; (injection e; done)
def jR (r:mV xs) (e:xs[i]?=some j):below xs j=i:=by
 obtain ⟨_,h1,h2⟩:=d6 r j;rcases lt_trichotomy i (below xs j) with q | q | q
 ·exact absurd (h1 _ _ q e) (lt_irrefl _)
 ·exact q.symm
 ·have hb:below xs j < xs.size:=by
   have:i < xs.size:=by rcases lt_or_ge i xs.size with q | q; exact q; rw [getElem?_eq_none q] at e; (injection e; done)
   exact lt_trans q this
  have e':xs[below xs j]?=some xs[below xs j]:=by simp
  have a1:=h2 _ _ (le_refl _) e';have a2:=r _ _ _ _ q e' e;exact absurd a1 (not_le.mpr a2)
def oO {xs:Array Nat} (r:mV xs) {i k j:Nat} (e:xs[i]?=some j) (e':xs[k]?=some j):i=k:=(jR r e).symm.trans (jR r e')
def sQ (r:mV xs):∃ e,e<=xs.size/\∀ i:Nat,xs[i]?≠some e:=by
 refine byContradiction fun c=>?_;have all:∀ e,e<=xs.size->∃ i:Nat,xs[i]?=some e:=fun e h=>byContradiction fun q=>c ⟨e,h,fun i z=>q ⟨i,z⟩⟩;have up:∀ e,e<=xs.size->∀ i:Nat,xs[i]?=some e->e<=i:=fun e=>by
  induction e with
  | zero=>exact fun U U U=>zero_le _
  | succ e ih=>
   intro h i z;obtain ⟨k,hk⟩:=all e (le_of_succ_le h);have:=ih (le_of_succ_le h) k hk;rcases lt_trichotomy i k with q | q | q
   ·exact absurd (r _ _ _ _ q z hk) (not_lt.mpr (le_succ e))
   ·subst q; rw [z] at hk; cases hk
   ·exact Q0 this q
 obtain ⟨i,hi⟩:=all _ (le_refl _);have:=up _ (le_refl _) i hi;rw [getElem?_eq_none this] at hi; (injection hi; done)
def insertAt_list:(insertAt xs p x).toList=xs.toList.take p++x :: xs.toList.drop p:=by
 unfold insertAt;rw [toList_append,toList_push,toList_extract,toList_extract,Qa,extract_eq_take_drop,extract_eq_take_drop,drop_zero,sub_zero,List.take_of_length_le (i:=xs.size - p) (by rw [length_drop,zB3]; exact le_refl _)]; rfl
def fD (h:p<=xs.size) (i:Nat):(insertAt xs p x)[i]?=if i < p then xs[i]? else if i=p then some x else xs[i - 1]?:=by
 have lp:(xs.toList.take p).length=p:=by rw [length_take,zB3]; exact min_eq_left h
 rw [<- Q5,insertAt_list];rcases lt_trichotomy i p with hi | rfl | hi
 ·rw [NP hi,getElem?_append_left (Nat.lt_of_lt_of_eq hi lp.symm),List.getElem?_take_of_lt hi,Q5]
 ·rw [NQ (lt_irrefl _),NP rfl,getElem?_append_right (zB2 lp),lp,sub_self]; rfl
 ·rw [NQ (lt_asymm hi),NQ (ne_of_gt hi),getElem?_append_right (zB1 (zB2 lp) (le_of_lt hi)),lp];obtain ⟨k,rfl⟩:=Nat.exists_eq_add_of_lt hi;rw [add_assoc,add_sub_cancel_left,List.getElem?_cons_succ,List.getElem?_drop,Q5]; rfl
def cR (h:p<=xs.size):(insertAt xs p x).size=xs.size+1:=by
 rw [<- zB3,insertAt_list,zB5,length_take,zB3,min_eq_left h,zB4,length_drop,zB3,<- add_assoc,Q9 h]
def insertAt_cases (h:p<=xs.size) (e:(insertAt xs p x)[i]?=some y):(i=p/\x=y)\/(i≠p/\xs[if i < p then i else i - 1]?=some y):=by
 rw [fD h] at e;by_cases h1:i < p
 ·rw [NP h1] at e; exact .inr ⟨by exact ne_of_lt h1,by rw [NP h1]; exact e⟩
 ·rw [NQ h1] at e;by_cases h2:i=p
  ·rw [NP h2] at e; (injection e with e; subst e); exact .inl ⟨h2,rfl⟩
  ·rw [NQ h2] at e; exact .inr ⟨h2,by rw [NQ h1]; exact e⟩
def lF (h:p<=xs.size) (e:xs[i]?=some y):(insertAt xs p x)[if i < p then i else i+1]?=some y:=by
 rw [fD h];by_cases h1:i < p
 ·rw [NP h1,NP h1]; exact e
 ·rw [NQ h1,NQ (by exact not_lt.mpr (le_add_right_of_le (not_lt.mp h1))),NQ (by exact ne_of_gt (lt_succ_of_le (not_lt.mp h1)))]; exact e
def nW (r:mV xs) (h:∀ i:Nat,xs[i]?≠some j):mV (insertAt xs (below xs j) j):=fun i k a b HQ ea eb=>by
 obtain ⟨hp,h1,h2⟩:=d6 r j;have le:∀ i a:Nat,below xs j<=i->xs[i]?=some a->j < a:=fun i a q e=>lt_of_le_of_ne (h2 i a q e) fun z=>h i (z▸e);rcases insertAt_cases hp ea with ⟨rfl,rfl⟩ | ⟨q1,z1⟩ <;> rcases insertAt_cases hp eb with ⟨rfl,rfl⟩ | ⟨q2,z2⟩
 ·exact absurd HQ (lt_irrefl _)
 ·rw [NQ (by exact not_lt.mpr (le_of_lt HQ))] at z2; exact le _ _ (le_sub_one_of_lt HQ) z2
 ·rw [NP HQ] at z1; exact h1 _ _ HQ z1
 ·refine r _ _ _ _ ?_ z1 z2;by_cases c1:i < below xs j
  ·rw [NP c1];by_cases c2:k < below xs j
   ·rw [NP c2]; exact HQ
   ·rw [NQ c2]; exact Q1 c1 (le_sub_one_of_lt (lt_of_le_of_ne (le_of_not_lt c2) (Ne.symm q2)))
  ·have c2:¬ k < below xs j:=fun q=>c1 (lt_trans HQ q);rw [NQ c1,NQ c2];exact Nat.sub_lt_sub_right (Nat.succ_le_of_lt (Q0 (zero_le _) (lt_of_le_of_ne (le_of_not_lt c1) (Ne.symm q1)))) HQ
def slot_is {t:SetTable} (hd:t.dummies=#[]) (r:mV t.place) (j:Nat):(∃ i:Nat,t.place[i]?=some j/\t.slot j=.live i)\/(∀ i:Nat,t.place[i]?≠some j)/\t.slot j=.empty:=by
 unfold slot;by_cases h:∃ i:Nat,t.place[i]?=some j
 ·obtain ⟨i,e⟩:=h;refine .inl ⟨i,e,?_⟩;simp only [jR r e,e,NJ,if_true]
 ·have h:∀ i:Nat,t.place[i]?≠some j:=fun i e=>h ⟨i,e⟩;refine .inr ⟨h,?_⟩;have:(t.place[below t.place j]?==some j)=false:=by simpa using h _
  simp only [this,hd,has,false_eq_true,if_false];simp
noncomputable def adv (m:Nat) (p:Probe):Probe:=
 if p.more > 0 then { p with j:=p.j+1,more:=p.more - 1 } else
 { p with j:=(leap m p.i p.perturb).1,more:=runEnd m (leap m p.i p.perturb).1 - (leap m p.i p.perturb).1,i:=(leap m p.i p.perturb).1,perturb:=(leap m p.i p.perturb).2 }
noncomputable def it (m:Nat):Nat->Probe->Probe
 | 0,p=>p
 | n+1,p=>it m n (adv m p)
theorem it_add (m:Nat):∀ a b p,it m (a+b) p=it m b (it m a p)
 | 0,b,p=>by rw [zero_add]; rfl
 | a+1,b,p=>by rw [succ_add]; exact it_add m a b (adv m p)
noncomputable def beg (m i pt:Nat):Probe:={ j:=i,more:=runEnd m i - i,i:=i,perturb:=pt,dummy:=none }
noncomputable def lp (m:Nat) (q:Nat×Nat):Nat×Nat:=leap m q.1 q.2
theorem nA (m:Nat):∀ k p,p.more=k->p.dummy=none->it m (k+1) p=beg m (lp m (p.i,p.perturb)).1 (lp m (p.i,p.perturb)).2
 | 0,p,h,hd=>by
  refine (?_:adv m p=_);unfold adv; rw [NQ (by rw [h]; exact lt_irrefl _),hd]; rfl
 | k+1,p,h,hd=>by
  have e:adv m p={ p with j:=p.j+1,more:=p.more - 1 }:=NP (by rw [h]; exact succ_pos _);refine (?_:it m (k+1) (adv m p)=_);rw [nA m k (adv m p) (by rw [e]; refine (?_:p.more - 1=k); rw [h]; rfl) (by rw [e]; exact hd),e]
def l7 (m i:Nat):runEnd m i - i<=9:=by
 unfold runEnd;split
 ·exact zB2 (add_sub_cancel_left _ _)
 ·rw [sub_self]; exact zero_le _
noncomputable def lps (m:Nat):Nat->Nat×Nat->Nat×Nat
 | 0,q=>q
 | r+1,q=>lps m r (lp m q)
theorem sO (m:Nat):∀ r p,p.more<=9->p.dummy=none->∃ N,N<=10 * (r+1)/\it m N p=beg m (lps m (r+1) (p.i,p.perturb)).1 (lps m (r+1) (p.i,p.perturb)).2
 | 0,p,h,hd=>⟨p.more+1,succ_le_succ h,nA m _ p rfl hd⟩
 | r+1,p,h,hd=>by
  obtain ⟨N,h1,h2⟩:=sO m r (beg m (lp m (p.i,p.perturb)).1 (lp m (p.i,p.perturb)).2) (l7 _ _) rfl;refine ⟨p.more+1+N,zB1 (add_le_add (succ_le_succ h) h1) (zB2 (add_comm 10 _)),?_⟩;rw [it_add,nA m _ p rfl hd]; exact h2
theorem lps_add (m:Nat):∀ a b q,lps m (a+b) q=lps m b (lps m a q)
 | 0,b,q=>by rw [zero_add]; rfl
 | a+1,b,q=>by rw [succ_add]; exact lps_add m a b (lp m q)
theorem sG (m:Nat):∀ r q,(lps m r q).2=q.2 / 32 ^ r
 | 0,q=>(Nat.div_one _).symm
 | r+1,q=>(sG m r (lp m q)).trans (by refine (?_:q.2 / 32 / 32 ^ r=_); rw [Nat.div_div_eq_div_mul,pow_succ,mul_comm])
theorem sI (m:Nat):∀ r q,q.1<=m->(lps m r q).1<=m
 | 0,q,h=>h
 | r+1,q,_=>sI m r (lp m q) (Qb (mod_lt _ (succ_pos _)))
noncomputable def orb (m:Nat):Nat->Nat
 | 0=>0
 | n+1=>(orb m n * 5+1) % (m+1)
def Msk (m:Nat):Prop:=m=7\/m=31\/m=127\/m=511\/m=2047\/m=8191
theorem Msk.pow {m:Nat} (h:Msk m):∃ k,m+1=2 ^ k:=by
 rcases h with rfl | rfl | rfl | rfl | rfl | rfl
 ·exact ⟨3,rfl⟩
 ·exact ⟨5,rfl⟩
 ·exact ⟨7,rfl⟩
 ·exact ⟨9,rfl⟩
 ·exact ⟨11,rfl⟩
 ·exact ⟨13,rfl⟩
noncomputable def gs:Nat->Nat
 | 0=>0
 | n+1=>gs n * 5+1
theorem orb_gs (m:Nat):∀ n,orb m n=gs n % (m+1)
 | 0=>(Nat.zero_mod _).symm
 | n+1=>by
  refine (?_:(orb m n * 5+1) % (m+1)=(gs n * 5+1) % (m+1));rw [orb_gs m n,add_mod,Nat.mod_mul_mod,<- add_mod]
theorem rf (a:Nat):∀ b,gs (a+b)=gs b+5 ^ b * gs a
 | 0=>by rw [add_zero,Nat.pow_zero,one_mul]; exact (zero_add _).symm
 | b+1=>by
  refine (?_:gs (a+b) * 5+1=(gs b * 5+1)+5 ^ (b+1) * gs a);rw [rf a b,pow_succ];grind
theorem pp:∀ n,5 ^ n % 4=1
 | 0=>rfl
 | n+1=>by rw [pow_succ,Nat.mul_mod,pp n]
theorem xA:∀ n,gs n % 2=n % 2
 | 0=>rfl
 | n+1=>by
  show (gs n * 5+1) % 2=_
  rw [add_mod,Nat.mul_mod,xA n,add_mod n 1];rcases Nat.mod_two_eq_zero_or_one n with e | e <;> rw [e]
theorem xB:∀ k n,2 ^ k ∣ gs n->2 ^ k ∣ n
 | 0,n,_=>⟨n,(one_mul n).symm⟩
 | k+1,n,h=>by
  have h2:n % 2=0:=by
   rw [<- xA n];exact Nat.mod_eq_zero_of_dvd (Nat.dvd_trans ⟨2 ^ k,by rw [pow_succ,mul_comm]⟩ h)
  obtain ⟨m,rfl⟩:∃ m,n=m+m:=⟨n / 2,by rw [<- two_mul]; exact (Nat.mul_div_cancel' (Nat.dvd_of_mod_eq_zero h2)).symm⟩;rw [rf m m] at h;obtain ⟨q,hq⟩:∃ q,5 ^ m+1=2 * (2 * q+1):=⟨5 ^ m / 4,by rw [Nat.mul_add,<- Nat.mul_assoc]; exact NO (· + 1) ((pp m▸Nat.div_add_mod (5 ^ m) 4:4 * (5 ^ m / 4)+1=5 ^ m).symm)⟩;have e:gs m+5 ^ m * gs m=2 * ((2 * q+1) * gs m):=by
   rw [<- Nat.mul_assoc,<- hq,Nat.add_mul,one_mul,add_comm]
  rw [e,pow_succ,mul_comm (2 ^ k) 2] at h;have h:=Nat.dvd_of_mul_dvd_mul_left (by decide:0 < 2) h;have c:Coprime (2 ^ k) (2 * q+1):=Coprime.pow_left k (by
   rw [Nat.coprime_iff_gcd_eq_one];have:Nat.gcd 2 (2 * q+1) ∣ 1:=by
    have h1:=Nat.gcd_dvd_left 2 (2 * q+1);have h2:=Nat.gcd_dvd_right 2 (2 * q+1);exact (Nat.dvd_add_right (Nat.dvd_trans h1 ⟨q,rfl⟩)).mp h2
   exact Nat.eq_one_of_dvd_one this)
  have h:=xB k m (c.dvd_of_dvd_mul_left h);obtain ⟨r,hr⟩:=h;exact ⟨r,by rw [pow_succ,Nat.mul_right_comm,<- hr]; exact (mul_two m).symm⟩
def sn {m k a b:Nat} (hm:m+1=2 ^ k) (h:orb m a=orb m (a+b)):2 ^ k ∣ b:=by
 rw [orb_gs,orb_gs,hm,add_comm a b,rf b a] at h;have z:=Nat.sub_mod_eq_zero_of_mod_eq h.symm;rw [add_sub_cancel_left] at z;exact xB k b ((Coprime.pow k a (by decide:Coprime 2 5)).dvd_of_dvd_mul_left (Nat.dvd_of_mod_eq_zero z))
def Cp (m n:Nat):orb m n < m+1:=by rw [orb_gs]; exact mod_lt _ (succ_pos _)
def Co {m k i j:Nat} (hm:m+1=2 ^ k) (h:i < j) (hj:j < i+(m+1)):orb m i≠orb m j:=fun e=>by
 obtain ⟨d,rfl⟩:=Nat.exists_eq_add_of_lt h;have q:=sn hm (b:=d+1) e;rw [<- hm] at q;exact absurd (Nat.le_of_dvd (succ_pos _) q) (not_le.mpr (Nat.lt_of_add_lt_add_left (by rw [<- add_assoc]; exact hj)))
def kO {m k e:Nat} (hm:m+1=2 ^ k) (he:e<=m):∃ b,b<=m/\e=orb m (b+1):=by
 refine byContradiction fun no=>?_;have nd:(e :: (List.range (m+1)).map fun b=>orb m (b+1)).Nodup:=by
  refine nodup_cons.mpr ⟨fun z=>?_,pairwise_map.mpr (List.pairwise_lt_range.imp_of_mem fun {i j} mi mj h=>?_)⟩
  ·obtain ⟨b,mb,q⟩:=zA7 z;exact no ⟨b,Qb (mem_range.mp mb),q.symm⟩
  ·exact Co hm (Nat.succ_lt_succ h) (Q1 (Nat.succ_lt_succ (mem_range.mp mj)) (by rw [add_comm (i+1)]; exact Q7 (le_add_left 1 i) _))
 have l:=nd.length_le_of_subset (l₂:=List.range (m+1)) fun x mx=>by
  rcases mem_cons.mp mx with rfl | mx
  ·exact mem_range.mpr (lt_succ_of_le he)
  ·obtain ⟨b,_,rfl⟩:=zA7 mx;exact mem_range.mpr (Cp _ _)
 rw [zB4,zA4,length_range] at l;exact absurd l (Nat.not_succ_le_self _)
def vF {m k:Nat} (hm:m+1=2 ^ k):orb m (m+1)=0:=by
 obtain ⟨b,hb,e⟩:=kO hm (zero_le m);have q:=sn hm (a:=0) (b:=b+1) (by rw [zero_add]; exact e);rw [<- hm] at q;have z:m=b:=le_antisymm (Nat.le_of_succ_le_succ (Nat.le_of_dvd (succ_pos _) q)) hb;exact (NO (fun x=>orb m (x+1)) z).trans e.symm
def sq {m e:Nat} (h:Msk m) (he:e<=m):∃ b,b<=m/\e=orb m (b+1):=h.pow.elim fun U q=>kO q he
theorem sH (m:Nat):∀ r a,lps m r (orb m a,0)=(orb m (a+r),0)
 | 0,_=>rfl
 | r+1,a=>by
  have e:lp m (orb m a,0)=(orb m (a+1),0):=by unfold lp leap; rw [Nat.zero_div]; rfl
  refine (?_:lps m r (lp m (orb m a,0))=_);rw [e,sH m r (a+1),add_right_comm a 1 r]; rfl
theorem iU (h:Msk m):∀ b,orb m (b+(m+1))=orb m b
 | 0=>by rw [zero_add]; exact h.pow.elim fun U q=>vF q
 | b+1=>by rw [add_right_comm b 1 (m+1)]; refine (?_:(_ * 5+1) % (m+1)=_); rw [iU h b]; rfl
def A6 (h:Msk m) (hi:i<=m) (hp:pt < 2 ^ 64) (he:e<=m):∃ r,r<=m+13/\(lps m (r+1) (i,pt)).1=e:=by
 have z:lps m 13 (i,pt)=((lps m 13 (i,pt)).1,0):=Prod.ext rfl ((sG m 13 (i,pt)).trans (Nat.div_eq_of_lt (Q1 hp (by decide))));obtain ⟨a,ha,ea⟩:=sq h (sI m 13 (i,pt) hi);obtain ⟨b,hb,eb⟩:=sq h he;rw [ea] at z;have go:∀ r,(lps m (13+r) (i,pt)).1=orb m (a+1+r):=fun r=>by rw [lps_add,z,sH]
 by_cases c:a < b
 ·exact ⟨12+(b - a),add_comm 13 m▸add_le_add (by decide:12<=13) (zB1 (sub_le b a) hb),by rw [show 12+(b - a)+1=13+(b - a) by exact add_right_comm _ _ _,go,eb,add_right_comm a,Q9 (le_of_lt c)]⟩
 ·refine ⟨12+(m+1+b - a),zB1 (Q7 (Nat.sub_le_of_le_add (Q7 (le_of_not_lt c) (m+1))) 12) (zB2 (add_comm 12 (m+1))),?_⟩;rw [show 12+(m+1+b - a)+1=13+(m+1+b - a) by exact add_right_comm _ _ _,go,eb,<- iU h (b+1),add_right_comm a,Q9 (zB1 ha (zB1 (le_succ m) (Q3 _ _))),add_assoc,add_comm]
def CS (h:Msk m) (hi:p.i<=m) (hp:p.perturb < 2 ^ 64) (hm:p.more<=9) (hd:p.dummy=none) (he:e<=m):∃ N,N < 10 * turns m/\(it m N p).j=e:=by
 obtain ⟨r,hr,q⟩:=A6 h hi hp he;obtain ⟨N,h1,h2⟩:=sO m r p hm hd;exact ⟨N,by unfold turns; exact Q0 h1 (Nat.mul_lt_mul_of_pos_left (Nat.succ_lt_succ (lt_succ_of_le hr)) (by decide)),by rw [h2]; exact q⟩
def tu (h:Int):bits h < 2 ^ 64:=by unfold bits; exact (toNat_lt (Int.emod_nonneg _ (by decide))).mpr (Int.emod_lt_of_pos _ (by decide))
def pos (m:Nat) (h:Int) (n:Nat):Probe:=it m n (beg m (bits h % (m+1)) (bits h))
def In (t:SetTable) (j:Nat):Prop:=∃ i:Nat,t.place[i]?=some j
def Way (t:SetTable) (h:Int) (j:Nat):Prop:=∃ n,(pos t.mask h n).j=j/\∀ n',n' < n->In t (pos t.mask h n').j
structure Tab {β:Type} (t:SetTable) (es:Array (Int×β)):Prop where
 msk:Msk t.mask
 dm:t.dummies=#[]
 sz:t.place.size=es.size
 rise:mV t.place
 le:∀ i j:Nat,t.place[i]?=some j->j<=t.mask
 way:∀ (i j:Nat) e,t.place[i]?=some j->es[i]?=some e->Way t e.1 j
theorem Bd:∀ {n:Nat} {p:Probe},p.dummy=none->(it m n p).dummy=none
 | 0,_,h=>h
 | n+1,p,h=>Bd (n:=n) (p:=adv m p) (by unfold adv; split <;> exact h)
def zT (hd:t.dummies=#[]) (r:mV t.place):∀ N FW p,N < FW->p.dummy=none->¬ In t (it t.mask N p).j ->
  ∃ n,n<=N/\(∀ n',n' < n->∃ i:Nat,t.place[i]?=some (it t.mask n' p).j/\hashAt i≠h) /\
   (¬ In t (it t.mask n p).j/\probe.go t hashAt h FW p=some (.empty (it t.mask n p).j none) \/
    ∃ i:Nat,t.place[i]?=some (it t.mask n p).j/\hashAt i=h/\probe.go t hashAt h FW p=some (.candidate (it t.mask n p).j i (it t.mask (n+1) p))):=by
 intro N;induction N with
 | zero=>
  intro FW p hf hp he;obtain ⟨FW,rfl⟩:=Nat.exists_eq_succ_of_ne_zero (ne_of_gt hf);refine ⟨0,le_refl _,fun U q=>absurd q (not_lt_zero _),.inl ⟨he,?_⟩⟩;rcases slot_is hd r p.j with ⟨i,e,_⟩ | ⟨_,e⟩
  ·exact absurd ⟨i,e⟩ he
  ·unfold probe.go; rw [e]; refine (?_:some (Met.empty p.j p.dummy)=_); rw [hp]; rfl
 | succ N ih=>
  intro FW p hf hp he;obtain ⟨FW,rfl⟩:=Nat.exists_eq_succ_of_ne_zero (ne_of_gt (Q0 (zero_le _) hf));rcases slot_is hd r p.j with ⟨i,e,es⟩ | ⟨e,es⟩
  ·by_cases c:hashAt i=h
   ·refine ⟨0,zero_le _,fun U q=>absurd q (not_lt_zero _),.inr ⟨i,e,c,?_⟩⟩;unfold probe.go; rw [es]; exact NP (beq_iff_eq.mpr c)
   ·obtain ⟨n,h1,h2,h3⟩:=ih FW (adv t.mask p) (Nat.lt_of_succ_lt_succ hf) (Bd (n:=1) hp) he;have hg:probe.go t hashAt h (FW+1) p=probe.go t hashAt h FW (adv t.mask p):=by
     rw [probe.go]; rw [es]; exact NQ fun q=>c (beq_iff_eq.mp q)
    refine ⟨n+1,succ_le_succ h1,fun n' q=>?_,?_⟩
    ·cases n' with
     | zero=>exact ⟨i,e,c⟩
     | succ n'=>exact h2 n' (Nat.lt_of_succ_lt_succ q)
    ·rw [hg]; exact h3
  ·refine ⟨0,zero_le _,fun U q=>absurd q (not_lt_zero _),.inl ⟨(by rintro ⟨i,q⟩; exact e i q),?_⟩⟩;unfold probe.go; rw [es]; refine (?_:some (Met.empty p.j p.dummy)=_); rw [hp]; rfl
theorem Bb:∀ n p,p.i<=m->p.perturb < 2 ^ 64->p.more<=9->(it m n p).i<=m/\(it m n p).perturb < 2 ^ 64/\(it m n p).more<=9
 | 0,p,h1,h2,h3=>⟨h1,h2,h3⟩
 | n+1,p,h1,h2,h3=>by
  refine Bb n (adv m p) ?_ ?_ ?_ <;> unfold adv <;> split
  ·exact h1
  ·exact Qb (mod_lt _ (succ_pos _))
  ·exact h2
  ·exact Q0 (Nat.div_le_self _ _) h2
  ·exact zB1 (sub_le _ _) h3
  ·exact l7 _ _
section
variable {β:Type} {t:SetTable} {es:Array (Int×β)}
theorem Tab.gap (T:Tab t es) (hf:t.place.size<=t.mask) (h:Int) (k:Nat):∃ N,N < 10 * turns t.mask/\¬ In t (it t.mask N (pos t.mask h k)).j:=by
 obtain ⟨e,he,q⟩:=sQ T.rise;have o:=Bb (m:=t.mask) k (beg t.mask (bits h % (t.mask+1)) (bits h)) (Qb (mod_lt _ (succ_pos _))) (tu h) (l7 _ _);obtain ⟨N,h1,h2⟩:=CS (p:=pos t.mask h k) T.msk o.1 o.2.1 o.2.2 (Bd rfl) (zB1 he hf);exact ⟨N,h1,(by rintro ⟨i,z⟩; exact q i (by rw [z,h2]))⟩
theorem Tab.put (T:Tab t es) (hw:Way t h j) (hj:¬ In t j) (hl:j<=t.mask):(t.put j).1.mask=t.mask/\(t.put j).1.place.size=es.size+1/\Tab (t.put j).1 (insertAt es (t.put j).2 (h,x)):=by
 have hp:=(d6 T.rise j).1;have ep:(t.put j).1.place=insertAt t.place (below t.place j) j:=rfl;have ed:(t.put j).1.dummies=#[]:=by refine (?_:(if has t.dummies j then _ else t.dummies)=_); rw [T.dm]; rfl
 have JV:below t.place j<=es.size:=T.sz▸hp;have up:∀ {k},In t k->In (t.put j).1 k:=fun ⟨i,e⟩=>⟨_,lF hp e⟩;have upw:∀ {k h},Way t h k->Way (t.put j).1 h k:=fun ⟨n,a,b⟩=>⟨n,a,fun n' q=>up (b n' q)⟩;refine ⟨rfl,by rw [ep,cR hp,T.sz],T.msk,ed,by rw [ep,cR hp]; exact T.sz▸(cR JV).symm,nW T.rise fun i e=>hj ⟨i,e⟩,fun i k e=>?_,fun i k e ek ee=>?_⟩
 ·rcases insertAt_cases hp e with ⟨_,rfl⟩ | ⟨_,e⟩
  ·exact hl
  ·exact T.le _ _ e
 ·rcases insertAt_cases hp ek with ⟨rfl,rfl⟩ | ⟨q,ek⟩
  ·rcases insertAt_cases JV ee with ⟨_,rfl⟩ | ⟨q,_⟩
   ·exact upw hw
   ·exact absurd rfl q
  ·rcases insertAt_cases JV ee with ⟨q',_⟩ | ⟨_,ee⟩
   ·exact absurd q' q
   ·exact upw (T.way _ _ _ ek ee)
end
def Occ (O:Array (Option Nat)) (j:Nat):Prop:=∃ c,O[j]?=some (some c)
theorem Bf:∀ {k:Nat} {p:Probe},k<=p.more->(it m k p).j=p.j+k
 | 0,_,_=>rfl
 | k+1,p,h=>by
  have e:adv m p={ p with j:=p.j+1,more:=p.more - 1 }:=NP (Q1 (succ_pos _) h);refine (?_:(it m k (adv m p)).j=_);rw [Bf (p:=adv m p) (by rw [e]; exact Nat.le_sub_of_add_le h),e];refine (?_:p.j+1+k=_); lia
def w3 (h:i<=m):i<=runEnd m i/\runEnd m i<=m:=by unfold runEnd; split <;> lia
def occ_or (hs:O.size=m+1) (hj:j<=m):(Occ O j/\(O.getD j (some 0)).isNone=false)\/¬ Occ O j/\(O.getD j (some 0)).isNone=true:=by
 have e:O[j]?=some (O.getD j (some 0)):=by rw [Array.getD_eq_getD_getElem?,Array.getElem?_eq_getElem (by lia)]; rfl
 unfold Occ;refine e.symm▸?_;cases O.getD j (some 0) with
 | none=>exact .inr ⟨((by rintro ⟨c,q⟩; exact nomatch q)),rfl⟩
 | some c=>exact .inl ⟨⟨c,rfl⟩,rfl⟩
def uh (hs:O.size=m+1):∀ r FW i pt,r < FW->i<=m->¬ Occ O (lps m r (i,pt)).1 ->
  ∃ n j,layClean.free m O FW i pt=some j/\(it m n (beg m i pt)).j=j/\j<=m/\¬ Occ O j/\∀ n',n' < n->Occ O (it m n' (beg m i pt)).j:=by
 intro r FW;induction FW generalizing r with
 | zero=>exact fun U U h=>absurd h (not_lt_zero _)
 | succ FW ih=>
  intro i pt hr hi he;have Mu:=w3 hi;have er:runEnd m i+1 - i=runEnd m i - i+1:=Nat.succ_sub Mu.1;have inr:∀ k,k < runEnd m i+1 - i->(it m k (beg m i pt)).j=i+k/\i+k<=m:=fun k hk=>have hk:k<=runEnd m i - i:=Qb (Nat.lt_of_lt_of_eq hk er); ⟨Bf (p:=beg m i pt) hk,zB1 (Nat.add_le_of_le_sub' Mu.1 hk) Mu.2⟩;unfold layClean.free;cases hf:(List.range (runEnd m i+1 - i)).find? fun k=>(O.getD (i+k) (some 0)).isNone with
  | some k=>
   obtain ⟨h1,h2,h3⟩:=List.find?_range_eq_some.mp hf;have hk:=inr k (mem_range.mp h2);refine ⟨k,i+k,rfl,hk.1,hk.2,?_,fun n' q=>?_⟩
   ·rcases occ_or hs hk.2 with ⟨_,z⟩ | ⟨z,_⟩
    ·replace h1:=z▸h1; (injection h1; done)
    ·exact z
   ·have hn:=inr n' (lt_trans q (mem_range.mp h2));rcases occ_or hs hn.2 with ⟨z,_⟩ | ⟨_,z⟩
    ·rw [hn.1]; exact z
    ·have:=h3 n' q; replace this:=z▸this; (injection this; done)
  | none=>
   have hn:=List.find?_range_eq_none.mp hf;have occ:∀ n',n' < runEnd m i+1 - i->Occ O (it m n' (beg m i pt)).j:=fun n' q=>by
    rcases occ_or hs (inr n' q).2 with ⟨z,_⟩ | ⟨_,z⟩
    ·rw [(inr n' q).1]; exact z
    ·have:=hn n' q; replace this:=z▸this; (injection this; done)
   cases r with
   | zero=>exact absurd (occ 0 (er▸succ_pos _)) he
   | succ r=>
    obtain ⟨n,j,e1,e2,e3,e4,e5⟩:=ih r (lp m (i,pt)).1 (lp m (i,pt)).2 (Nat.lt_of_succ_lt_succ hr) (Qb (mod_lt _ (succ_pos _))) he;have KD:=nA m (runEnd m i - i) (beg m i pt) rfl rfl;refine ⟨runEnd m i - i+1+n,j,e1,?_,e3,e4,fun n' q=>?_⟩
    ·rw [it_add,KD]; exact e2
    ·by_cases c:n' < runEnd m i+1 - i
     ·exact occ n' c
     ·have c:=er▸le_of_not_lt c;have:=e5 (n' - (runEnd m i - i+1)) (Nat.sub_lt_left_of_lt_add c q);rw [<- Q9 c,it_add,KD]; exact this
structure LInv (m:Nat) (H:Nat->Int) (O:Array (Option Nat)) (k:Nat):Prop where
 sz:O.size=m+1
 way:∀ j c:Nat,O[j]?=some (some c)->c < k/\∃ n,(pos m (H c) n).j=j/\∀ n',n' < n->Occ O (pos m (H c) n').j
 all:∀ c,c < k->Exists fun j:Nat=>O[j]?=some (some c)
 inj:∀ j j' c:Nat,O[j]?=some (some c)->O[j']?=some (some c)->j=j'
noncomputable def live (m:Nat) (O:Array (Option Nat)):List (Nat×Nat):=(List.range (m+1)).filterMap fun j=>(O.getD j none).map (j,·)
section
variable {m:Nat} {H:Nat->Int} {O:Array (Option Nat)} {k:Nat}
def ch (hs:O.size=m+1):(j,c)∈live m O ↔ O[j]?=some (some c):=by
 unfold live;rw [mem_filterMap];constructor
 ·rintro ⟨j',_,e⟩;obtain ⟨c',ec,q⟩:=map_eq_some_iff.mp e;cases q
  replace ec:=(Array.getD_eq_getD_getElem?)▸ec;cases h:O[j]? with
  | none=>replace ec:=h▸ec; cases ec
  | some v=>rw [h] at ec; exact NO some ec
 ·intro e;have hj:j < O.size:=by rcases lt_or_ge j O.size with q | q; exact q; replace e:=(getElem?_eq_none q)▸e; cases e
  exact ⟨j,mem_range.mpr (hs▸hj),by rw [Array.getD_eq_getD_getElem?,e]; rfl⟩
def kR:(live m O).Pairwise fun a b=>a.1 < b.1:=by
 refine Pairwise.filterMap _ (fun a a' h b hb b' HA=>?_) List.pairwise_lt_range;obtain ⟨c,_,rfl⟩:=map_eq_some_iff.mp hb;obtain ⟨c',_,rfl⟩:=map_eq_some_iff.mp HA;exact h
def eD (L:LInv m H O k):((live m O).map (·.2)).Perm (List.range k):=by
 refine (List.perm_ext_iff_of_nodup ?_ nodup_range).mpr fun c=>?_
 ·refine Pairwise.map _ (fun a b h=>h) ((kR (m:=m) (O:=O)).imp_of_mem fun {a b} ha hb h e=>?_);have e1:=(ch L.sz).mp (ha:(a.1,a.2)∈live m O);have e2:=(ch L.sz).mp (hb:(b.1,b.2)∈live m O);rw [<- e] at e2;exact absurd (L.inj _ _ _ e1 e2) (ne_of_lt h)
 ·rw [mem_map,mem_range];constructor
  ·rintro ⟨⟨j,c⟩,hm,rfl⟩; exact (L.way _ _ ((ch L.sz).mp hm)).1
  ·intro hc;obtain ⟨j,e⟩:=L.all c hc;exact ⟨(j,c),(ch L.sz).mpr e,rfl⟩
def cY (m:Nat) (O:Array (Option Nat)):Array Nat:=((live m O).map (·.1)).toArray
def da {i j:Nat} (e:(cY m O)[i]?=some j):∃ c,(live m O)[i]?=some (j,c):=by
 unfold cY at e;replace e:=(getElem?_map)▸(List.getElem?_toArray)▸e;obtain ⟨q,h,rfl⟩:=map_eq_some_iff.mp e;exact ⟨_,h⟩
def place_rise:mV (cY m O):=fun i j a b h ea eb=>by
 obtain ⟨c,ec⟩:=da ea;obtain ⟨d,ed⟩:=da eb;obtain ⟨hi,qi⟩:=List.getElem?_eq_some_iff.mp ec;obtain ⟨hj,qj⟩:=List.getElem?_eq_some_iff.mp ed;have:=pairwise_iff_getElem.mp (kR (m:=m) (O:=O)) i j hi hj h;rw [qi,qj] at this; exact this
def iP (L:LInv m H O k):(cY m O).size=k:=by
 have:=(eD L).length_eq;rw [zA4,length_range] at this;unfold cY; rw [size_toArray,zA4,this]
def oR (L:LInv m H O k) {j:Nat}:(∃ i:Nat,(cY m O)[i]?=some j) ↔ Occ O j:=by
 constructor
 ·rintro ⟨i,e⟩;obtain ⟨c,ec⟩:=da e;exact ⟨c,(ch L.sz).mp (mem_of_getElem? ec)⟩
 ·rintro ⟨c,e⟩;obtain ⟨i,hi⟩:=getElem?_of_mem ((ch L.sz).mpr e);exact ⟨i,by unfold cY; rw [List.getElem?_toArray,getElem?_map,hi]; rfl⟩
theorem LInv.step (hm:Msk m) (L:LInv m H O k) (hk:k<=m):∃ j,layClean.free m O (turns m) (bits (H k) % (m+1)) (bits (H k))=some j/\LInv m H (O.setIfInBounds j (some k)) (k+1):=by
 obtain ⟨e,he,q⟩:=sQ (place_rise (m:=m) (O:=O));replace he:=(iP L)▸he;have hb:bits (H k) % (m+1)<=m:=Qb (mod_lt _ (succ_pos _));obtain ⟨r,hr,hl⟩:=A6 hm hb (tu (H k)) (zB1 he hk);have hq:¬ Occ O e:=fun z=>by obtain ⟨i,z⟩:=(oR L).mpr z; exact q i z
 obtain ⟨n,j,e1,e2,e3,e4,e5⟩:=uh L.sz (r+1) (turns m) _ _ (by unfold turns; lia) hb (by rw [hl]; exact hq);have hj:j < O.size:=by rw [L.sz]; exact lt_succ_of_le e3
 have gs:(O.setIfInBounds j (some k))[j]?=some (some k):=by rw [Array.getElem?_setIfInBounds,NP rfl,NP hj]
 have gn:∀ i,i≠j->(O.setIfInBounds j (some k))[i]?=O[i]?:=fun i h=>by rw [Array.getElem?_setIfInBounds,NQ (Ne.symm h)]
 have up:∀ {i},Occ O i->Occ (O.setIfInBounds j (some k)) i:=fun {i} h=>by
  by_cases c:i=j
  ·subst c; exact ⟨k,gs⟩
  ·obtain ⟨c',z⟩:=h; exact ⟨c',(gn i c).trans z⟩
 refine ⟨j,e1,by rw [Array.size_setIfInBounds]; exact L.sz,fun i c z=>?_,fun c hc=>?_,fun i i' c z z'=>?_⟩
 ·by_cases h:i=j
  ·subst h; replace z:=gs▸z; cases z;exact ⟨lt_succ_self _,n,e2,fun n' h=>up (e5 n' h)⟩
  ·rw [gn i h] at z;obtain ⟨a,n,b,d⟩:=L.way _ _ z;exact ⟨Nat.lt_succ_of_lt a,n,b,fun n' h=>up (d n' h)⟩
 ·rcases Nat.lt_or_eq_of_le (Qb hc) with h | h
  ·obtain ⟨i,z⟩:=L.all c h;exact ⟨i,(gn i fun q=>e4 ⟨c,q▸z⟩).trans z⟩
  ·subst h; exact ⟨j,gs⟩
 ·by_cases h:i=j <;> by_cases h':i'=j
  ·exact h.trans h'.symm
  ·subst h; rw [gs] at z; cases z; rw [gn i' h'] at z'; exact absurd (L.way _ _ z').1 (lt_irrefl _)
  ·subst h'; rw [gs] at z'; cases z'; rw [gn i h] at z; exact absurd (L.way _ _ z).1 (lt_irrefl _)
  ·rw [gn i h] at z; rw [gn i' h'] at z'; exact L.inj _ _ _ z z'
end
noncomputable def zB (m:Nat) (acc:Option (Array (Option Nat)×Nat)) (h:Int):Option (Array (Option Nat)×Nat):=do
  let (owner,k) <- acc
  let j <- layClean.free m owner (turns m) (bits h % (m+1)) (bits h)
  pure (owner.setIfInBounds j (some k),k+1)
theorem o8 (hm:Msk m):∀ (l:List Int) (O:Array (Option Nat)) (k:Nat),(∀ i h,l[i]?=some h->H (k+i)=h)->k+l.length<=m+1->LInv m H O k ->
  ∃ O',l.foldl (zB m) (some (O,k))=some (O',k+l.length)/\LInv m H O' (k+l.length)
 | [],O,k,_,_,L=>⟨O,rfl,L⟩
 | h :: l,O,k,hH,hk,L=>by
  have e0:H k=h:=hH 0 h rfl;obtain ⟨j,e,L'⟩:=L.step hm (by rw [zB4] at hk; lia);obtain ⟨O',e',L''⟩:=o8 hm l _ (k+1) (fun i x z=>by rw [add_right_comm]; exact hH (i+1) x z) (by rw [zB4] at hk; lia) L';rw [add_right_comm] at e' L'';refine ⟨O',?_,L''⟩;rw [foldl_cons];refine Eq.trans (NO (foldl _ · l) ?_) e';rw [e0] at e;refine (?_:(layClean.free m O (turns m) (bits h % (m+1)) (bits h)).bind _=_);rw [e]; rfl
theorem b6:∀ l:List α,(List.range l.length).filterMap (l[·]?)=l
 | []=>rfl
 | x :: l=>by
  rw [zB4,List.range_succ_eq_map,filterMap_cons,List.filterMap_map];exact NO (x :: ·) (b6 l)
theorem cT {α β:Type} {f:α->Option β}:∀ {l:List α},(∀ a∈l,(f a).isSome)->∀ i:Nat,(l.filterMap f)[i]?=l[i]?.bind f
 | [],_,_=>rfl
 | a :: l,h,i=>by
  obtain ⟨b,hb⟩:=isSome_iff_exists.mp (h a (.head _));refine filterMap_cons.symm▸hb.symm▸?_;cases i with
  | zero=>exact hb.symm
  | succ i=>exact cT (fun a q=>h a (.tail _ q)) i
def zD {β:Type} {es:Array (Int×β)} {m:Nat} (hm:Msk m) (hk:es.size<=m) (fi mv:Nat) (led pl:Bool):∃ t GD,laid m fi mv led pl (es.map (·.1))=some (t,GD)/\t.mask=m /\
  (GD.filterMap (es[·]?)).toList.Perm es.toList/\Tab t (GD.filterMap (es[·]?))/\GD.toList.Perm (List.range es.size):=by
 have e0:LInv m (fun i=>(es[i]?.map (·.1)).getD 0) (Array.replicate (m+1) none) 0:=by
  have no:∀ j c:Nat,(Array.replicate (m+1) (none:Option Nat))[j]?≠some (some c):=fun j c z=>by
   rw [Array.getElem?_replicate] at z;split at z <;> cases z
  exact ⟨Array.size_replicate,fun j c z=>absurd z (no j c),fun c h=>absurd h (not_lt_zero _),fun j U c z=>absurd z (no j c)⟩
 obtain ⟨O,e1,L⟩:=o8 hm (es.toList.map (·.1)) _ 0 (fun i h z=>by rw [getElem?_map,Q5] at z; rw [zero_add,z]; rfl) (by rw [zA4,zB3]; lia) e0;rw [zero_add,zA4,zB3] at e1 L;have e2:layClean m (es.map (·.1))=some O:=by
  unfold layClean;rw [<- Array.foldl_toList,toList_map];exact (NO (Option.map _) e1).trans rfl
 have P:(((live m O).map (·.2)).toArray.filterMap (es[·]?)).toList.Perm es.toList:=by
  rw [toList_filterMap];refine (Perm.filterMap _ (eD L)).trans (.of_eq ?_);have:=b6 es.toList;simpa only [Q5,zB3] using this
 refine ⟨{ mask:=m,place:=cY m O,dummies:=#[],finger:=fi,led:=led,moves:=mv,plain:=pl },((live m O).map (·.2)).toArray,?_,rfl,P,?_,eD L⟩
 ·unfold laid; rw [e2]; rfl
 ·have hs:∀ c∈(live m O).map (·.2),(es[c]?).isSome:=fun c hc=>by
   rw [Array.getElem?_eq_getElem (mem_range.mp ((eD L).mem_iff.mp hc))]; rfl
  have hg:∀ i:Nat,((((live m O).map (·.2)).toArray.filterMap (es[·]?)))[i]?=((live m O)[i]?.map (·.2)).bind (es[·]?):=fun i=>by
   rw [<- Q5,toList_filterMap,cT hs,getElem?_map]
  refine ⟨hm,rfl,?_,place_rise,fun i j e=>?_,fun i j e ej ee=>?_⟩
  ·exact (iP L).trans ((length_toList.symm.trans P.length_eq.symm).trans zB3)
  ·obtain ⟨c,ec⟩:=da e;have:=Array.getElem?_eq_some_iff.mp ((ch L.sz).mp (mem_of_getElem? ec));exact Qb (Nat.lt_of_lt_of_eq this.1 L.sz)
  ·obtain ⟨c,ec⟩:=da ej;rw [hg,ec] at ee;have ee:es[c]?=some e:=ee;obtain ⟨_,n,a,b⟩:=L.way _ _ ((ch L.sz).mp (mem_of_getElem? ec));rw [ee] at a b;exact ⟨n,a,fun n' q=>(oR L).mpr (b n' q)⟩
def xP (m x pt:Nat):(beg m (x % (m+1)) pt).j+(beg m (x % (m+1)) pt).more<=m:=by
 have h:=w3 (Qb (mod_lt x (succ_pos m)):x % (m+1)<=m);exact zB1 (zB2 (Q9 h.1)) h.2
theorem Bc:∀ n p,p.j+p.more<=m->(it m n p).j+(it m n p).more<=m
 | 0,_,h=>h
 | n+1,p,h=>by
  refine Bc n (adv m p) ?_;unfold adv;split
  ·rename_i q;refine (?_:p.j+1+(p.more - 1)<=m);rw [add_assoc,Q9 q]; exact h
  ·exact xP m (p.i * 5+1+p.perturb / 32) 0
def Cj (m:Nat) (h:Int) (n:Nat):(pos m h n).j<=m:=
 zB1 (Q3 _ _) (Bc n (beg m (bits h % (m+1)) (bits h)) (xP m _ _))
def xx (m:Nat) (h:Int) (a b:Nat):it m b (pos m h a)=pos m h (a+b):=(it_add m a b _).symm
def vH (h:Msk m):(m % 2==0)=false:=by rcases h with rfl | rfl | rfl | rfl | rfl | rfl <;> rfl
section
variable {prog:Program} {w:World} {K:Type} [DecidableEq K] {kd:KeyKind prog w K} {A:Around} {E:GE} {s:Shared}
def BQ (kd:KeyKind prog w K) (h:Heap) (es:List (Int×Value)):Prop:=∀ e∈es,∃ ks c,e=(tupleKeyHash kd ks,.ref c)/\IsTupleKey kd h ks c
def IsK (kd:KeyKind prog w K) (h:Heap) (ks:List K) (e:Int×Value):Prop:=∃ c,e=(tupleKeyHash kd ks,.ref c)/\IsTupleKey kd h ks c
theorem Tab.fits (T:Tab t es) (hf:es.size<=t.mask):t.fits es.size=true:=by
 unfold SetTable.fits SetTable.fill;rw [T.sz,T.dm];simpa using hf
def g8 (hk:IsTupleKey kd s.heap ks b) (h:Q false s):GM prog w A (ofAClassStatement 8 (.ref b)) Q E s:=by
 have hT:=hk.typeIs;obtain ⟨o,items,n,ho,_,hd,hi⟩:=hk;unfold ofAClassStatement;refine zC1 (wpAny_typeOf hT ?_);refine (?_:wpAny _ _ (pure true >>= _) _ _ s);refine zC1 (zC2 ?_);refine (?_:wpAny _ _ (seqItems? (.ref b) >>= _) _ _ s);refine zC1 (wpAny_seqItems ho hd ?_);dsimp only;refine zC1 ?_;rw [<- forIn_toList];refine wpAny_forIn_list _ (fun FT r s'=>r.1=none/\s'=s/\∀ v∈FT,carriedByValue v=true) _ ?_ ?_ _ _ ⟨rfl,rfl,hi.byValue⟩
 ·rintro v FT r s' ⟨hr,rfl,hall⟩;have hv:=hall v List.mem_cons_self;have e:ofAClassStatement 7 v=pure false:=by cases v <;> first | rfl | (unfold ofAClassStatement; rfl) | (injection hv; done)
  rw [e];refine zC1 (zC2 ?_);exact zC2 ⟨rfl,rfl,fun u hu=>hall u (List.mem_cons_of_mem _ hu)⟩
 ·rintro ⟨r1,r2⟩ s' ⟨hr,rfl,_⟩;subst hr;exact wpAny_pure h
def B0 (hk:IsTupleKey kd s.heap ks b) (hl:∀ v∈l,∃ F5 c,v=.ref c/\IsTupleKey kd s.heap F5 c) (h:Q false s) :
  GM prog w A (searchCouldBeSeen (.ref b) l) Q E s:=by
 unfold searchCouldBeSeen;refine zC1 ?_;refine wpAny_forIn_list _ (fun FT r s'=>r.1=none/\s'=s/\∀ v∈FT,v∈l) _ ?_ ?_ _ _ ⟨rfl,rfl,fun U h=>h⟩
 ·rintro v FT r s' ⟨hr,rfl,hall⟩;obtain ⟨F5,c,rfl,hc⟩:=hl v (hall v List.mem_cons_self);have nx:∀ u∈FT,u∈l:=fun u hu=>hall u (List.mem_cons_of_mem _ hu);dsimp only;by_cases q:(b==c||(carriedByValue (.ref b)&&carriedByValue (.ref c)))=true
  ·rw [NP q]; exact zC2 ⟨rfl,rfl,nx⟩
  ·rw [NQ q];refine zC1 (wpAny_eqIsQuiet_tuple hk ?_);refine zC1 (wpAny_eqIsQuiet_tuple hc ?_);refine zC1 (g8 hk ?_);refine zC1 (g8 hc ?_);exact zC2 ⟨rfl,rfl,nx⟩
 ·rintro ⟨r1,r2⟩ s' ⟨hr,rfl,_⟩;subst hr;exact wpAny_pure h
def y8 (t:SetTable):t.sameMemory t.moves t.mask=some true:=by unfold sameMemory; rw [NJ]; rfl
def BV [Decidable c] (hm:∀ Q':Bool->Shared->Prop,Q' false s->wpAny M A m Q' E s) (h:wpAny M A y Q E s):wpAny M A (if c then m >>= fun r=>if r=true then u else y else y) Q E s:=
 wpAny_ite_split (fun U=>zC1 (hm _ (wpAny_ite_false rfl h))) fun U=>h
def tM {S:Addr} (hu:A.units < cLine) (ho:s.heap.get? S=some o) (hd:o.data=.set es ep t) (T:Tab t es) (hf:es.size<=t.mask)
  (he:BQ kd s.heap es.toList) (hk:IsTupleKey kd s.heap ks b) (Jr:(∃ e∈es.toList,IsK kd s.heap ks e)->Q (.there none) s)
  (KY:∀ j,Way t (tupleKeyHash kd ks) j->¬ In t j->j<=t.mask->(∀ e∈es.toList,¬ IsK kd s.heap ks e)->Q (.free j false) s) :
  ∀ d FW n stand,d < FW->¬ In t (pos t.mask (tupleKeyHash kd ks) (n+d)).j->stand.getD (t.probeStart (tupleKeyHash kd ks))=pos t.mask (tupleKeyHash kd ks) n ->
   (∀ n',n' < n->∃ i:Nat,t.place[i]?=some (pos t.mask (tupleKeyHash kd ks) n').j/\∀ e,es[i]?=some e->¬ IsK kd s.heap ks e)->GM prog w A (setSearchFrom S (.ref b) (tupleKeyHash kd ks) true FW stand) Q E s:=by
 intro d;induction d using Nat.strongRecOn with
 | _ d ih=>
 intro FW n stand KV hem GY KG;obtain ⟨FW,rfl⟩:=Nat.exists_eq_succ_of_ne_zero (ne_of_gt (Q0 (zero_le _) KV));have H5:=T.fits hf;refine zC1 (wpAny_setState_of ho hd H5 ?_);refine wpAny_ite_false (c:=t.gaveWay=true) (by rw [show t.gaveWay=false from vH T.msk]; rfl) ?_;generalize hm:t.probe _ _ _=met;replace hm:=hm.symm.trans (NO (t.probe _ _) GY);obtain ⟨N,hN,hNe⟩:=T.gap (T.sz▸hf) (tupleKeyHash kd ks) n;obtain ⟨n1,_,h2,h3⟩:=zT (hashAt:=fun i=>(es[i]?.map (·.1)).getD 0) (h:=tupleKeyHash kd ks) T.dm T.rise N (10 * turns t.mask) (pos t.mask (tupleKeyHash kd ks) n) hN (Bd rfl) hNe;simp only [xx] at h2 h3;have Ir:∀ n',n' < n+n1->∃ i:Nat,t.place[i]?=some (pos t.mask (tupleKeyHash kd ks) n').j/\∀ e,es[i]?=some e->¬ IsK kd s.heap ks e:=fun n' q=>by
  by_cases c:n' < n
  ·exact KG n' c
  ·obtain ⟨i,e1,e2⟩:=h2 (n' - n) (Nat.sub_lt_left_of_lt_add (le_of_not_lt c) q);rw [Q9 (le_of_not_lt c)] at e1;refine ⟨i,e1,fun e ee=>?_⟩;rintro ⟨c,rfl,_⟩;exact e2 (by rw [ee]; rfl)
 rcases h3 with ⟨h3,h4⟩ | ⟨i,h3,h5,h4⟩
 ·have hm:=hm.trans h4;subst hm;refine zC2 (KY _ ⟨_,rfl,fun n' q=>(Ir n' q).imp fun U z=>z.1⟩ h3 (Cj _ _ _) fun e LG Lr=>?_);obtain ⟨c,hec,hc⟩:=Lr;obtain ⟨i,hi⟩:=getElem?_of_mem LG;rw [Q5] at hi;have hp:t.place[i]?=some (t.place.getD i 0):=by
   have:i < t.place.size:=by rw [T.sz]; exact (Array.getElem?_eq_some_iff.mp hi).1
   simp [this]
  obtain ⟨n0,e0,a0⟩:=T.way _ _ _ hp hi;subst hec;by_cases q:n0 < n+n1
  ·obtain ⟨i',e1,e2⟩:=Ir n0 q;rw [e0] at e1;obtain rfl:=oO T.rise e1 hp;exact e2 _ hi ⟨c,rfl,hc⟩
  ·by_cases q':n0=n+n1
   ·exact h3 ⟨i,by rw [<- q',e0]; exact hp⟩
   ·exact h3 (a0 _ (lt_of_le_of_ne (le_of_not_lt q) (Ne.symm q')))
 ·have hm:=hm.trans h4;subst hm;have F8:n1 < d:=by
   rcases lt_or_ge n1 d with q | q
   ·exact q
   ·refine absurd ?_ hem;by_cases q':d=n1
    ·rw [q']; exact ⟨i,h3⟩
    ·exact (Ir (n+d) (add_lt_add_left (lt_of_le_of_ne q q') n)).imp fun U z=>z.1
  have hie:∃ e,es[i]?=some e:=⟨_,Array.getElem?_eq_getElem (by rw [<- T.sz]; exact (Array.getElem?_eq_some_iff.mp h3).1)⟩;obtain ⟨e,hi⟩:=hie;have LG:e∈es.toList:=mem_of_getElem? (Q5▸hi);obtain ⟨F5,c,rfl,hc⟩:=he e LG;refine BV (fun Q' h=>B0 hk (fun v hv=>?_) h) ?_
  ·obtain ⟨e,J7,rfl⟩:=zA7 hv;rw [Array.toList_filter] at J7;obtain ⟨ks2,c2,rfl,IF⟩:=he e (mem_filter.mp J7).1;exact ⟨ks2,c2,rfl,IF⟩
  refine hi.symm▸zC1 (NN (wpAny_eqBool_tuple hu hc hk ?_));refine zC1 (wpAny_setState_of ho hd H5 ?_);by_cases q:F5=ks
  ·subst q;exact wpAny_ite_true (NL (NL rfl)) (zC2 (Jr ⟨_,LG,c,rfl,hc⟩))
  ·refine wpAny_ite_false (NM (eq_false_iff.mp (NM q))) ?_;have hs:t.slot (pos t.mask (tupleKeyHash kd ks) (n+n1)).j=.live i:=by
    rcases slot_is T.dm T.rise (pos t.mask (tupleKeyHash kd ks) (n+n1)).j with ⟨i',e1,e2⟩ | ⟨e1,_⟩
    ·rw [e2,oO T.rise e1 h3]
    ·exact absurd h3 (e1 i)
   refine (y8 t).symm▸?_;dsimp only;refine ((NP rfl).trans hs).symm▸?_;dsimp only;refine hi.symm▸?_;refine zC1 (wpAny_isSame_ref_self (zC1 (zC2 ?_)));refine wpAny_ite_false (NM (eq_false_iff.mp (NM q))) ?_;have G5:d - (n1+1) < d:=Nat.sub_lt (Q0 (zero_le _) F8) (succ_pos _);refine ih (d - (n1+1)) G5 FW (n+n1+1) _ (Q1 G5 (Qb KV)) (by rw [show n+n1+1+(d - (n1+1))=n+d from (add_assoc n (n1+1) _).trans (NO (n + ·) (Q9 F8))]; exact hem) rfl fun n' z=>?_;by_cases c':n' < n+n1
   ·exact Ir n' c'
   ·rw [le_antisymm (Qb z) (le_of_not_lt c')];refine ⟨i,h3,fun e ee=>?_⟩;rw [hi] at ee; (injection ee with ee; subst ee);rintro ⟨c2,IF,MC⟩;exact q (hc.inj (Value.ref.inj (NO Prod.snd IF)▸MC))
end
section
variable {prog:Program} {w:World} {A:Around} {E:GE} {s:Shared}
def qB (hk:IsTupleKey (aw prog w) s.heap (.inr x :: ks) b) (h:Q false s):GM prog w A (hashByValue 8 (.ref b)) Q E s:=by
 have hT:=hk.typeIs;obtain ⟨o,items,n,ho,_,hd,hi⟩:=hk;unfold hashByValue;refine zC1 (wpAny_specialOf hT F.slot_tuple_hash.lookup ?_);dsimp only;refine zC1 (wpAny_seqItems ho hd ?_);obtain ⟨l⟩:=items;cases hi with
 | cons hv _=>
  obtain ⟨t,rfl⟩:=Value.isStrOf_shape hv;rw [<- forIn_toList];refine zC1 ?_;refine (?_:wpAny _ _ (forIn (_ :: _) _ _) _ _ _);rw [forIn_cons];exact (bPu (zC2 (wpAny_pure h)))
inductive TS (h:Heap) (S:Addr) (es:Array (Int×Value)) (L:Bool):Prop
 | mk (o:Obj) (ep:Nat) (t:SetTable) (ho:h.get? S=some o) (Ha:o.ExactSet) (hd:o.data=.set es ep t) (T:Tab t es) (hr:es.size * 5 < t.mask * 3) (hl:t.led=L):TS h S es L
theorem TS.to {h h':Heap} {S:Addr} {es:Array (Int×Value)} {L:Bool} (x:TS h S es L) (e:h'.get? S=h.get? S):TS h' S es L:=x.casesOn fun o ep t ho Ha hd T hr hl=>⟨o,ep,t,e.trans ho,Ha,hd,T,hr,hl⟩
def oh:(insertAt es p x).toList.Perm (x :: es.toList):=by
 unfold insertAt;rw [toList_append,toList_push,toList_extract,toList_extract,Qa,extract_eq_take_drop,extract_eq_take_drop,drop_zero,sub_zero,<- zB3,<- length_drop,take_length];exact List.perm_middle.trans (.cons _ (.of_eq (take_append_drop p es.toList)))
theorem Tab.off (T:Tab t es):Tab { t with plain:=false } es:=⟨T.msk,T.dm,T.sz,T.rise,T.le,T.way⟩
def Cr {t:SetTable} (h:t.plain=false):{ t with plain:=false }=t:=by cases t; subst h; rfl
def zV (T:Tab t es):t.tooFull=decide (t.mask * 3<=es.size * 5):=by
 unfold SetTable.tooFull SetTable.fill;rw [T.sz,T.dm]; rfl
def bE [Decidable c] (h:¬ c) (x:wpAny M A e Q E s):wpAny M A (if c then t else e) Q E s:=by rw [NQ h]; exact x
def zo (h:n * 5 < c) (q:c<=(n+1) * 5) (h1:c<=(k+1) * 5) (h2:k * 5 < c):n=k:=le_antisymm (Qb (lt_of_mul_lt_mul_right (Q1 h h1))) (Qb (lt_of_mul_lt_mul_right (Q1 h2 q)))
def zS (hm:Msk m) (h:n * 5 < m * 3) (q:m * 3<=(n+1) * 5) (hn:n < 4500):∃ m',sizeAbove (grown (n+1))=m' + 1/\Msk m'/\(n+1) * 5 < m' * 3/\m' + 1<=sizeLine:=by
 rcases hm with rfl | rfl | rfl | rfl | rfl | rfl
 ·obtain rfl:n=4:=zo h q (by decide) (by decide);exact ⟨31,by decide,.inr (.inl rfl),by decide,by decide⟩
 ·obtain rfl:n=18:=zo h q (by decide) (by decide);exact ⟨127,by decide,.inr (.inr (.inl rfl)),by decide,by decide⟩
 ·obtain rfl:n=76:=zo h q (by decide) (by decide);exact ⟨511,by decide,.inr (.inr (.inr (.inl rfl))),by decide,by decide⟩
 ·obtain rfl:n=306:=zo h q (by decide) (by decide);exact ⟨2047,by decide,.inr (.inr (.inr (.inr (.inl rfl)))),by decide,by decide⟩
 ·obtain rfl:n=1228:=zo h q (by decide) (by decide);exact ⟨8191,by decide,.inr (.inr (.inr (.inr (.inr rfl)))),by decide,by decide⟩
 ·exact absurd (zB1 q (Nat.mul_le_mul_right 5 hn)) (by decide)
def E2 (h:a * 5 < b * 3):a<=b:=le_of_lt (lt_of_mul_lt_mul_right (Q1 h (mul_le_mul_left b (by decide:3<=5))))
def uj (hm:Msk m) (h:N < 10 * turns m):N < 100000:=by rcases hm with rfl | rfl | rfl | rfl | rfl | rfl <;> exact Q1 h (by decide)
noncomputable def rS (S:Addr) (is:Array (Int×Value)) (t:SetTable) (n:Nat):Sem Bool:=do
 storeSet S is t
 if !false&&t.tooFull then setRelay S (SetTable.grown n)
 return true
def sS {h:Heap} {S:Addr} {o:Obj} {es is:Array (Int×Value)} {ep:Nat} {t t1:SetTable} (ho:h.get? S=some o) (hd:o.data=.set es ep t):(h.update S (putSet is t1)).get? S=some { o with data:=.set is (ep+1) t1 }:=
 putSet_of _ _ hd▸get?_update_self (putSet is t1) ho (by rw [putSet_of _ _ hd]; rfl)
def tH {S:Addr} {o:Obj} {es is:Array (Int×Value)} {ep:Nat} {t t1:SetTable} {L:Bool} {Q:Bool->Shared->Prop} (ho:s.heap.get? S=some o) (Ha:o.ExactSet) (hd:o.data=.set es ep t) (T:Tab t1 is) (Gz:t1.led=L)
  (hs:is.size=es.size+1) (hr:es.size * 5 < t1.mask * 3) (hn:es.size < 4500) (F9:∀ h' HK,SameBut S s.heap h'->TS h' S HK L->HK.toList.Perm is.toList->Q true { s with heap:=h' }) :
  GM prog w A (rS S is t1 (es.size+1)) Q E s:=by
 have hz:is.size<=4500:=hs▸hn;refine zC1 (wpAny_storeSet_of ho hd ?_ (zB1 hz (by decide)));have LL:(s.heap.update S (putSet is t1)).get? S=some { o with data:=.set is (ep+1) t1 }:=sS ho hd;have sb1:SameBut S s.heap (s.heap.update S (putSet is t1)):=.update ..;have KV:=zV T;by_cases q:t1.mask * 3<=is.size * 5
 ·refine wpAny_ite_true (c:=(!false&&t1.tooFull)=true) (by rw [KV,NL q]; rfl) ?_;obtain ⟨m',e1,e2,e3,e4⟩:=zS T.msk hr (hs▸q) hn;refine zC1 (zC1 (wpAny_setState_of LL rfl (T.fits (hs▸lt_of_mul_lt_mul_right (Q1 hr (mul_le_mul_left _ (by decide:3<=5))))) ?_));refine bE (c:=sizeAbove (grown (es.size+1)) > sizeLine) (e1▸not_lt.mpr e4) ?_;obtain ⟨t3,GD,e5,e6,e7,T3,_⟩:=zD (es:=is) e2 (hs▸E2 e3) t1.finger (movedTo t1 m') t1.led t1.plain;have e9:t3.led=t1.led:=by
   obtain ⟨a,_,e5⟩:=bind_eq_some_iff.mp e5;cases e5; rfl
  refine zC1 ?_;rw [show t1.relaid (is.map (·.1)) (grown (es.size+1))=_ from (NO (fun z=>laid (z - 1) t1.finger (movedTo t1 (z - 1)) t1.led t1.plain _) e1).trans e5];have e8:(GD.filterMap (is[·]?)).size=is.size:=by rw [<- zB3,e7.length_eq,zB3]
  refine bE (by rw [e8,bne_self_eq_false]; exact NK) (zC2 ?_);refine wpAny_storeSet_of LL rfl (zC2 ?_) (zB1 (e8▸hz) (by decide));exact F9 _ _ (sb1.trans (.update _ S (putSet (GD.filterMap (is[·]?)) t3))) ⟨_,_,_,sS LL rfl,Ha,rfl,T3,by rw [e8,hs,e6]; exact e3,e9.trans Gz⟩ e7
 ·exact wpAny_ite_false (c:=(!false&&t1.tooFull)=true) (by rw [KV,NM q]; rfl) ((bPu (zC2 (F9 _ is sb1 ⟨_,_,_,LL,Ha,rfl,T,not_le.mp q,Gz⟩ (.refl _)))))
def qg {S b:Addr} {es:Array (Int×Value)} {L:Bool} {ks:List Sc} {x:Str} {Q:Bool->Shared->Prop} (hu:A.units < cLine) (T:TS s.heap S es L) (he:BQ (aw prog w) s.heap es.toList) (hk:IsTupleKey (aw prog w) s.heap (.inr x :: ks) b) (hn:es.size < 4500)
  (Mw:(∃ e∈es.toList,IsK (aw prog w) s.heap (.inr x :: ks) e)->∀ tk,Q false { s with toks:=tk })
  (F9:∀ h' HK tk,SameBut S s.heap h'->TS h' S HK L->HK.toList.Perm ((tupleKeyHash (aw prog w) (.inr x :: ks),.ref b) :: es.toList)->(∀ e∈es.toList,¬ IsK (aw prog w) s.heap (.inr x :: ks) e)->Q true { s with heap:=h',toks:=tk }) :
  GM prog w A (setAdd S (.ref b)) Q E s:=by
 obtain ⟨o,ep,t,ho,Ha,hd,T,hr,hL⟩:=T;have hf:=E2 hr;have H5:=T.fits hf;refine NN (zC1 (wpAny_pyHash_tuple hu hk ?_));generalize s.toks+_=tk0;refine NN (zC1 (wpAny_setState_of ho hd H5 ?_));refine bE (c:=byScan (.ref b) es=true) NK ?_;obtain ⟨N,hN,hg⟩:=T.gap (T.sz▸hf) (tupleKeyHash (aw prog w) (.inr x :: ks)) 0;rw [xx] at hg;refine zC1 (tM (kd:=aw prog w) (s:={ s with toks:=tk0 }) (n:=0) (stand:=none) hu ho hd T hf he hk (fun q=>zC2 (Mw q _)) (fun j hw hj hl Mz=>?_) N 100000 (uj T.msk hN) hg rfl fun U q=>absurd q (not_lt_zero _));refine zC1 (wpAny_setState_of ho hd H5 ?_);obtain ⟨em,LX,T1⟩:=T.put (x:=Value.ref b) hw hj hl;have key:∀ tk,GM prog w A (rS S (insertAt es (t.put j).2 (tupleKeyHash (aw prog w) (.inr x :: ks),.ref b)) { (t.put j).1 with plain:=false } (es.size+1)) Q E { s with toks:=tk }:=fun tk=>
  tH (s:={ s with toks:=tk }) ho Ha hd T1.off hL (T1.sz.symm.trans LX) (em.symm▸hr) hn fun h' HK sb ts pe=>F9 h' HK tk sb ts (pe.trans oh) Mz
 cases hpt:t.plain with
 | false=>exact wpAny_ite_false (c:=(t.put j).1.plain=true) (NM (by refine (?_:¬ t.plain=true); rw [hpt]; exact NK)) ((bPu (Cr (t:=(t.put j).1) hpt▸key tk0)))
 | true=>exact wpAny_ite_true (c:=(t.put j).1.plain=true) (NL hpt) (zC1 (qB (s:={ s with toks:=tk0 }) hk (key _)))
end
end Mine
end
noncomputable section
namespace Mine
open PySem PySem.Calls PyProof.Rows
section
variable {prog:Program} {w:World} {A:Around} {E:GE} {s:Shared}
noncomputable abbrev fM (w:World):Obj:={ cls:=.type "set",dict:=none,data:=.set #[] 0 (.fresh 0 0 (!w.params.followText "set-order")) }
def ka (a:Value) (h:Q₁ (.ref s.heap.objs.size) { s with heap:=s.heap.push (fM w) }) :
  codeAny (model prog w) A (.call (.builtin "set.__new__") ⟨[.type "set",a],[]⟩) (wants Q₁ E) s:=by
 refine codeAny_of_tree ?_
 (refine (?_:wpAny _ A.in1 (do checkBuiltinCall "set.__new__" ⟨[.type "set",a],[]⟩; again (.builtin "set.__new__" ⟨[.type "set",a],[]⟩)) _ _ s))
 refine zC1 (wpAny_of_eq (PySem.F.newCall_set_1 a) (zC2 ⟨plainId_quiet PySem.F.plain_set_new _,codeAny_builtin PySem.F.entry_set_new ?_⟩));rw [under_plainId PySem.F.plain_set_new _];unfold Builtin.«set.__new__» Builtin.Frozenset.newClass;have KA:=sub_set_self;obtain ⟨hp,g,d,tk,os⟩:=s;dsimp only
 wp_walk
 refine wpAny_askSetting (zC2 ?_);dsimp only;simp only [newObj];refine zC1 (wpAny_alloc (zC2 ?_));exact wpAny_pure h
structure Fills (prog:Program) (w:World) (h₀:Heap) (S:Addr) (P:Nat->Value->Prop) (n:Nat) (Z:Nat->Heap->Prop):Prop where
 frame:∀ i h h',Z i h->h'.get? S=h.get? S->Z i h'
 live:∀ i h,Z i h->aL h S
 start:∀ h:Heap,h.get? S=some (fM w)->Z 0 h
 add:∀ i v (s:Shared) (A:Around),A.units < cLine->i < n->P i v->ao h₀ s.heap->Z i s.heap->∀ (Q:Bool->Shared->Prop) (E:GE),
  (∀ b h' tk,SameBut S s.heap h'->Z (i+1) h'->Q b { s with heap:=h',toks:=tk })->GM prog w A (setAdd S v) Q E s
def o9 {l:List Addr} (k:ao h₀ h) (hl:∀ b∈l,h₀.get? b=none) (m:∀ b o,b∉l->h.get? b=some o->h'.get? b=some o):ao h₀ h':=fun b o e=>m b o (fun q=>by rw [hl b q] at e; (injection e; done)) (k b o e)
def vh {R:Result->Shared->Prop} {I S:Addr} {fp wr:List Addr} {P:Nat->Value->Prop} {St Z:Nat->Heap->Prop} {n:Nat} {h₀:Heap} (W:Walks prog w A.in1 I fp wr n P St) (hu:A.in1.units < cLine) (hSf:S∉fp) (hS0:h₀.get? S=none) (hw:∀ b∈wr,h₀.get? b=none)
  (Fl:Fills prog w h₀ S P n Z):∀ (k i:Nat) (s:Shared),n - i=k->i<=n->St i s.heap->Z i s.heap->ao h₀ s.heap ->
   (∀ h' tk,ao h₀ h'->Z n h'->R (.ok (.ret .none)) { s with heap:=h',toks:=tk }) ->
   codeAny (model prog w) A (.builtin "set.update.loop" ⟨[.ref S,.ref I],[]⟩) R s:=by
 have hSw:S∉wr:=fun h=>hSf (W.sub _ h);intro k;induction k with
 | zero=>
  intro i s hk hi GY hZ hK hR;obtain rfl:=show i=n from le_antisymm hi (Nat.sub_eq_zero_iff_le.mp hk)
  refine codeAny_builtin PyProof.Rows.F.entry_set_update_loop ?_;rw [under_plainId PyProof.Rows.F.plain_set_update_loop _];refine (?_:wpAny _ A.in1 (pyNext (.ref I) >>= _) _ _ s);refine zC1 (W.done s _ _ GY fun h' tk hm=>?_);refine (?_:wpAny _ A.in1 (ret Value.none) _ _ _);obtain ⟨o,ho⟩:=Fl.live _ _ hZ;exact zC2 (hR h' tk (o9 hK hw hm) (Fl.frame _ _ _ hZ ((hm S o hSw ho).trans ho.symm)))
 | succ k ih=>
  intro i s hk hi GY hZ hK hR;have F8:i < n:=Nat.lt_of_sub_eq_succ hk;refine codeAny_builtin PyProof.Rows.F.entry_set_update_loop ?_;rw [under_plainId PyProof.Rows.F.plain_set_update_loop _];refine (?_:wpAny _ A.in1 (pyNext (.ref I) >>= _) _ _ s);refine zC1 (W.item i s _ _ F8 GY fun v Gf Kc hP Iz hm=>?_);obtain ⟨o,ho⟩:=Fl.live _ _ hZ;have hl1:=hm S o hSw ho;have hK1:=o9 hK hw hm;refine (?_:wpAny _ A.in1 (holding [v] (setAdd S v) >>= _) _ _ _);refine zC1 (NN (Fl.add i v _ _ hu F8 hP hK1 (Fl.frame _ _ _ hZ (hl1.trans ho.symm)) _ _ fun b h' tk HD hZ'=>?_));have hK2:ao h₀ h':=fun b o e=>by
   by_cases q:b=S
   ·subst q; rw [hS0] at e; (injection e; done)
   ·exact (HD.2 b q).trans (hK1 b o e)
  refine zC2 ⟨plainId_quiet PyProof.Rows.F.plain_set_update_loop _,ih (i+1) { s with heap:=h',toks:=tk } (NO Nat.pred hk) F8 (W.frame _ _ _ Iz fun b hb o e=>(HD.2 b fun q=>hSf (q▸hb)).trans e) hZ' hK2 hR⟩
def DL (prog:Program) (w:World) (h₀:Heap) (x:Value) (n:Nat) (P:Nat->Value->Prop):Prop:=∀ (s:Shared) (A:Around) (Q:GE) (E:GE),ao h₀ s.heap ->
 (∀ I fp wr St h',ao s.heap h'->(∀ b∈wr,s.heap.get? b=none)->(∀ b∈fp,s.heap.get? b=none\/aL h₀ b)->(∀ A:Around,A.handled=none->Walks prog w A I fp wr n P St)->St 0 h'->Q (.ref I) { s with heap:=h' })->GM prog w A (pyIter x) Q E s
set_option maxHeartbeats 3200000 in
def jP {x:Value} {T:String} {n:Nat} {P:Nat->Value->Prop} {Z:Nat->Heap->Prop} {Q:GE} (hh:A.handled=none) (hu:A.units+100 < cLine) (hT:∀ s':Shared,ao s.heap s'.heap->s'.TypeIs x T) (G8:isSubtype (.type T) (.type "set")=pure false) (Ho:isSubtype (.type T) (.type "frozenset")=pure false)
  (Gc:(Value.type T==Value.type "dict")=false) (go:DL prog w s.heap x n P) (Fl:Fills prog w s.heap s.heap.objs.size P n Z)
  (h:∀ (h':Heap) (tk:Nat),Z n h'->ao s.heap h'->Q (.ref s.heap.objs.size) { s with heap:=h',toks:=tk }):GM prog w A (call (.type "set") [x]) Q E s:=by
 obtain ⟨c,tl,hmro⟩:=PySem.F.called_set.mro;have hmade:=PySem.F.called_set.made;have KA:=PySem.F.called_set.sub;refine wpAny_call (codeAny_of_tree ?_);refine (?_:wpAny _ _ (callAny (.type "set") _) _ _ _);refine zC2 ⟨Code.quiet_builtin _ (by decide +kernel),codeAny_builtin PySem.F.entry_type_call ?_⟩;rw [Around.under_plain (weight_type_call_type "set" [x] []) rfl];have h1:=PySem.F.called_set.notType;have h2:=PySem.F.called_set.canCreate;have hct:=PySem.F.typeCall_set_1 x
 repeat (any_goals (first | assumption | wp_step))
 refine codeAny_mono (ka x (E:=E) (Q₁:=fun obj s₁=>obj=.ref s.heap.objs.size/\s₁={ s with heap:=s.heap.push (fM w) }) ⟨rfl,rfl⟩) fun r s₁ hr=>?_;cases r with
 | error e=>exact hr
 | ok fl=>
  cases fl with
  | ret obj=>
   obtain ⟨rfl,rfl⟩:=hr;have hS:(s.heap.push (fM w)).get? s.heap.objs.size=some (fM w):=Q2 _ rfl;have hT1:Shared.TypeIs { s with heap:=s.heap.push (fM w) } (.ref s.heap.objs.size) "set":=⟨_,hS,rfl⟩;have LI:=PySem.F.called_set.init.lookup;have hbi:=PySem.F.called_set.init.bind (.ref s.heap.objs.size);have hTx:=hT { s with heap:=s.heap.push (fM w) } (am _ _)
   repeat (any_goals (first | assumption | wp_step))
   refine codeAny_mono (codeAny_call_builtin (R:=wants (fun r FN=>r=.none/\∃ h' tk,FN={ s with heap:=h',toks:=tk }/\Z n h'/\ao s.heap h') E) PySem.F.called_set.init.plain PySem.F.entry_set_init (check_set_init_1 hT1 ?_)) fun L3 FN HZ=>?_
   ·unfold Builtin.«set.__init__» noKeywords Builtin.Frozenset.updateFrom;generalize hPI:pyIter=PI
    wp_walk
    subst hPI;refine go _ _ _ _ (am _ _) fun I fp wr St h' hk hw hf W GY=>?_;refine zC1 (wpAny_runValue ?_);have hh3:A.in1.in1.in1.handled=none:=by simp [hh]
    have n0:s.heap.get? s.heap.objs.size=none:=ak _;refine vh (W _ hh3) (show A.units+3 < cLine from Q0 (Q7 (by decide) _) hu) (fun q=>?_) n0 (fun b q=>aK (am _ _).live (hw b q)) Fl (n - 0) 0 _ rfl (zero_le _) GY (Fl.start _ (hk _ _ hS)) ((am _ _).trans hk) ?_
    ·rcases hf _ q with q | ⟨o,q⟩
     ·rw [hS] at q; (injection q; done)
     ·rw [n0] at q; (injection q; done)
    ·intro Lb tk Hp hz;refine (?_:wpAny _ _ _ _ _ _);refine zC2 ?_;refine (?_:wpAny _ _ (ret Value.none) _ _ _);exact zC2 ⟨rfl,Lb,tk,rfl,hz,Hp⟩
   ·cases L3 with
    | error e=>exact HZ
    | ok fl₂=>
     cases fl₂ with
     | ret r=>
      obtain ⟨rfl,h',tk,rfl,hz,Hp⟩:=HZ
      repeat (any_goals (first | assumption | wp_step))
      exact h _ _ hz Hp
     | _=>exact HZ.elim
  | _=>exact hr.elim
end
end Mine
end
noncomputable section
namespace Mine
open PySem PySem.Calls PyProof.Rows PySem.W
section
variable {prog:Program} {w:World} {A:Around} {E:GE} {s:Shared} {h₀:Heap}
def ld (hl:h₀.IsList l items):DL prog w h₀ (.ref l) items.size (fun i v=>items[i]?=some v):=fun s A Q E hk hQ=>by
 have hl1:s.heap.IsList l items:=hl.at (hk l);have F8:l≠s.heap.objs.size:=by obtain ⟨o,ho,_⟩:=hl1; exact aY ho
 refine wpAny_pyIter_list hl1 (hQ _ _ _ _ _ (am _ _) (fun b q=>?_) (fun b q=>?_) (fun A' hh=>Walks.list hh _ l F8 items) ⟨⟨_,Q2 _ rfl,rfl,rfl⟩,hl1.push _⟩)
 ·obtain rfl:=zA6 q; exact ak _
 ·rcases mem_cons.mp q with rfl | q
  ·exact .inl (ak _)
  ·obtain rfl:=zA6 q; obtain ⟨o,ho,_⟩:=hl; exact .inr ⟨o,ho⟩
def we:DL prog w h₀ (.str x t) x.cps.size (SignAt x):=fun s A Q E hk hQ=>by
 cases ha:x.cps.all (· < 128)
 ·exact wpAny_pyIter_wide ha (hQ _ _ _ _ _ (am _ _) (fun b q=>by obtain rfl:=zA6 q; exact ak _) (fun b q=>by obtain rfl:=zA6 q; exact .inl (ak _)) (fun A' hh=>Walks.strWide hh _ x t) ⟨_,Q2 _ rfl,rfl,rfl⟩)
 ·exact wpAny_pyIter_ascii ha (hQ _ _ _ _ _ (am _ _) (fun b q=>by obtain rfl:=zA6 q; exact ak _) (fun b q=>by obtain rfl:=zA6 q; exact .inl (ak _)) (fun A' hh=>Walks.strAscii hh _ x t) ⟨_,Q2 _ rfl,rfl,rfl⟩)
def g7 {K:Type} [DecidableEq K] {knd:KeyKind prog w K} {S:Addr} {P:Nat->Value->Prop} {ks:List K} (hP:∀ i v,P i v->∃ k,ks[i]?=some k/\knd.is k v=true/\v.scannable=true) (nd:ks.Nodup) (hn:ks.length+1 < scanBound) :
  Fills prog w h₀ S P ks.length (fun i h=>h.SetOf knd S (fun k=>decide (k∈ks.take i)) i) where
 frame:=fun i h h' q e=>q.elim fun o q=>q.elim fun es q=>q.elim fun ep q=>q.elim fun t q=>⟨o,es,ep,t,e.trans q.1,q.2⟩
 live:=fun i h q=>q.elim fun o q=>q.elim fun U q=>q.elim fun U q=>q.elim fun U q=>⟨o,q.1⟩
 start:=fun h ho=>SetOf_congr ((setObjOf_fresh (knd:=knd) _).setOf ho (by unfold scanBound; exact succ_pos _)) (fun U=>(NM not_mem_nil).symm) rfl
 add:=fun i v s A hu hi hp hk hZ Q E hQ=>by
  obtain ⟨k,ek,HG,hsc⟩:=hP i v hp;have F9:k∉ks.take i:=fun q=>by
   obtain ⟨j,hj⟩:=getElem?_of_mem q;have MD:j < i:=Q1 (List.getElem?_eq_some_iff.mp hj).1 (length_take_le _ _);rw [List.getElem?_take_of_lt MD] at hj;exact absurd ((getElem?_inj (lt_trans MD hi) nd).mp (hj.trans ek.symm)) (ne_of_lt MD)
  unfold setAdd;refine NN (zC1 (knd.pyHash HG (wpAny_setAddHashed_of (s:={ s with toks:=s.toks+1 }) HG hsc hZ (Q0 (add_le_add_right (le_of_lt hi) 1) hn) fun h' HD hS=>hQ _ h' _ HD (SetOf_congr hS (fun k'=>?_) ?_))))
  ·rw [take_add_one,ek];by_cases q:k'=k <;> simp [q]
  ·rw [NQ (by rw [NM F9]; exact NK)]
def zy {K:Type} [DecidableEq K] {knd:KeyKind prog w K} {a:Addr} {S:K->Bool} {n:Nat} {Q:GE} (hS:s.heap.SetOf knd a S n) (h:∀ t tk,Q (.int n t) { s with toks:=tk }):GM prog w A (call (.builtin "len") [.ref a]) Q E s:=by
 obtain ⟨o,es,ep,t,ho,Ha,hd,hel,hmem,hb,hf,hn⟩:=hS;subst hn;refine Calls.call_function_entry kind_len plain_len entry_len (args_len1 _) ?_;exact wpAny_len_body_set ho Ha hd hf (Int.lt_trans (ofNat_lt.mpr hb) (by decide)) (h _ _)
end
def zL (hx:aA x=true) (hy:aA y=true) (e:kOf x=kOf y):x=y:=by
 cases x <;> first | ((injection hx; done); done) | (cases y <;> first | ((injection hy; done); done) | ((first | (injection e; done) | (injection e with e; subst e)); done) | ((injection e with e; subst e); rfl))
theorem pb:∀ {l m:List V},l.all aA=true->m.all aA=true->l.map kOf=m.map kOf->l=m
 | [],[],_,_,_=>rfl
 | [],_ :: _,_,_,e=>nomatch e
 | _ :: _,[],_,_,e=>nomatch e
 | x :: l,y :: m,hl,hm,e=>by
  have hl:=zA2 hl;have hm:=zA2 hm;have e:=zA5 e;rw [zL hl.1 hm.1 e.1,pb hl.2 hm.2 e.2]
section
variable {g:Gl} {bad:Addr->Prop} {h h':Heap} {v:Value} {x:V} {vs ws:List Value} {l m:List V}
def pc (r:RpAll g bad h vs l):l.all aA=true->ItemsAre (aw g.prog g.w) (l.map kOf) vs:=
 r.ind (D:=fun vs l=>l.all aA=true->ItemsAre (aw g.prog g.w) (l.map kOf) vs) (fun U=>.nil) fun v vs x l r U ih q=>by
  have q:=zA2 q;refine .cons ?_ (ih q.2);cases r with
  | int i t=>exact (by simp [Value.isInt]:Value.isInt i (.int i t)=true)
  | str y t=>exact (by simp [Value.isStrOf]:Value.isStrOf y (.str y t)=true)
  | _=>(injection q.1; done)
def xu (r:Rp g bad h v (.tuple l)) (q:l.all aA=true):∃ c,v=.ref c/\IsTupleKey (aw g.prog g.w) h (l.map kOf) c:=
 r.tuple_elim fun a o vs n U ha hc hd hl=>⟨a,rfl,o,vs,n,ha,hc,hd,pc hl q⟩
def dY (k:ao h h') (x:IsTupleKey (aw g.prog g.w) h ks c):IsTupleKey (aw g.prog g.w) h' ks c:=by obtain ⟨o,vs,n,ho,r⟩:=x; exact ⟨o,vs,n,k _ _ ho,r⟩
theorem RpAll.of_mem (r:RpAll g bad h vs l):v∈vs->∃ y∈l,Rp g bad h v y:=r.ind (D:=fun vs l=>v∈vs->∃ y∈l,Rp g bad h v y) (fun q=>nM q) fun u vs y l r U ih q=>by
 rcases mem_cons.mp q with rfl | q
 ·exact ⟨y,.head _,r⟩
 ·obtain ⟨z,m,p⟩:=ih q; exact ⟨z,.tail _ m,p⟩
theorem RpAll.mem (r:RpAll g bad h vs l):x∈l->∃ u∈vs,Rp g bad h u x:=r.ind (D:=fun vs l=>x∈l->∃ u∈vs,Rp g bad h u x) (fun q=>nM q) fun u vs y l r U ih q=>by
 rcases mem_cons.mp q with rfl | q
 ·exact ⟨u,.head _,r⟩
 ·obtain ⟨z,m,p⟩:=ih q; exact ⟨z,.tail _ m,p⟩
theorem RpAll.perm (p:ws.Perm vs):∀ {l},RpAll g bad h vs l->∃ m,m.Perm l/\RpAll g bad h ws m:=by
 induction p with
 | nil=>exact fun r=>⟨_,.refl _,r⟩
 | cons v _ ih=>
  intro l r;cases r with
  | cons a r=>obtain ⟨m,p,q⟩:=ih r; exact ⟨_,.cons _ p,.cons a q⟩
 | swap v u _=>
  intro l r;cases r with
  | cons a r=>cases r with
   | cons b r=>exact ⟨_,.swap _ _ _,.cons b (.cons a r)⟩
 | trans _ _ ih1 ih2=>
  intro l r;refine Bn fun Z4 Kp=>?_;obtain ⟨m,p,r⟩:=ih2 r;obtain ⟨n,p',r⟩:=ih1 r;refine Kp ?_;exact ⟨n,p'.trans p,r⟩
def oz {C:V->Prop} (e:pQ x=true) (k:∀ t l,(PyData.str t :: l).all aA=true->C (.tuple (.str t :: l))):C x:=by
 revert e
 cases x with
 | tuple l=>cases l with
  | nil=>exact fun e=>nB e
  | cons y l=>cases y with
   | str t=>exact fun e=>k _ _ e
   | _=>exact fun e=>nB e
 | _=>exact fun e=>nB e
def fV {C:V->Prop} (e:ql x=true) (k:∀ y l,(y :: l).all aA=true->C (.tuple (y :: l))):C x:=by
 revert e
 cases x with
 | tuple l=>cases l with
  | nil=>exact fun e=>nB e
  | cons y l=>exact fun e=>k _ _ e
 | _=>exact fun e=>nB e
def cW (e:pQ x=true):ql x=true:=oz (C:=fun x=>ql x=true) e fun t l q=>q
def gA (e:ql x=true) (r:Rp g bad h v x):∃ c,v=.ref c/\IsTupleKey (aw g.prog g.w) h (aH x) c:=fV (C:=fun x=>Rp g bad h v x->∃ c,v=.ref c/\IsTupleKey (aw g.prog g.w) h (aH x) c) e (fun y l q r=>xu r q) r
def keys_inj (e:ql x=true) (e':ql y=true) (q:aH y=aH x):y=x:=
 fV (C:=fun x=>aH y=aH x->y=x) e (fun t l hl q=>fV (C:=fun y=>aH y=aH (.tuple (t :: l))->y=.tuple (t :: l)) e' (fun t' l' G4 q=>NO _ (pb G4 hl q)) q) q
def vr (e:ql x=true):∃ k ks,aH x=k :: ks:=fV (C:=fun x=>∃ k ks,aH x=k :: ks) e fun t l U=>⟨kOf t,l.map kOf,rfl⟩
def ua (e:pQ x=true):∃ t ks,aH x=.inr t :: ks:=oz (C:=fun x=>∃ t ks,aH x=.inr t :: ks) e fun t l U=>⟨t,l.map kOf,rfl⟩
def qZ {α:Type} {i:Nat} {a:α} {C:Prop} (e:(#[]:Array α)[i]?=some a):C:=by simp at e
def tab0 {L:Bool}:Tab (SetTable.fresh 0 0 L) (#[]:Array (Int×Value)):=⟨.inl rfl,rfl,rfl,fun U U U U U e=>qZ e,fun U U e=>qZ e,fun U U U e=>qZ e⟩
def Dr (g:Gl) (bad:Addr->Prop) (h₀:Heap) (S:Addr) (l:List V) (i:Nat) (h:Heap):Prop:=
 ∃ es r,TS h S es (!g.w.params.followText "set-order")/\BQ (aw g.prog g.w) h₀ es.toList/\RpAll g bad h₀ (es.toList.map (·.2)) r/\r.Nodup/\∀ y,y∈r ↔ y∈l.take i
def oM {es:Array (Int×Value)} {r:List V} (q:RpAll g bad h (es.toList.map (·.2)) r):es.size=r.length:=by
 have:=q.length;rwa [zA4,zB3] at this
def qE {S:Addr} {vs:Array Value} (r:RpAll g bad h vs.toList l) (hw:∀ x∈l,pQ x=true) {few:List V} (J6:∀ x∈l,x∈few) (hn:few.length < 4500):Fills g.prog g.w h S (fun i v=>vs[i]?=some v) vs.size (Dr g bad h S l) where
 frame:=fun i h h' q e=>q.elim fun es q=>q.elim fun r q=>⟨es,r,q.1.to e,q.2⟩
 live:=fun i h q=>q.elim fun es q=>q.elim fun r q=>q.1.casesOn fun o U U ho U U U U U=>⟨o,ho⟩
 start:=fun h ho=>⟨#[],[],⟨_,_,_,ho,⟨rfl,rfl,rfl⟩,rfl,tab0,Nat.zero_lt_succ 20,rfl⟩,fun e m=>(nM m),.nil,.nil,fun y=>⟨fun q=>(nM q),fun q=>(nM q)⟩⟩
 add:=fun i v s A hu hi hp hk hZ Q E hQ=>by
  refine hZ.elim fun es H'=>H'.elim fun R JG=>JG.elim fun T Lj=>Lj.elim fun he JF=>JF.elim fun hr JE=>JE.elim fun hd hm=>?_;have hsz:=r.length;rw [zB3] at hsz;obtain ⟨x,hx⟩:∃ x,l[i]?=some x:=⟨_,Q8 (hsz▸hi)⟩;obtain ⟨v',ev,rv⟩:=r.get hx;replace ev:=hp▸(Q5)▸ev;(injection ev with ev; subst ev);have LA:=hw x (mem_of_getElem? hx);obtain ⟨c,rfl,k⟩:=gA (cW LA) rv;obtain ⟨t,ks,eh⟩:=ua LA;have Km:∀ y,y∈l.take (i+1) ↔ y∈R\/y=x:=fun y=>by rw [take_add_one,hx,mem_append,hm]; simp
  have J7:BQ (aw g.prog g.w) s.heap es.toList:=fun e me=>by obtain ⟨ks,c,q,z⟩:=he e me; exact ⟨ks,c,q,dY hk z⟩
  have inR:x∈R ↔ ∃ e∈es.toList,IsK (aw g.prog g.w) s.heap (.inr t :: ks) e:=by
   refine eh▸?_;constructor
   ·intro q;obtain ⟨u,mu,ru⟩:=hr.mem q;obtain ⟨e,me,rfl⟩:=zA7 mu;obtain ⟨F5,c',rfl,z⟩:=he e me;obtain ⟨c2,e2,k2⟩:=gA (cW LA) ru;(injection e2 with e2; subst e2);obtain rfl:=z.inj k2;exact ⟨_,me,c',rfl,dY hk z⟩
   ·rintro ⟨e,me,c',rfl,z⟩;obtain ⟨y,my,ry⟩:=hr.of_mem (mem_map.mpr ⟨_,me,rfl⟩);have hy:=hw y (mem_of_mem_take ((hm y).mp my));obtain ⟨c2,e2,k2⟩:=gA (cW hy) ry;(injection e2 with e2; subst e2);exact keys_inj (cW LA) (cW hy) ((dY hk k2).inj z)▸my
  replace k:=eh▸k;refine qg hu T J7 (dY hk k) (by have:=hd.length_le_of_subset (l₂:=few) fun y q=>J6 y (mem_of_mem_take ((hm y).mp q)); rw [oM hr]; exact Q0 this hn) (fun q tk=>?_) fun h' HK tk sb T' p q=>?_
  ·have q:=inR.mpr q;exact hQ _ s.heap tk (.refl _ _) ⟨es,R,T,he,hr,hd,fun y=>by rw [Km]; exact ⟨.inl,fun z=>z.elim id fun z=>z▸q⟩⟩
  ·refine (RpAll.perm (p.map Prod.snd) (RpAll.cons rv hr)).elim fun R' Np=>Np.elim fun pR rR=>?_;refine hQ _ h' tk sb ⟨HK,R',T',fun e me=>?_,rR,pR.nodup_iff.mpr (nodup_cons.mpr ⟨fun z=>?_,hd⟩),fun y=>?_⟩
   ·rcases mem_cons.mp (p.mem_iff.mp me) with rfl | me
    ·exact ⟨_,c,rfl,k⟩
    ·exact he e me
   ·obtain ⟨e,me,ie⟩:=inR.mp z; exact q e me ie
   ·rw [pR.mem_iff,Km,mem_cons]; exact or_comm
end
def bB:PySem.Slot "set_iterator" "__next__" "set_iterator.__next__":=
 .of (owner:="set_iterator") (n:="__next__") (by rw [typeLookup_type,builtinLookup_eq_fast]; kernel_rfl) (by decide +kernel) (by decide +kernel) (by decide +kernel)
  (by first | exact .inl (by decide +kernel) | exact .inr (by decide +kernel)) (by rw [isSubtype_type]; kernel_rfl)
def gF:entryFor table "set_iterator.__next__"=some Builtin.«set_iterator.__next__»:=entryFor_of_tree (by kernel_rfl)
def hV (a:Value):argsOk "set_iterator.__next__" ⟨[a],[]⟩:=by unfold argsOk; kernel_rfl
def iB:entryFor table "set.__iter__"=some Builtin.«frozenset.__iter__»:=entryFor_alias (id':="frozenset.__iter__") (by kernel_rfl) rfl (by decide +kernel) (by kernel_rfl)
section
variable {prog:Program} {w:World} {A:Around} {E:GE} {s:Shared}
noncomputable abbrev jY (ff:Value) (i:Nat) (S:Addr) (n ep:Nat):Obj:={ cls:=.type "set_iterator",data:=.fields #[ff,.int i 0,.ref S,.int n 0,.int ep 0] }
def rT {Q:Option Value->Shared->Prop} {P:Fin->Shared->Prop} (hh:A.handled=none) (h:∀ h',ao s.heap h'->Q none { s with heap:=h' }) :
  GM prog w A.in1 (newExc (.type "StopIteration") [] >>= fun e=>raiseNew e) P (fun e s'=>GM prog w A (isInstance e (.type "StopIteration") >>= fun b=>if b=true then pure none else throw e) Q E s') s:=by
 refine zC1 (zC1 (wpAny_newObj_type (zC1 (wpAny_of_eq (a:=Value.none) rfl (wpAny_newObj_type ?_ (by size_fits)))) (by size_fits)));refine wpAny_raiseNew_none (hh:A.in1.handled=none) ?_;refine zC1 (wpAny_isInstance (T:="StopIteration") (b:=true) ⟨_,Q2 _ rfl,rfl⟩ isSubtype_stop ?_);exact zC2 (h _ ((am _ _).trans (am _ _)))
def eO (ho:s.heap.get? I=some { cls:=.type "set_iterator",data:=.fields vs }) (hj:j < vs.size) (h:∀ h',h'.get? I=some { cls:=.type "set_iterator",data:=.fields (vs.setIfInBounds j v) }->SameBut I s.heap h'->Q () { s with heap:=h' }) :
  GM prog w A (setField (.ref I) j v) Q E s:=
 wpAny_setField ho rfl hj (h _ (get?_update_self _ ho rfl) (SameBut.update ..))
def gb {I S:Addr} {o:Obj} {es:Array (Int×Value)} {ep i:Nat} {t:SetTable} {ff f':Value} {r:Option Value} {Q:Option Value->Shared->Prop} (hh:A.handled=none)
  (hI:s.heap.get? I=some (jY ff i S es.size ep)) (ho:s.heap.get? S=some o) (hd:o.data=.set es ep t) (hf:t.fits es.size=true)
  (hn:(∃ (slot nx:Nat) (tk:Tok),ff=.int slot tk/\f'=.int nx 0/\∀ (A:Around) (Q:Option (Value×Nat)->Shared->Prop) (E:GE),Q (r.map fun x=>(x,nx)) s->GM prog w A (setNext S slot i ep) Q E s) \/
   ∃ F ol items n',ff=.ref F/\f'=ff/\s.heap.get? F=some ol/\ol.data=.seq items n'/\((r=none/\items[i]?=none)\/∃ (p:Nat) (tk:Tok) (x:Value) (e:Int),r=some x/\items[i]?=some (.int p tk)/\es[p]?=some (e,x)))
  (hQ:∀ x,r=some x->∀ h',h'.get? I=some (jY f' (i+1) S es.size ep)->SameBut I s.heap h'->Q (some x) { s with heap:=h' })
  (hE:r=none->∀ h',(∀ b o,b≠I->s.heap.get? b=some o->h'.get? b=some o)->Q none { s with heap:=h' }):GM prog w A (pyNext (.ref I)) Q E s:=by
 have hT:s.TypeIs (.ref I) "set_iterator":=⟨_,hI,rfl⟩;refine zC1 (wpAny_attempt (wpAny_callSpecial?_slot (name:=ofString "__next__") hT bB (wpAny_call_entry bB hT gF ?_ (hV _))));refine (bPu ?_);refine zC1 (wpAny_fieldsOf hI rfl ?_);refine zC1 (zC1 (wpAny_setState_of ho hd hf (zC2 ?_)));refine bE (by simp) ?_;have ext:∀ {h1 h2:Heap},SameBut I s.heap h1->ao h1 h2->∀ b o,b≠I->s.heap.get? b=some o->h2.get? b=some o:=fun a k b o q e=>k b o ((a.2 b q).trans e);rcases hn with ⟨slot,nx,tk,rfl,rfl,hn⟩ | ⟨F,ol,items,n',rfl,rfl,KJ,I8,hn⟩
 ·refine zC1 (hn _ _ _ ?_);cases r with
  | none=>exact zC1 (eO hI (by simp) fun h1 U sb=>rT hh fun h2 k=>hE rfl _ (ext sb k))
  | some x=>exact zC1 (eO hI (by simp) fun h1 g1 sb=>zC1 (eO g1 (by simp) fun h2 g2 L1=>zC2 ⟨x,rfl,zC2 (hQ x rfl h2 g2 (sb.trans L1))⟩))
 ·refine zC1 (wpAny_seqItems KJ I8 ?_);dsimp only;rcases hn with ⟨rfl,hi⟩ | ⟨p,tk,x,e,rfl,hi,he⟩
  ·exact (hi:items[(i:Int).toNat]?=_).symm▸zC1 (eO hI (by simp) fun h1 g1 sb=>zC1 (eO g1 (by simp) fun h2 g2 L1=>rT hh fun h3 k=>hE rfl _ (ext (sb.trans L1) k)))
  ·refine (hi:items[(i:Int).toNat]?=_).symm▸zC1 (zC1 (wpAny_setState_of ho hd hf (bE (by simp) ?_)));exact (he:es[(p:Int).toNat]?=_).symm▸zC2 (zC1 (eO hI (by simp) fun h1 g1 sb=>zC2 ⟨x,rfl,zC2 (hQ x rfl h1 g1 sb)⟩))
def lD (hn:n≠0) (h:∀ i d,i < n->Q i { s with drawn:=d }):wpAny M A (choose src n) Q E s:=fun Γ p hΓ=>by
 unfold choose;rw [Sem.wp_choose];exact ⟨hn,h _ _ (mod_lt _ (Nat.pos_of_ne_zero hn))⟩
theorem cU:∀ {l:List α} {i:Nat},l[i]?=some x->(x :: l.eraseIdx i).Perm l
 | [],_,h=>nomatch h
 | y :: l,0,h=>by (injection h with h; subst h); exact .refl _
 | y :: l,i+1,h=>(Perm.swap y x _).trans (.cons y (cU (l:=l) h))
theorem tf:∀ (n:Nat) (xs:List α) (s:Shared) {Q:List α->Shared->Prop},xs.length=n->(∀ ys d,ys.Perm xs->Q ys { s with drawn:=d })->wpAny M A (drawOrder n xs) Q E s
 | 0,xs,s,Q,hl,h=>by obtain rfl:=length_eq_zero_iff.mp hl; exact zC2 (h [] s.drawn (.refl _))
 | n+1,[],s,Q,hl,h=>nomatch hl
 | n+1,x :: xs,s,Q,hl,h=>by
  refine zC1 (lD (by rw [hl]; exact Nat.succ_ne_zero n) fun i d hi=>?_);have e:(x :: xs)[i]?=some (x :: xs)[i]:=Q8 hi;rw [e];refine zC1 (tf n _ _ (by rw [List.length_eraseIdx_of_lt hi,hl]; rfl) fun ys d' p=>zC2 (h _ d' ((Perm.cons _ p).trans (cU e))))
theorem r9 (f:Nat->Nat):∀ (n k:Nat) (l:List α) (o:Array α),l.length=n->(pickOrder.go f n k l o).toList.Perm (o.toList++l)
 | 0,k,l,o,h=>by obtain rfl:=length_eq_zero_iff.mp h; refine (?_:o.toList.Perm _); rw [append_nil]
 | n+1,k,l,o,h=>by
  have hi:f k % l.length < l.length:=mod_lt _ (by rw [h]; exact succ_pos n);have e:l[f k % l.length]?=some l[f k % l.length]:=Q8 hi;rw [show pickOrder.go f (n+1) k l o=(match l[f k % l.length]? with | some x=>pickOrder.go f n (k+1) (l.eraseIdx (f k % l.length)) (o.push x) | none=>o) from rfl,e];refine (r9 f n (k+1) _ _ (by rw [List.length_eraseIdx_of_lt hi,h]; rfl)).trans ?_;rw [toList_push,Qa];exact .append_left _ (cU e)
def tW (f:Nat->Nat) (xs:Array α):(pickOrder f xs).toList.Perm xs.toList:=r9 f _ 0 _ #[] length_toList
end
def dA:PySem.Slot "set_iterator" "__iter__" "set_iterator.__iter__":=
 .of (owner:="set_iterator") (n:="__iter__") (by rw [typeLookup_type,builtinLookup_eq_fast]; kernel_rfl) (by decide +kernel) (by decide +kernel) (by decide +kernel)
  (by first | exact .inl (by decide +kernel) | exact .inr (by decide +kernel)) (by rw [isSubtype_type]; kernel_rfl)
def gG:entryFor table "set_iterator.__iter__"=some Builtin.«dict_keyiterator.__iter__»:=entryFor_alias (id':="dict_keyiterator.__iter__") (by kernel_rfl) rfl (by decide +kernel) (by kernel_rfl)
def hW (a:Value):argsOk "set_iterator.__iter__" ⟨[a],[]⟩:=by unfold argsOk; kernel_rfl
section
variable {prog:Program} {w:World} {A:Around} {E:GE} {s:Shared} {I S:Addr} {o:Obj} {es:Array (Int×Value)} {ep:Nat} {t:SetTable} {GW:List Value}
def iL (hI:s.heap.get? I=some ob) (hc:ob.cls=.type "set_iterator") (h:Q (.ref I) s):GM prog w A (pyIter (.ref I)) Q E s:=by
 have hT:s.TypeIs (.ref I) "set_iterator":=⟨_,hI,hc⟩;refine wpAny_pyIter_slot hT dA (wpAny_call_entry dA hT gG ?_ (hW _));refine (bPu ?_);exact zC2 ⟨_,rfl, "set_iterator",_,hT,bB.lookup,h⟩
abbrev nR (prog:Program) (w:World) (S:Addr) (o:Obj) (i ep slot:Nat) (r:Option (Value×Nat)):Prop:=∀ (s:Shared),s.heap.get? S=some o->∀ (A:Around) (Q:Option (Value×Nat)->Shared->Prop) (E:GE),Q r s->GM prog w A (setNext S slot i ep) Q E s
def Dy {C:Addr->Prop} (m:c∈[a,b]) (ha:C a) (hb:C b):C c:=by
 rcases mem_cons.mp m with rfl | m
 ·exact ha
 ·obtain rfl:=zA6 m; exact hb
def kA (hh:A.handled=none) (Gc:S≠I) (hd:o.data=.set es ep t) (hf:t.fits es.size=true) (Sl:Nat->Nat->Prop)
  (hs:∀ i slot,Sl slot i->i < es.size->∃ x nx,GW[i]?=some x/\Sl nx (i+1)/\nR prog w S o i ep slot (some (x,nx))) (he:∀ slot,Sl slot es.size->nR prog w S o es.size ep slot none) :
  Walks prog w A I [I,S] [I] es.size (fun i v=>GW[i]?=some v) (fun i h=>h.get? S=some o/\∃ slot tk,Sl slot i/\h.get? I=some (jY (.int slot tk) i S es.size ep)) where
 sub:=fun b m=>by obtain rfl:=zA6 m; exact .head _
 frame:=fun i h h' Ih k=>Ih.elim fun a Ib=>Ib.elim fun slot JK=>JK.elim fun tk IM=>IM.elim fun b c=>⟨k S (.tail _ (.head _)) _ a,slot,tk,b,k I (.head _) _ c⟩
 item:=fun i s Q E hi ⟨a,slot,tk,b,c⟩ hQ=>by
  refine Bn fun Z1 Mj=>?_;obtain ⟨x,nx,e1,e2,e3⟩:=hs i slot b hi;refine Mj ?_;refine gb (r:=some x) (f':=.int nx 0) hh c a hd hf (.inl ⟨slot,nx,tk,rfl,rfl,e3 s a⟩) (fun y ey h' hI sb=>?_) fun q=>nN q;(injection ey with ey; subst ey);exact hQ x h' s.toks e1 ⟨(sb.2 S Gc).trans a,nx,0,e2,hI⟩ fun b o m e=>(sb.2 b fun q=>m (q▸.head _)).trans e
 done:=fun s Q E JE hQ=>JE.elim fun a Hs=>Hs.elim fun slot Ig=>Ig.elim fun tk JQ=>JQ.elim fun b c=>gb (r:=none) (f':=.int 0 0) hh c a hd hf (.inl ⟨slot,0,tk,rfl,rfl,he slot b s a⟩) (fun y ey=>nN ey.symm) fun U h' k=>hQ h' s.toks fun b o m e=>k b o (fun q=>m (q▸.head _)) e
 self:=fun i s Q E ⟨a,slot,tk,b,c⟩ h=>iL c rfl h
def tA (hh:A.handled=none) (Gc:S≠I) (hd:o.data=.set es ep t) (hf:t.fits es.size=true) (hF:F≠I) (I8:ol.data=.seq items n') (hz:items.size=es.size)
  (hs:∀ i,i < es.size->∃ (p:Nat) (tk:Tok) (x:Value) (e:Int),GW[i]?=some x/\items[i]?=some (.int p tk)/\es[p]?=some (e,x)) :
  Walks prog w A I [I,S,F] [I] es.size (fun i v=>GW[i]?=some v) (fun i h=>h.get? S=some o/\h.get? F=some ol/\h.get? I=some (jY (.ref F) i S es.size ep)) where
 sub:=fun b m=>by obtain rfl:=zA6 m; exact .head _
 frame:=fun i h h' Nr k=>Nr.elim fun a Nq=>Nq.elim fun b c=>⟨k S (.tail _ (.head _)) _ a,k F (.tail _ (.tail _ (.head _))) _ b,k I (.head _) _ c⟩
 item:=fun i s Q E hi ⟨a,b,c⟩ hQ=>by
  refine Bn fun Z2 Mg=>?_;obtain ⟨p,tk,x,e,e1,e2,e3⟩:=hs i hi;refine Mg ?_;refine gb (r:=some x) (f':=.ref F) hh c a hd hf (.inr ⟨F,ol,items,n',rfl,rfl,b,I8,.inr ⟨p,tk,x,e,rfl,e2,e3⟩⟩) (fun y ey h' hI sb=>?_) fun q=>nN q;(injection ey with ey; subst ey);exact hQ x h' s.toks e1 ⟨(sb.2 S Gc).trans a,(sb.2 F hF).trans b,hI⟩ fun b o m e=>(sb.2 b fun q=>m (q▸.head _)).trans e
 done:=fun s Q E JP hQ=>JP.elim fun a JO=>JO.elim fun b c=>gb (r:=none) (f':=.ref F) hh c a hd hf (.inr ⟨F,ol,items,n',rfl,rfl,b,I8,.inl ⟨rfl,getElem?_eq_none (zB2 hz)⟩⟩) (fun y ey=>nN ey.symm) fun U h' k=>hQ h' s.toks fun b o m e=>k b o (fun q=>m (q▸.head _)) e
 self:=fun i s Q E ⟨a,b,c⟩ h=>iL c rfl h
def kP (hB:w.params.followText "set-order"=true) (hd:o.data=.set es ep t) (hf:t.fits es.size=true) (e:((pickOrder (w.params.setOrder S ep) es)[i]?).map (fun e=>(e.2,slot))=r):nR prog w S o i ep slot r:=fun s ho A Q E h=>by
 skip
 refine zC1 (wpAny_setState_of ho hd hf ?_);refine zC1 (zC1 (wpAny_askSetting (zC2 ?_)));rw [show (Setting.mk (model prog w).prog (model prog w).w.params).params.followText "set-order"=true from hB,NP rfl,NQ (by simp)];unfold setWalk;refine zC1 (zC1 (wpAny_setState_of ho hd hf ?_));refine zC1 (zC1 (wpAny_askSetting (zC2 ?_)));refine (show (Setting.mk (model prog w).prog (model prog w).w.params).params.followText "set-order"=true from hB).symm▸(NP rfl).symm▸?_;refine zC1 (wpAny_askSetting (zC2 (zC2 ?_)));exact e▸h
def oX (hB:w.params.followText "set-order"=false) (hd:o.data=.set es ep t) (hf:t.fits es.size=true) (hl:t.led=true) (hn:(!t.plain&&decide (es.size > 1))=false)
  (e:(match es[SetTable.below t.place slot]?,t.place[SetTable.below t.place slot]? with | some (_,x),some j=>some (x,j+1) | _,_=>none)=r):nR prog w S o i ep slot r:=fun s ho A Q E h=>by
 skip
 refine zC1 (wpAny_setState_of ho hd hf ?_);refine zC1 (zC1 (wpAny_askSetting (zC2 ?_)));refine (show (Setting.mk (model prog w).prog (model prog w).w.params).params.followText "set-order"=false from hB).symm▸(NQ NK).symm▸?_;refine bE (ne_true_of_eq_false hn) ?_;refine zC1 (bE (show ¬ (!t.led&&!es.isEmpty)=true by simp [hl]) (zC2 ?_));refine zC2 ?_;subst e; exact h
def wa (hL:L = !w.params.followText "set-order") (T:TS s.heap S es L)
  (h:∀ (GW:List Value) I fp wr St h' d,GW.Perm (es.toList.map (·.2))->ao s.heap h'->(∀ b∈wr,s.heap.get? b=none)->(∀ b∈fp,s.heap.get? b=none\/b=S)->(∀ A:Around,A.handled=none->Walks prog w A I fp wr es.size (fun i v=>GW[i]?=some v) St)->St 0 h'->Q (.ref I) { s with heap:=h',drawn:=d }) :
  GM prog w A (pyIter (.ref S)) Q E s:=by
 refine Bn fun Z3 Mf=>?_;obtain ⟨o,ep,t,ho,Ha,hd,T,hr,hl⟩:=T;refine Mf ?_;have hm:es.size<=t.mask:=le_of_lt (lt_of_mul_lt_mul_right (Q0 (mul_le_mul_left es.size (by decide:3<=5)) hr));have hf:t.fits es.size=true:=T.fits hm;have hT:s.TypeIs (.ref S) "set":=⟨_,ho,Ha.1⟩;refine wpAny_pyIter_slot hT PySem.F.slot_set_iter (wpAny_call_entry PySem.F.slot_set_iter hT iB ?_ (PySem.F.args_set_iter_1 _));unfold Builtin.«frozenset.__iter__»;refine zC1 ((bPu (zC2 ?_)));refine zC1 (zC1 (zC1 (wpAny_setState_of ho hd hf (zC2 (zC2 ?_)))))
 skip
 refine zC1 (zC1 (wpAny_setState_of ho hd hf ?_));refine zC1 (zC1 (wpAny_askSetting (zC2 (zC2 ?_))));have Gz:es.size<=8191:=zB1 hm (by rcases T.msk with q | q | q | q | q | q <;> rw [q] <;> decide);extract_lets jp;have Hq:∀ (s1:Shared) ff,s1.heap.get? S=some o->(∀ h',h'.get? s1.heap.objs.size=some (jY ff 0 S es.size ep)->ao s1.heap h'->Q (.ref s1.heap.objs.size) { s1 with heap:=h' }) ->
   GM prog w A.in1 (jp ff) (fun fin s'=>∃ v,fin=.done (.ret v)/\∃ T' r,s'.TypeIs v T'/\typeLookup (.type T') (ofString "__next__")=pure (some r)/\Q v s') E s1:=fun s1 ff h1 hq=>by
  refine zC1 (wpAny_setEpoch_of h1 hd hf ?_);refine zC1 (wpAny_newObj_type ?_);exact zC2 ⟨_,rfl, "set_iterator",_,⟨_,Q2 _ rfl,rfl⟩,bB.lookup,hq _ (Q2 _ rfl) (am _ _)⟩
 have nI:∀ (h1:Heap),ao s.heap h1->s.heap.get? h1.objs.size=none:=fun h1 k=>aK k.live (ak _);refine wpAny_ite_split (fun c=>?_) fun c=>?_
 ·refine zC1 (tf _ _ _ length_range fun ys d py=>?_);refine zC1 (wpAny_newTuple ?_ (by rw [zA4,py.length_eq,length_range]; exact zB1 Gz (by decide)));have k1:ao s.heap (s.heap.push { cls:=.type "tuple",data:=.seq (ys.map fun (i:Nat)=>rawInt i).toArray 0 }):=am _ _;have hy:∀ a∈ys,(es.toList[a]?).isSome:=fun a m=>by
   rw [Q8 (by rw [zB3]; exact mem_range.mp (py.mem_iff.mp m))]; rfl
  refine Hq _ _ (k1 _ _ ho) fun h' hI k=>h ((ys.filterMap (es.toList[·]?)).map (·.2)) _ _ _ _ h' d ?_ (k1.trans k) (fun b m=>?_) (fun b m=>?_) (fun A hh=>tA hh (aY (k1 _ _ ho)) hd hf (F:=s.heap.objs.size) (ne_of_lt (by rw [size_push]; exact lt_succ_self _)) (rfl:Obj.data { cls:=.type "tuple",data:=.seq (ys.map fun (i:Nat)=>rawInt i).toArray 0 }=_) (by simp [py.length_eq]) fun i hi=>?_) ⟨(k1.trans k) _ _ ho,k _ _ (Q2 _ rfl),hI⟩
  ·refine (Perm.map _ ((Perm.filterMap _ py).trans (.of_eq ?_)));exact length_toList▸b6 _
  ·obtain rfl:=zA6 m; exact nI _ k1
  ·rcases mem_cons.mp m with rfl | m
   ·exact .inl (nI _ k1)
   ·exact Dy (C:=fun b=>s.heap.get? b=none\/b=S) m (.inr rfl) (.inl (ak _))
  ·have G4:i < ys.length:=by rw [py.length_eq,length_range]; exact hi
   have ep:ys[i] < es.size:=mem_range.mp (py.mem_iff.mp (getElem_mem G4));refine ⟨ys[i],0,es[ys[i]].2,es[ys[i]].1,?_,?_,Array.getElem?_eq_getElem ep⟩
   ·rw [getElem?_map,cT hy,Q8 G4];refine (?_:((es.toList[ys[i]]?).map _)=_);rw [Q5,Array.getElem?_eq_getElem ep]; rfl
   ·simp [G4,rawInt]
 ·refine (bPu ?_);cases hB:w.params.followText "set-order" with
  | true=>
   have pk:=tW (w.params.setOrder S ep) es;refine Hq s _ ho fun h' hI k=>h ((pickOrder (w.params.setOrder S ep) es).toList.map (·.2)) _ _ _ _ h' s.drawn (pk.map _) k (fun b m=>by obtain rfl:=zA6 m; exact ak _) (fun b m=>Dy (C:=fun b=>s.heap.get? b=none\/b=S) m (.inl (ak _)) (.inr rfl))
    (fun A hh=>kA hh (aY ho) hd hf (fun U U=>True) (fun i slot U hi=>?_) fun slot U=>?_) ⟨k _ _ ho,0,0,trivial,hI⟩
   ·have G4:i < (pickOrder (w.params.setOrder S ep) es).size:=by exact length_toList▸pk.length_eq.symm▸length_toList.symm▸hi
    exact ⟨(pickOrder (w.params.setOrder S ep) es)[i].2,slot,by rw [getElem?_map,Q5,Array.getElem?_eq_getElem G4]; rfl,trivial,kP hB hd hf (by rw [Array.getElem?_eq_getElem G4]; rfl)⟩
   ·exact kP hB hd hf (by rw [getElem?_eq_none (by rw [<- zB3,pk.length_eq,zB3]; exact le_refl _)]; rfl)
  | false=>
   have hl2:t.led=true:=by rw [hl,hL,hB]; rfl
   have hn:(!t.plain&&decide (es.size > 1))=false:=by
    have c:¬ (!w.params.followText "set-order"&&(!t.plain&&decide (es.size > 1)))=true:=c;rw [hB] at c;exact eq_false_iff.mpr c
   refine Hq s _ ho fun h' hI k=>h (es.toList.map (·.2)) _ _ _ _ h' s.drawn (.refl _) k (fun b m=>by obtain rfl:=zA6 m; exact ak _) (fun b m=>Dy (C:=fun b=>s.heap.get? b=none\/b=S) m (.inl (ak _)) (.inr rfl))
    (fun A hh=>kA hh (aY ho) hd hf (fun slot i=>SetTable.below t.place slot=i) (fun i slot e hi=>?_) fun slot e=>oX hB hd hf hl2 hn (by rw [e,getElem?_eq_none (le_refl _)])) ⟨k _ _ ho,0,0,?_,hI⟩
   ·obtain ⟨j,ej⟩:∃ j,t.place[i]?=some j:=⟨_,Array.getElem?_eq_getElem (by rw [T.sz]; exact hi)⟩;refine ⟨es[i].2,j+1,by rw [getElem?_map,Q5,Array.getElem?_eq_getElem hi]; rfl,?_,oX hB hd hf hl2 hn (by rw [e,Array.getElem?_eq_getElem hi,ej])⟩;have b:=d6 T.rise (j+1);rcases lt_trichotomy (SetTable.below t.place (j+1)) (i+1) with q | q | q
    ·exact absurd (b.2.2 i j (Qb q) ej) (Nat.not_succ_le_self j)
    ·exact q
    ·obtain ⟨j',ej'⟩:∃ j,t.place[i+1]?=some j:=⟨_,Array.getElem?_eq_getElem (Q1 q b.1)⟩;exact absurd (Qb (b.2.1 _ _ q ej')) (not_le.mpr (T.rise _ _ _ _ (lt_succ_self i) ej ej'))
   ·have b:=d6 T.rise 0;rcases Nat.eq_zero_or_pos (SetTable.below t.place 0) with q | q
    ·exact q
    ·have b1:=b.1;obtain ⟨j,ej⟩:∃ j,t.place[0]?=some j:=⟨_,Array.getElem?_eq_getElem (Q1 q b1)⟩;exact absurd (b.2.1 0 j q ej) (not_lt_zero _)
end
end Mine
end
noncomputable section
namespace Mine.Zs
open PySem PySem.Calls PyProof.Rows PySem.W
noncomputable abbrev KKd:=PyProof.Rows.KeyKind
structure SI (k₀:SortKind) (a₀:Array Keyed) (p:Array (Nat×Nat×Nat)) (st:SortSt):Prop where
 perm:(arrOf st).Perm a₀
 kind:kindOf st=k₀
 failed:failedOf st=none
 pend:pendingOf st=p
def Srt {κ:KKd} (f:Nat->κ.α) (a b:Nat):Prop:=∀ i j,a<=i->i<=j->j < b->κ.kle (f i) (f j)
def NIn {κ:KKd} (f:Nat->κ.α) (a b:Nat):Prop:=∀ i j,a<=i->i<=j->j < b->κ.kle (f j) (f i)
def Low {α:Type} (lo:Nat) (f g:Nat->α):Prop:=∀ i,i < lo->f i=g i
section
variable {M:Model} {A:Around} {s:Shared} {k₀:SortKind} {a₀:Array Keyed} {p:Array (Nat×Nat×Nat)} {st:SortSt} {E:GE} {κ:KKd}
noncomputable def keyK (κ:KKd) (x:Keyed):κ.α:=(κ.keyOf x.1).getD κ.dflt
def LtIs (M:Model) (A:Around) (s:Shared) (k₀:SortKind) (κ:KKd) (a₀:Array Keyed):Prop:=∀ x y:Keyed,x∈a₀.toList->y∈a₀.toList->∀ (E:GE) (Q:Bool->Shared->Prop),Q (κ.blt (keyK κ x) (keyK κ y)) s->wpAny M A (keyLt' k₀ x.1 y.1) Q E s
theorem SI.size (I:SI k₀ a₀ p st):(arrOf st).size=a₀.size:=I.perm.size_eq
theorem SI.setArr (I:SI k₀ a₀ p st) (h:xs.Perm (arrOf st)):SI k₀ a₀ p (setArr st xs):=⟨h.trans I.perm,I.kind,I.failed,I.pend⟩
theorem SI.mem (I:SI k₀ a₀ p st) (h:x∈(arrOf st).toList):x∈a₀.toList:=(perm_iff_toList_perm.mp I.perm).mem_iff.mp h
def kk_at (e:xs[i]?=some x):KK κ xs i=keyK κ x:=by unfold KK; rw [e]; rfl
def uS (hi:i < a.size) (h:∀ x,x∈a.toList->a[i]?=some x->Q x st):wpS M A E s (elem' a i) Q st:=by
 rw [elem'_eq,getElem?_pos a i hi];exact wpS_pure (h _ (by simp) (getElem?_pos a i hi))
def aX {β:Type} {f:Keyed->StateT SortSt Sem β} {Q:β->SortSt->Prop} (hi:i < a.size) (h:∀ x,x∈a.toList->a[i]?=some x->wpS M A E s (f x) Q st):wpS M A E s (elem' a i >>= f) Q st:=wpS_bind (uS hi h)
def dg {β:Type} {f:SortSt->StateT SortSt Sem β} {Q:β->SortSt->Prop} (h:wpS M A E s (f st) Q st):wpS M A E s (get >>= f) Q st:=wpS_bind (wpS_get h)
def ig {β:Type} {f:Unit->StateT SortSt Sem β} {Q:β->SortSt->Prop} (h:wpS M A E s (f ()) Q st):wpS M A E s (liftM (rule t) >>= f) Q st:=wpS_bind (wpS_lift (wpAny_rule ⟨rfl,h⟩))
def lO {g:SortSt->SortSt} {β:Type} {f:PUnit->StateT SortSt Sem β} {Q:β->SortSt->Prop} (h:wpS M A E s (f ⟨⟩) Q (g st)):wpS M A E s (modify g >>= f) Q st:=wpS_bind (wpS_modify h)
def mX (L:LtIs M A s k₀ κ a₀) (hk:kindOf st=k₀) (hx:x∈a₀.toList) (hy:y∈a₀.toList) (h:∀ b,κ.blt (keyK κ x) (keyK κ y)=b->Q (some b) st):wpS M A E s (lt' x y) Q st:=by
 rw [lt'_eq];refine (dg ?_);exact hk.symm▸wpS_bind (wpS_lift (wpAny_attempt (L x y hx hy _ _ ⟨rfl,wpS_pure (h _ rfl)⟩)))
def uR (L:LtIs M A s k₀ κ a₀) (I:SI k₀ a₀ p st) (hi:i < a₀.size) (hj:j < a₀.size) (h:∀ b,κ.blt (KK κ (arrOf st) i) (KK κ (arrOf st) j)=b->Q (some b) st):wpS M A E s (ltAt' i j) Q st:=by
 rw [ltAt'_eq];exact (dg ((aX (I.size▸hi) fun x hx ex=>(aX (I.size▸hj) fun y hy ey=>mX L I.kind (I.mem hx) (I.mem hy) fun b e=>h b (by rw [kk_at ex,kk_at ey]; exact e)))))
def gz {β:Type} {f:Option Bool->StateT SortSt Sem β} {Q:β->SortSt->Prop} (L:LtIs M A s k₀ κ a₀) (I:SI k₀ a₀ p st) (hi:i < a₀.size) (hj:j < a₀.size) (h:∀ b,κ.blt (KK κ (arrOf st) i) (KK κ (arrOf st) j)=b->wpS M A E s (f (some b)) Q st):wpS M A E s (ltAt' i j >>= f) Q st:=wpS_bind (uR L I hi hj h)
def lN (I:SI k₀ a₀ p st) (h:∀ C',SI k₀ a₀ p C'->arrOf C'=mirror (arrOf st) i j ((j - i) / 2)->Q () C'):wpS M A E s (reverseSlice' i j) Q st:=by
 rw [reverseSlice'_eq]; exact wpS_modify (h _ (I.setArr (mirror_perm _ _ _ _)) rfl)
def u7 {f:Nat->κ.α} (h:Srt f a b) (q:a < b->κ.kle (f (b - 1)) (f b)):Srt f a (b+1):=fun i j hi Go hj=>by
 rcases lt_or_ge j b with z | z
 ·exact h i j hi Go z
 ·obtain rfl:=le_antisymm (Qb hj) z;rcases lt_or_ge i j with z | z
  ·exact kle_trans (h i (j - 1) hi (le_sub_one_of_lt z) (Nat.sub_one_lt (ne_of_gt (Nat.zero_lt_of_lt z)))) (q (Q0 hi z))
  ·obtain rfl:=le_antisymm Go z; exact kle_refl _
def ga {f:Nat->κ.α} (h:NIn f a b) (q:a < b->κ.kle (f b) (f (b - 1))):NIn f a (b+1):=fun i j hi Go hj=>by
 rcases lt_or_ge j b with z | z
 ·exact h i j hi Go z
 ·obtain rfl:=le_antisymm (Qb hj) z;rcases lt_or_ge i j with z | z
  ·exact kle_trans (q (Q0 hi z)) (h i (j - 1) hi (le_sub_one_of_lt z) (Nat.sub_one_lt (ne_of_gt (Nat.zero_lt_of_lt z))))
  ·obtain rfl:=le_antisymm Go z; exact kle_refl _
def yX {f:Nat->κ.α}:Srt f a (a+1):=fun i j hi Go hj=>by
 obtain rfl:=le_antisymm (zB1 Go (Qb hj)) hi;obtain rfl:=le_antisymm (Qb hj) Go;exact kle_refl _
def rH {lo a Ge:Nat} {f:Nat->Option (Option Nat)×Nat->StateT SortSt Sem (ForInStep (Option (Option Nat)×Nat))} {Q:Option (Option Nat)×Nat->SortSt->Prop} {g:Nat->Option Bool->StateT SortSt Sem (ForInStep (Option (Option Nat)×Nat))}
  (L:LtIs M A s k₀ κ a₀) (hf:∀ x,f x (none,x)=(ltAt' (lo+x) (lo+x - 1) >>= g x)) (g1:∀ x,g x (some true)=pure (.done (none,x))) (g0:∀ x,g x (some false)=pure (.yield (none,x+1)))
  (hn:lo+Ge<=a₀.size) (h1:1<=a) (h2:a<=Ge) (I:SI k₀ a₀ p st) (hs:Srt (KK κ (arrOf st)) lo (lo+a)) (h:∀ m,1<=m->m<=Ge->Srt (KK κ (arrOf st)) lo (lo+m)->(m < Ge->κ.klt (KK κ (arrOf st) (lo+m)) (KK κ (arrOf st) (lo+m - 1)))->Q (none,m) st):wpS M A E s (forIn [a:Ge] (none,a) f) Q st:=by
 refine wpS_forRange (I:=fun x c C'=>c=(none,x)/\C'=st/\Srt (KK κ (arrOf st)) lo (lo+x)) ?_ ?_ ⟨rfl,rfl,hs⟩
 ·rintro x c C' q1 q2 ⟨rfl,rfl,hs⟩;rw [hf];have hx:lo+x < a₀.size:=Q1 (add_lt_add_left q2 lo) hn;refine (gz L I hx (Q0 (sub_le _ _) hx) fun b e=>?_);cases b
  ·rw [g0]; exact wpS_pure ⟨rfl,rfl,u7 hs fun U=>e⟩
  ·rw [g1]; exact wpS_pure (h x (zB1 h1 q1) (le_of_lt q2) hs fun U=>e)
 ·rintro c C' ⟨rfl,rfl,hs⟩;rw [max_eq_right h2] at hs ⊢;exact h _ (zB1 h1 h2) (le_refl _) hs fun q=>absurd q (lt_irrefl _)
def EqB (κ:KKd) (xs:Array Keyed) (i j:Nat):Prop:=∀ k,i<=k->k < j->KK κ xs k=KK κ xs (j - 1)
def rK (hj:j<=xs.size) (e:EqB κ xs i j):KK κ (mirror xs i j ((j - i) / 2))=KK κ xs:=funext fun k=>KK_mirror_equal hj e k
def vJ {lo n:Nat} (hn:n<=xs.size) (h:NIn (KK κ xs) lo n):Srt (KK κ (mirror xs lo n ((n - lo) / 2))) lo n:=fun i j hi Go hj=>by
 rw [KK_mirror hn,KK_mirror hn,NP ⟨hi,Q0 Go hj⟩,NP ⟨zB1 hi Go,hj⟩];have z:=Q1 (Q0 Go hj) (le_add_left n lo);exact h _ _ (Nat.le_sub_of_add_le (le_sub_one_of_lt (add_lt_add_left hj lo))) (Nat.sub_le_sub_left Go _) (Nat.sub_lt_left_of_lt_add (le_sub_one_of_lt z) (Q1 (sub_one_lt_of_lt z) (add_le_add_right hi n)))
def vQ {lo n:Nat} (hn:n<=xs.size):Low lo (KK κ (mirror xs lo n ((n - lo) / 2))) (KK κ xs):=fun i hi=>by
 rw [KK_mirror hn,NQ fun z=>absurd hi (not_lt.mpr z.1)]
def jA [Decidable c] (I:SI k₀ a₀ p st) (hj:j<=a₀.size) (e:EqB κ (arrOf st) i j) (h:∀ C',SI k₀ a₀ p C'->KK κ (arrOf C')=KK κ (arrOf st)->wpS M A E s X Q C'):wpS M A E s (if c then reverseSlice' i j >>= fun U=>X else X) Q st:=by
 split
 ·exact wpS_bind (lN I fun C' I' e'=>h C' I' (by rw [e']; exact rK (I.size▸hj) e))
 ·exact h st I rfl
inductive CR (κ:KKd) (k₀:SortKind) (a₀:Array Keyed) (p:Array (Nat×Nat×Nat)) (st:SortSt) (lo x:Nat) (c:Option (Option Nat)×Nat×Nat) (C':SortSt):Prop
 | mk (q:Nat) (e:c=(none,x,q)) (i:SI k₀ a₀ p C') (d:NIn (KK κ (arrOf C')) lo (lo+x)) (b:EqB κ (arrOf C') (lo+x - (q+1)) (lo+x)) (w:Low lo (KK κ (arrOf C')) (KK κ (arrOf st))):CR κ k₀ a₀ p st lo x c C'
def lC {lo Ge:Nat} {Q:Option Nat->SortSt->Prop} (L:LtIs M A s k₀ κ a₀) (hn:lo+Ge<=a₀.size) (h1:1<=Ge) (I:SI k₀ a₀ p st)
  (h:∀ m C',SI k₀ a₀ p C'->1<=m->m<=Ge->Srt (KK κ (arrOf C')) lo (lo+m)->Low lo (KK κ (arrOf C')) (KK κ (arrOf st))->Q (some m) C'):wpS M A E s (countRun' lo Ge) Q st:=by
 rw [countRun'_eq];have hz:lo+Ge<=(arrOf st).size:=I.size▸hn;refine wpS_bind (rH L (fun U=>rfl) (fun U=>rfl) (fun U=>rfl) hn (le_refl 1) h1 I yX fun n JX KN hs F8=>?_);dsimp only;by_cases e:n=Ge
 ·rw [NP (by simpa using e)]; exact wpS_pure (h n st I JX KN hs fun U U=>rfl)
 rw [NQ (by simpa using e)];have F8:=F8 (lt_of_le_of_ne KN e);have KO:n < Ge:=lt_of_le_of_ne KN e
 -- a run that went down is turned round,and goes on
 have turn:∀ {n':Nat} {C':SortSt} {f:Nat->Option (Option Nat)×Nat->StateT SortSt Sem (ForInStep (Option (Option Nat)×Nat))} {F:Option (Option Nat)×Nat->StateT SortSt Sem (Option Nat)} {g:Nat->Option Bool->StateT SortSt Sem (ForInStep (Option (Option Nat)×Nat))},
   (∀ x,f x (none,x)=(ltAt' (lo+x) (lo+x - 1) >>= g x))->(∀ x,g x (some true)=pure (.done (none,x)))->(∀ x,g x (some false)=pure (.yield (none,x+1)))->(∀ m,F (none,m)=pure (some m))->SI k₀ a₀ p C'->1<=n'->n'<=Ge->NIn (KK κ (arrOf C')) lo (lo+n')->Low lo (KK κ (arrOf C')) (KK κ (arrOf st)) ->
   wpS M A E s (reverseSlice' lo (lo+n') >>= fun U=>forIn [n':Ge] (none,n') f >>= F) Q C':=fun {n' C' _ _ _} hf g1 g0 hF I' q1 q2 hd hw=>by
  have Ix:lo+n'<=(arrOf C').size:=zB1 (Q7 q2 lo) (I'.size▸hn);refine wpS_bind (lN I' fun Ke I4 e4=>wpS_bind (rH L hf g1 g0 hn q1 q2 I4 (by rw [e4]; exact vJ Ix hd) fun m a b c U=>?_));rw [hF]; exact wpS_pure (h m Ke I4 a b c fun i hi=>by rw [e4,vQ Ix i hi]; exact hw i hi)
 have go:∀ {α:Type} {c:Prop} [Decidable c] {i j:Nat} {X:StateT SortSt Sem α} {F:Option Bool->StateT SortSt Sem α} {Q:α->SortSt->Prop},(c ↔ n > 1)->i=lo->j=lo+n - 1->wpS M A E s (F (some true)) Q st->F (some false)=(reverseSlice' lo (lo+n) >>= fun U=>X) ->
   (∀ GA,SI k₀ a₀ p GA->NIn (KK κ (arrOf GA)) lo (lo+n+1)->Low lo (KK κ (arrOf GA)) (KK κ (arrOf st))->wpS M A E s X Q GA)->wpS M A E s (if c then ltAt' i j >>= F else X) Q st:=fun hc hi hj ht hF hX=>by
  rw [hi,hj];have HP:lo+n<=(arrOf st).size:=zB1 (Q7 KN lo) hz;split
  ·refine (gz L I (Q1 (Nat.lt_add_of_pos_right h1) hn) (Q0 (sub_le _ _) (Q1 (add_lt_add_left KO lo) hn)) fun b eb=>?_);cases b
   ·have MY:∀ k,lo<=k->k < lo+n->KK κ (arrOf st) k=KK κ (arrOf st) (lo+n - 1):=fun k hk Hp=>kle_antisymm (hs k (lo+n - 1) hk (le_sub_one_of_lt Hp) (sub_one_lt_of_lt Hp)) (kle_trans eb (hs lo k (le_refl _) hk Hp));rw [hF];refine wpS_bind (lN I fun C' I' e'=>?_);have ek:KK κ (arrOf C')=KK κ (arrOf st):=by rw [e']; exact rK HP MY
    refine hX C' I' ?_ fun j U=>by rw [ek]
    rw [ek];exact ga (fun a b ha Il hb=>by rw [MY a ha (Q0 Il hb),MY b (zB1 ha Il) hb]; exact kle_refl _) fun U=>kle_of_klt F8
   ·exact ht
  ·rename_i GL;have n1:n=1:=le_antisymm (le_of_not_lt fun q=>GL (hc.mpr q)) JX;refine hX st I (ga (fun a b ha Il hb=>?_) fun U=>kle_of_klt F8) fun U U=>rfl;obtain rfl:=le_antisymm Il (zB1 (Qb (show b < lo+1 from n1▸hb)) ha);exact kle_refl _
 refine go Iff.rfl rfl rfl (wpS_pure (h n st I JX KN hs fun U U=>rfl)) rfl fun GA I2 d2 w2=>?_;refine ig ?_;have one:∀ {xs:Array Keyed} {x:Nat},EqB κ xs (x - (0+1)) x:=fun {xs x} k a b=>NO (KK κ xs) (le_antisymm (le_sub_one_of_lt b) a);refine wpS_bind (wpS_forRange (I:=CR κ k₀ a₀ p st lo) ?_ ?_ ⟨0,rfl,I2,d2,one,w2⟩)
 ·rintro x c C' LB Ky ⟨q,rfl,I',d',e',w'⟩;have Kx:lo+x < a₀.size:=Q1 (add_lt_add_left Ky lo) hn;have IX:lo+x - 1 < a₀.size:=Q0 (sub_le _ _) Kx;refine (gz L I' Kx IX fun b eb=>?_);dsimp only at eb;cases b
  ·refine (gz L I' IX Kx fun b MZ=>?_);dsimp only at MZ;cases b
   ·have ek:KK κ (arrOf C') (lo+x)=KK κ (arrOf C') (lo+x - 1):=kle_antisymm MZ eb;refine wpS_pure ⟨q+1,rfl,I',ga d' fun U=>MZ,fun k a b=>?_,w'⟩;have b:k < lo+x+1:=b;have a:lo+x+1 - (q+1+1)<=k:=a;rw [show lo+(x+1) - 1=lo+x from rfl,ek];rcases lt_or_ge k (lo+x) with z | z
    ·exact e' k (zB1 (zB2 (Nat.add_sub_add_right (lo+x) 1 (q+1)).symm) a) z
    ·rw [le_antisymm (Qb b) z,ek]
   ·exact wpS_pure (jA I' (le_of_lt Kx) e' fun Lv I3 k3=>
     turn (fun U=>rfl) (fun U=>rfl) (fun U=>rfl) (fun U=>rfl) I3 (zB1 (succ_le_succ (zero_le _)) LB) (le_of_lt Ky) (k3▸d') (k3▸w'))
  ·exact jA I' (le_of_lt Kx) e' fun Lv I3 k3=>wpS_pure ⟨0,rfl,I3,k3▸ga d' fun U=>kle_of_klt eb,one,k3▸w'⟩
 ·rintro c C' ⟨q,rfl,I',d',e',w'⟩;have z1:max (n+1) Ge=Ge:=max_eq_right KO;exact jA I' (z1.symm▸hn) e' fun Lv I3 k3=>turn (fun U=>rfl) (fun U=>rfl) (fun U=>rfl) (fun U=>rfl) I3 (z1.symm▸h1) (zB2 z1) (k3▸d') (k3▸w')
end
section
variable {M:Model} {A:Around} {s:Shared} {k₀:SortKind} {a₀:Array Keyed} {p:Array (Nat×Nat×Nat)} {st:SortSt} {E:GE} {κ:KKd}
def qz {lo d e:Nat} (he:e < xs.size) (hl:lo<=d) (hd:d<=e) (h:Srt (KK κ xs) lo e) (a:∀ i,lo<=i->i < d->κ.kle (KK κ xs i) (KK κ xs e)) (b:∀ i,d<=i->i < e->κ.kle (KK κ xs e) (KK κ xs i)):Srt (KK κ (bubble xs e (e - d))) lo (e+1)/\Low lo (KK κ (bubble xs e (e - d))) (KK κ xs):=by
 have k:∀ i,KK κ (bubble xs e (e - d)) i=if i=d then KK κ xs e else if d < i/\i<=e then KK κ xs (i - 1) else KK κ xs i:=fun i=>by rw [KK_bubble he (sub_le _ _),Nat.sub_sub_self hd]
 refine ⟨fun i j hi Go hj=>?_,fun i hi=>by rw [k,NQ (ne_of_lt (Q1 hi hl)),NQ fun z=>lt_asymm z.1 (Q1 hi hl)]⟩;rw [k,k];have hj:=Qb hj;rcases lt_trichotomy i d with qi | rfl | qi
 ·rw [NQ (ne_of_lt qi),NQ fun z=>lt_asymm z.1 qi];rcases lt_trichotomy j d with qj | rfl | qj
  ·rw [NQ (ne_of_lt qj),NQ fun z=>lt_asymm z.1 qj]; exact h i j hi Go (Q1 qj hd)
  ·rw [NP rfl]; exact a i hi qi
  ·rw [NQ (ne_of_gt qj),NP ⟨qj,hj⟩]; exact h i (j - 1) hi (le_sub_one_of_lt (lt_trans qi qj)) (Q1 (sub_one_lt_of_lt qj) hj)
 ·rw [NP rfl];rcases lt_or_ge i j with qj | qj
  ·rw [NQ (ne_of_gt qj),NP ⟨qj,hj⟩]; exact b (j - 1) (le_sub_one_of_lt qj) (Q1 (sub_one_lt_of_lt qj) hj)
  ·obtain rfl:=le_antisymm Go qj; rw [NP rfl]; exact kle_refl _
 ·have qj:d < j:=Q1 qi Go;rw [NQ (ne_of_gt qi),NP ⟨qi,zB1 Go hj⟩,NQ (ne_of_gt qj),NP ⟨qj,hj⟩];exact h (i - 1) (j - 1) (zB1 hl (le_sub_one_of_lt qi)) (Nat.sub_le_sub_right Go 1) (Q1 (sub_one_lt_of_lt qj) hj)
def CD (h:¬ l >= r) (hr:r<=k) (hf:r - l<=k - x):(l+r) / 2 < k/\l<=(l+r) / 2/\(l+r) / 2 < r/\(l+r) / 2 - l<=k - (x+1)/\r - ((l+r) / 2+1)<=k - (x+1):=
 have h:=not_le.mp h;have a:(l+r) / 2 < r:=Nat.div_lt_of_lt_mul (two_mul r▸Nat.add_lt_add_right h r);have b:l<=(l+r) / 2:=(Nat.le_div_iff_mul_le Nat.two_pos).mpr (mul_two l▸Q7 (le_of_lt h) l)
 ⟨Q1 a hr,b,a,Nat.le_pred_of_lt (Q1 (Nat.sub_lt_sub_right b a) hf),Nat.le_pred_of_lt (Q1 (Nat.sub_lt_sub_left h (lt_succ_of_le b)) hf)⟩
inductive B1 (κ:KKd) (k₀:SortKind) (a₀:Array Keyed) (p:Array (Nat×Nat×Nat)) (st:SortSt) (lo k:Nat) (c:Option Bool×Unit) (C':SortSt):Prop
 | mk (e:c=(none,())) (i:SI k₀ a₀ p C') (s:Srt (KK κ (arrOf C')) lo (lo+k)) (w:Low lo (KK κ (arrOf C')) (KK κ (arrOf st))):B1 κ k₀ a₀ p st lo k c C'
inductive B2 (κ:KKd) (C':SortSt) (lo k x:Nat) (c:Option Bool×Nat×Nat) (Gx:SortSt):Prop
 | mk (l r:Nat) (s:Gx=C') (e:c=(none,l,r)) (h1:l<=r) (h2:r<=k) (h3:r - l<=k - x) (a:∀ i,i < l->κ.kle (KK κ (arrOf C') (lo+i)) (KK κ (arrOf C') (lo+k))) (b:∀ i,r<=i->i < k->κ.kle (KK κ (arrOf C') (lo+k)) (KK κ (arrOf C') (lo+i))):B2 κ C' lo k x c Gx
def iy {lo n ok:Nat} {Q:Bool->SortSt->Prop} (L:LtIs M A s k₀ κ a₀) (hn:lo+n<=a₀.size) (h1:1<=ok) (h2:ok<=n) (I:SI k₀ a₀ p st) (hs:Srt (KK κ (arrOf st)) lo (lo+ok)) (h:∀ C',SI k₀ a₀ p C'->Srt (KK κ (arrOf C')) lo (lo+n)->Low lo (KK κ (arrOf C')) (KK κ (arrOf st))->Q true C'):wpS M A E s (binarySort' lo n ok) Q st:=by
 rw [binarySort'_eq];have hm:max ok 1=ok:=Nat.max_eq_left h1;refine wpS_bind (wpS_forRange (I:=B1 κ k₀ a₀ p st lo) ?_ (fun c C' ⟨e,I',GB,hw⟩=>by subst e; rw [hm,max_eq_right h2] at GB; exact wpS_pure (h C' I' GB hw)) ⟨rfl,I,hm.symm▸hs,fun U U=>rfl⟩);rintro k c C' hk1 MC ⟨rfl,I',GB,hw⟩;have JZ:lo+k < a₀.size:=Q1 (add_lt_add_left MC lo) hn;have fin:∀ l,l<=k->(∀ i,i < l->κ.kle (KK κ (arrOf C') (lo+i)) (KK κ (arrOf C') (lo+k)))->(∀ i,l<=i->i < k->κ.kle (KK κ (arrOf C') (lo+k)) (KK κ (arrOf C') (lo+i)))->B1 κ k₀ a₀ p st lo (k+1) (none,()) (setArr C' (bubble (arrOf C') (lo+k) (lo+k - (lo+l)))):=fun l hl a b=>by
  have z:=qz (I'.size▸JZ) (Q3 lo l) (Q7 hl lo) GB (fun i h1 h2=>by have:=a (i - lo) (Nat.sub_lt_left_of_lt_add h1 h2); rwa [Q9 h1] at this) fun i h1 h2=>by have z:=zB1 (Q3 _ _) h1; have:=b (i - lo) (Nat.le_sub_of_add_le' h1) (Nat.sub_lt_left_of_lt_add z h2); rwa [Q9 z] at this
  exact ⟨rfl,I'.setArr (bubble_perm _ _ _),z.1,fun i hi=>(z.2 i hi).trans (hw i hi)⟩
 refine wpS_bind (wpS_forRange (I:=B2 κ C' lo k) ?_ ?_ ⟨0,k,rfl,rfl,zero_le _,le_refl _,le_refl _,fun i q=>absurd q (not_lt_zero _),fun i q z=>absurd z (not_lt.mpr q)⟩)
 ·rintro x c Gx _ _ ⟨l,r,rfl,rfl,hlr,hr,hf,a,b⟩;dsimp only;split
  ·rename_i q;cases le_antisymm hlr q
   exact wpS_pure (wpS_bind (by rw [moveDown'_eq]; exact wpS_modify (wpS_pure (fin l hr a b))))
  ·rename_i q;obtain ⟨m1,m2,m3,m4,m5⟩:=CD q hr hf;refine (gz L I' JZ (lt_trans (add_lt_add_left m1 lo) JZ) fun bb e=>?_);cases bb
   ·exact wpS_pure ⟨_,r,rfl,rfl,m3,hr,m5,fun i hi=>kle_trans (GB _ _ (Q3 _ _) (Q7 (Qb hi) lo) (add_lt_add_left m1 lo)) e,b⟩
   ·exact wpS_pure ⟨l,_,rfl,rfl,m2,le_of_lt m1,m4,a,fun i hi hk=>kle_trans (kle_of_klt e) (GB _ _ (Q3 _ _) (Q7 hi lo) (add_lt_add_left hk lo))⟩
 ·rintro c Gx ⟨l,r,rfl,rfl,hlr,hr,hf,a,b⟩;have:l=r:=le_antisymm hlr (by have:r - l<=k - max 0 k:=hf; rw [max_eq_right (zero_le _),sub_self] at this; exact Nat.sub_eq_zero_iff_le.mp (le_zero.mp this));subst this;exact wpS_bind (by rw [moveDown'_eq]; exact wpS_modify (wpS_pure (fin l hr a b)))
def au [Decidable c] (h1:c->wpS M A E s t Q st) (h2:¬ c->wpS M A E s e Q st):wpS M A E s (if c then t else e) Q st:=by
 split
 ·exact h1 ‹_›
 ·exact h2 ‹_›
end
noncomputable def sT:Bool->Keyed->Array Keyed->Nat->Nat->Nat->StateT SortSt Sem (Option Nat):=sortPriv% PySem.Builtin.gallop
section
variable {M:Model} {A:Around} {s:Shared} {k₀:SortKind} {a₀:Array Keyed} {p:Array (Nat×Nat×Nat)} {st C':SortSt} {E:GE} {κ:KKd}
def iC {left:Bool} {arr:Array Keyed} {β:Type} {f:Option Bool->StateT SortSt Sem β} {Q:β->SortSt->Prop} (L:LtIs M A s k₀ κ a₀) (hk:kindOf st=k₀) (hx:key∈a₀.toList) (ha:∀ x∈arr.toList,x∈a₀.toList) (hi:i < arr.size) (h:∀ b,wpS M A E s (f (some b)) Q st) :
  wpS M A E s ((elem' arr i >>= fun x=>if left=true then lt' x key else lt' key x >>= fun r=>pure (r.map (!·))) >>= f) Q st:=by
 refine wpS_bind (aX hi fun x hm U=>?_);cases left
 ·exact wpS_bind (mX L hk hx (ha x hm) fun b U=>wpS_pure (h _))
 ·exact mX L hk (ha x hm) hx fun b U=>h b
inductive Bis (n:Nat) (st:SortSt):ForInStep (Option (Option Nat)×Nat×Nat)->SortSt->Prop
 | dn (l h:Nat) (q:h<=n):Bis n st (.done (none,l,h)) st
 | go (l h:Nat) (q:h<=n):Bis n st (.yield (none,l,h)) st
def eN {n lo hi:Nat} {f:Nat->Option (Option Nat)×Nat×Nat->StateT SortSt Sem (ForInStep (Option (Option Nat)×Nat×Nat))} {F:Option (Option Nat)×Nat×Nat->StateT SortSt Sem (Option Nat)} {Q:Option Nat->SortSt->Prop}
  (hf:∀ x l h,h<=n->wpS M A E s (f x (none,l,h)) (Bis n st) st) (hF:∀ l h,F (none,l,h)=pure (some h)) (hh:hi<=n) (h:∀ k,k<=n->Q (some k) st):wpS M A E s (forIn [:n] (none,lo,hi) f >>= F) Q st:=by
 refine wpS_bind (wpS_forRange (I:=fun x c C'=>Bis n st (.yield c) C') ?_ ?_ (.go _ _ hh))
 ·rintro x c C' _ _ (_ | ⟨l,h',q⟩);refine wpS_mono (hf x l h' q) fun r Gx w=>?_;cases w with
  | dn l h' q=>refine (?_:wpS M A E s (F _) Q _); rw [hF]; exact wpS_pure (h _ q)
  | go l h' q=>exact .go _ _ q
 ·rintro c C' (_ | ⟨l,h',q⟩);rw [hF]; exact wpS_pure (h _ q)
def uF {a b n z:Nat} (h:b < n) (hn:a+n<=z):a+b < z:=Q1 (add_lt_add_left h a) hn
inductive Ga (st:SortSt) (c:Option (Option Nat)×Nat×Nat) (C':SortSt):Prop
 | mk (l o:Nat) (e:c=(none,l,o)) (es:C'=st):Ga st c C'
def pP {left:Bool} {arr:Array Keyed} {base n GK:Nat} {Q:Option Nat->SortSt->Prop} (L:LtIs M A s k₀ κ a₀) (hk:kindOf st=k₀) (hx:key∈a₀.toList) (ha:∀ x∈arr.toList,x∈a₀.toList) (hb:base+n<=arr.size) (hh:GK < n)
  (h:∀ k,k<=n->Q (some k) st):wpS M A E s (sT left key arr base n GK) Q st:=by
 have hm:∀ o,GK+min o (n - GK)<=n:=fun o=>zB1 (Q7 (min_le_right _ _) _) (zB2 (Q9 (le_of_lt hh)));have two:∀ l h',h'<=n->wpS M A E s ((if l >= h' then pure (.done (none,l,h')) else (elem' arr (base+(l+(h' - l) / 2)) >>= fun x=>if left=true then lt' x key else lt' key x >>= fun r=>pure (r.map (!·))) >>= fun r=>match r with
   | some more=>if more=true then pure (.yield (none,l+(h' - l) / 2+1,h')) else pure (.yield (none,l,l+(h' - l) / 2))
   | _=>pure (.done (some none,l,h'))):StateT SortSt Sem (ForInStep (Option (Option Nat)×Nat×Nat))) (Bis n st) st:=by
  intro l h' q;refine au (fun U=>wpS_pure (.dn _ _ q)) fun z=>?_;have md:l+(h' - l) / 2 < h':=Nat.add_lt_of_lt_sub' (Nat.div_lt_self (sub_pos_of_lt (not_le.mp z)) (by decide));refine iC L hk hx ha (uF (Q1 md q) hb) fun b=>?_;cases b
  ·exact wpS_pure (.go _ _ (zB1 (le_of_lt md) q))
  ·exact wpS_pure (.go _ _ q)
 have lo:∀ o,GK - o<=n:=fun o=>zB1 (sub_le _ _) (le_of_lt hh);refine iC L hk hx ha (uF hh hb) fun b=>?_;cases b
 ·refine wpS_bind (wpS_forRange (I:=fun x c C'=>Ga st c C') ?_ ?_ ⟨0,1,rfl,rfl⟩)
  ·rintro x c C' _ _ ⟨l,o,rfl,rfl⟩;refine au (fun U=>wpS_pure (eN (fun x l h' q=>two l h' q) (fun l h=>rfl) (lo _) h)) fun U=>iC L hk hx ha (uF (Q0 (sub_le _ _) hh) hb) fun b=>?_;cases b
   ·exact wpS_pure ⟨_,_,rfl,rfl⟩
   ·exact wpS_pure (eN (fun x l h' q=>two l h' q) (fun l h=>rfl) (lo _) h)
  ·rintro c C' ⟨l,o,rfl,rfl⟩;exact eN (fun x l h' q=>two l h' q) (fun l h=>rfl) (lo _) h
 ·refine wpS_bind (wpS_forRange (I:=fun x c C'=>Ga st c C') ?_ ?_ ⟨0,1,rfl,rfl⟩)
  ·rintro x c C' _ _ ⟨l,o,rfl,rfl⟩;refine au (fun U=>wpS_pure (eN (fun x l h' q=>two l h' q) (fun l h=>rfl) (hm _) h)) fun z=>iC L hk hx ha (uF (Nat.add_lt_of_lt_sub' (not_le.mp z)) hb) fun b=>?_;cases b
   ·exact wpS_pure (eN (fun x l h' q=>two l h' q) (fun l h=>rfl) (hm _) h)
   ·exact wpS_pure ⟨_,_,rfl,rfl⟩
  ·rintro c C' ⟨l,o,rfl,rfl⟩;exact eN (fun x l h' q=>two l h' q) (fun l h=>rfl) (hm _) h
def dc {left:Bool} {arr:Array Keyed} {base n GK:Nat} {β:Type} {f:Option Nat->StateT SortSt Sem β} {Q:β->SortSt->Prop} (L:LtIs M A s k₀ κ a₀) (hk:kindOf st=k₀) (hx:key∈a₀.toList) (ha:∀ x∈arr.toList,x∈a₀.toList) (hb:base+n<=arr.size) (hh:GK < n) (h:∀ k,k<=n->wpS M A E s (f (some k)) Q st):wpS M A E s (sT left key arr base n GK >>= f) Q st:=wpS_bind (pP L hk hx ha hb hh h)
end
noncomputable def vM:Array Keyed->Array Keyed->StateT SortSt Sem (Array Keyed):=sortPriv% PySem.Builtin.mergeLo
noncomputable def vN:Array Keyed->Array Keyed->StateT SortSt Sem (Array Keyed):=sortPriv% PySem.Builtin.mergeHi
structure Same (st C':SortSt):Prop where
 arr:arrOf C'=arrOf st
 kind:kindOf C'=kindOf st
 failed:failedOf C'=failedOf st
 pend:pendingOf C'=pendingOf st
theorem Same.refl (st:SortSt):Same st st:=⟨rfl,rfl,rfl,rfl⟩
theorem Same.trans (x:Same a b) (y:Same b c):Same a c:=⟨y.arr.trans x.arr,y.kind.trans x.kind,y.failed.trans x.failed,y.pend.trans x.pend⟩
def JL (a b o:Array Keyed) (i j:Nat):Prop:=(o.toList++(a.toList.drop i++b.toList.drop j)).Perm (a.toList++b.toList)
section
variable {a b o:Array Keyed} {i j k:Nat} {x:Keyed}
def ur (e:a[i]?=some x):a.toList.drop i=x :: a.toList.drop (i+1):=by
 obtain ⟨h,rfl⟩:=Array.getElem?_eq_some_iff.mp e;rw [List.drop_eq_getElem_cons (by simpa using h)]; rfl
def wA (h:i<=k) (hk:k<=a.size):a.toList.drop i=(a.extract i k).toList++a.toList.drop k:=by
 rw [toList_extract,extract_eq_take_drop,show a.toList.drop k=(a.toList.drop i).drop (k - i) by rw [drop_drop,Q9 h],take_append_drop]
def ext_all:(a.extract i).toList=a.toList.drop i:=by rw [toList_extract,extract_eq_take_drop]; exact List.take_of_length_le (by rw [length_drop]; exact le_refl _)
theorem JL.swap (J:JL a b o i j):JL b a o j i:=(perm_append_comm.append_left _).trans (J.trans perm_append_comm)
theorem JL.pushA (J:JL a b o i j) (e:a[i]?=some x):JL a b (o.push x) (i+1) j:=by
 unfold JL at J ⊢;rw [ur e] at J;rw [toList_push,Qa]; exact J
theorem JL.pushB (J:JL a b o i j) (e:b[j]?=some x):JL a b (o.push x) i (j+1):=(J.swap.pushA e).swap
theorem JL.moreA (J:JL a b o i j) (h:i<=k) (hk:k<=a.size):JL a b (o++a.extract i k) k j:=by
 unfold JL at J ⊢;rw [wA h hk,Qa] at J;rw [toList_append,Qa]; exact J
theorem JL.moreB (J:JL a b o i j) (h:j<=k) (hk:k<=b.size):JL a b (o++b.extract j k) i k:=(J.swap.moreA h hk).swap
theorem JL.done (J:JL a b o i j):(o++a.extract i++b.extract j).toList.Perm (a.toList++b.toList):=by
 rw [toList_append,toList_append,ext_all,ext_all,Qa]; exact J
theorem JL.last (J:JL a b o i j):(o++b.extract j++a.extract i).toList.Perm (a.toList++b.toList):=J.swap.done.trans perm_append_comm
end
section
variable {M:Model} {A:Around} {s:Shared} {k₀:SortKind} {a₀:Array Keyed} {p:Array (Nat×Nat×Nat)} {st C':SortSt} {E:GE} {κ:KKd}
def yK (S:Same st C') (h:∀ Gx,Same st Gx->Q () Gx):wpS M A E s ((sortPriv% PySem.Builtin.setMinGallop) m) Q C':=wpS_modify (h _ (S.trans ⟨rfl,rfl,rfl,rfl⟩))
def fQ {β:Type} {f:Unit->StateT SortSt Sem β} {Q:β->SortSt->Prop} (S:Same st C') (h:∀ Gx,Same st Gx->wpS M A E s (f ()) Q Gx):wpS M A E s ((sortPriv% PySem.Builtin.setMinGallop) m >>= f) Q C':=wpS_bind (yK S h)
inductive Sq {δ:Type} (st:SortSt) (R:Array Keyed->Prop) (J:Nat->δ->Prop) (n n':Nat):ForInStep (Option (Array Keyed)×δ)->SortSt->Prop
 | dn {r:Array Keyed} {d:δ} {C':SortSt} (S:Same st C') (p:R r):Sq st R J n n' (.done (some r,d)) C'
 | st {d:δ} {C':SortSt} (S:Same st C') (p:J n' d):Sq st R J n n' (.done (none,d)) C'
 | go {d:δ} {C':SortSt} (S:Same st C') (p:J n d):Sq st R J n n' (.yield (none,d)) C'
def gJ {i j:Nat} (h:¬ (i==j)=true):i≠j:=fun e=>h (by simpa using e)
def cx {δ β:Type} {t n':Nat} {f:Nat->Option (Array Keyed)×δ->StateT SortSt Sem (ForInStep (Option (Array Keyed)×δ))} {H:Option (Array Keyed)×δ->StateT SortSt Sem β} {Q:β->SortSt->Prop} {R:Array Keyed->Prop} {d:δ} (J:Nat->δ->Prop)
  (N:Nat->Nat) (S:Same st C') (j0:J (N 0) d) (fin:∀ d,J (N t) d->J n' d)
  (step:∀ y d C',Same st C'->J (N y) d->wpS M A E s (f y (none,d)) (Sq st R J (N (y+1)) n') C') (ret:∀ r d C',Same st C'->R r->wpS M A E s (H (some r,d)) Q C')
  (go:∀ d C',Same st C'->J n' d->wpS M A E s (H (none,d)) Q C'):wpS M A E s (forIn [:t] (none,d) f >>= H) Q C':=by
 refine wpS_bind (wpS_mono (wpS_forRange (I:=fun y c C'=>Sq st R J (N y) n' (.yield c) C') (Q:=fun c C'=>Sq st R J n' n' (.done c) C') ?_ ?_ (.go S j0)) ?_)
 ·rintro y c Gw _ _ (_ | _ | ⟨S,j⟩);exact wpS_mono (step y _ Gw S j) fun r U q=>by
   rcases q with ⟨S,p⟩ | ⟨S,p⟩ | ⟨S,p⟩
   ·exact .dn S p
   ·exact .st S p
   ·exact .go S p
 ·intro c Gw G;rw [max_eq_right (zero_le _)] at G;rcases G with _ | _ | ⟨S,j⟩
  exact .st S (fin _ j)
 ·rintro c Gw (⟨S,p⟩ | ⟨S,p⟩ | _)
  ·exact ret _ _ Gw S p
  ·exact go _ Gw S p
def rG {β:Type} {f:Option Bool->StateT SortSt Sem β} {Q:β->SortSt->Prop} (L:LtIs M A s k₀ κ a₀) (hk:kindOf st=k₀) (hx:x∈a₀.toList) (hy:y∈a₀.toList) (h1:wpS M A E s (f (some true)) Q st) (h0:wpS M A E s (f (some false)) Q st):wpS M A E s (lt' x y >>= f) Q st:=wpS_bind (mX L hk hx hy fun b U=>by
 cases b
 ·exact h0
 ·exact h1)
def cE {n:Nat} {o:Array Keyed} (h:n<=o.size):n+1<=(o.push x).size:=by rw [Array.size_push]; exact succ_le_succ h
def ci {n:Nat} {o:Array Keyed} (h:n<=o.size):n<=(o.push x).size:=le_of_succ_le (cE h)
def i6 {n:Nat} {o e:Array Keyed} (h:n<=o.size):n<=(o++e).size:=by rw [Array.size_append]; exact le_add_right_of_le h
structure LoS (a b:Array Keyed) (n:Nat) (o:Array Keyed) (i m:Nat):Prop where
 j:JL a b o i m
 hi:i+1 < a.size
 hj:m < b.size
 sz:n<=o.size
def LoJ {γ:Type} (a b:Array Keyed) (n:Nat) (d:Array Keyed×Nat×Nat×γ):Prop:=LoS a b n d.1 d.2.1 d.2.2.1
theorem LoS.le {m n:Nat} (h:m<=n) (J:LoS a b n o i q):LoS a b m o i q:=⟨J.j,J.hi,J.hj,zB1 h J.sz⟩
theorem LoS.lt (J:LoS a b (a.size+b.size+1) o i q):False:=by
 have h:=J.j.length_eq;rw [zB5,length_append (as:=a.toList),zB3,zB3,zB3] at h;exact absurd J.sz (not_le.mpr (lt_succ_of_le (zB1 (Q3 _ _) (zB2 h))))
def bO {i n:Nat} (h:i<=n) (e:¬ (i==n)=true):i < n:=lt_of_le_of_ne h (gJ e)
def t9 {i n:Nat} (h:i<=n) (e:¬ (i+1==n)=true) (e':¬ (i==n)=true):i+1 < n:=bO (bO h e') e
def nU {a b:Array Keyed} {Q:Array Keyed->SortSt->Prop} (L:LtIs M A s k₀ κ a₀) (hk:kindOf st=k₀) (ha:∀ x∈a.toList,x∈a₀.toList) (hb:∀ x∈b.toList,x∈a₀.toList) (h1:1<=a.size) (h2:1<=b.size)
  (h:∀ out C',Same st C'->out.toList.Perm (a.toList++b.toList)->Q out C'):wpS M A E s (vM a b) Q st:=by
 refine ig ?_;refine (aX (a:=b) h2 fun x hx ex=>?_);have J0:JL a b #[x] 0 1:=JL.pushB (o:=#[]) (j:=0) (.refl _) ex;refine au (fun e=>wpS_pure (h _ _ (.refl _) J0.done)) fun e1=>?_;refine au (fun e=>wpS_pure (h _ _ (.refl _) J0.last)) fun e2=>?_;refine (dg ?_)
 let RR:Array Keyed->Prop:=fun r=>r.toList.Perm (a.toList++b.toList)
 refine cx (R:=RR) (LoJ a b) (fun x=>x+1) (.refl _) ⟨J0,bO h1 e2,bO h2 e1,le_refl _⟩ (fun U j=>j) ?_ (fun r d C' S p=>wpS_pure (h _ _ S p)) fun d C' S J=>J.lt.elim;intro x d Gw S1 J1;refine cx (R:=RR) (st:=st) (LoJ a b) (n':=x+1+1) (fun y=>x+1+y) S1 J1 (fun U j=>j.le (Q7 (le_add_right_of_le h1) _)) ?_ (fun r d C' S p=>wpS_pure (.dn S p)) ?_
 ·intro y d Gw S1 J1;obtain ⟨J1,hi,hj,n1⟩:=J1;refine (aX (a:=b) hj fun v hv ev=>(aX (a:=a) (lt_of_succ_lt hi) fun u hu eu=>?_));refine (rG L (S1.kind.trans hk) (hb v hv) (ha u hu) ?_ ?_)
  ·refine (aX (a:=b) hj fun v' Jp JB=>?_);have J2:=J1.pushB JB;refine au (fun e=>wpS_pure (.dn S1 J2.done)) fun e3=>?_;have KR:=bO hj e3;exact au (fun U=>wpS_pure (.st S1 ⟨J2,hi,KR,cE (Nat.le_of_add_right_le n1)⟩)) fun U=>wpS_pure (.go S1 ⟨J2,hi,KR,cE n1⟩)
  ·refine (aX (a:=a) (lt_of_succ_lt hi) fun u' Ms JC=>?_);have J2:=J1.pushA JC;refine au (fun e=>wpS_pure (.dn S1 J2.last)) fun e3=>?_;have Gp:=bO hi e3;exact au (fun U=>wpS_pure (.st S1 ⟨J2,Gp,hj,cE (Nat.le_of_add_right_le n1)⟩)) fun U=>wpS_pure (.go S1 ⟨J2,Gp,hj,cE n1⟩)
 intro d Gw S1 J1;refine ig ?_;refine cx (R:=RR) (st:=st) (LoJ a b) (n':=x+1+1) (fun y=>x+1+1) S1 J1 (fun U j=>j) ?_ (fun r d C' S p=>wpS_pure (.dn S p)) fun d C' S J=>(fQ S fun GA S2=>wpS_pure (.go S2 J));intro y d Gw S1 J1;extract_lets z1 o' z2 i' z3 j' z4 g' z5 c1' c2' j1 jp mg;have Hq:∀ g,wpS M A E s (jp () g) (Sq st RR (LoJ a b) (x+1+1) (x+1+1)) Gw:=by
  intro g;have LK:d.2.1<=a.size:=le_of_lt (lt_of_succ_lt J1.hi);refine (fQ S1 fun GA S2=>(aX (a:=b) J1.hj fun v hv ev=>(dc L (S2.kind.trans hk) (hb v hv) ha (zB2 (Q9 LK)) (sub_pos_of_lt (lt_of_succ_lt J1.hi)) fun k Hp=>?_)));dsimp (zeta:=false) only;extract_lets ac jp2 o2 i2;have H4:∀ o i,JL a b o i d.2.2.1->i+1 < a.size->x+1+1<=o.size->wpS M A E s (jp2 () o i) (Sq st RR (LoJ a b) (x+1+1) (x+1+1)) GA:=by
   intro o i Jx hi n2;refine (aX (a:=b) J1.hj fun v' Jp JB=>?_);have J2:=Jx.pushB JB;refine au (fun e=>wpS_pure (.dn S2 J2.done)) fun e3=>?_;have e3:d.2.2.1+1 < b.size:=bO J1.hj e3;refine (aX (a:=a) (lt_of_succ_lt hi) fun u hu eu=>(dc L (S2.kind.trans hk) (ha u hu) hb (zB2 (Q9 (le_of_lt e3))) (sub_pos_of_lt e3) fun m hm=>?_));dsimp (zeta:=false) only;extract_lets bc i3 jp3 o3 j3;have H3:∀ o j,JL a b o i j->j < b.size->x+1+1<=o.size->wpS M A E s (jp3 () o j) (Sq st RR (LoJ a b) (x+1+1) (x+1+1)) GA:=by
    intro o j Jy hj n3;refine (aX (a:=a) (lt_of_succ_lt hi) fun u' Ms JC=>?_);have J3:=Jy.pushA JC;refine au (fun e=>wpS_pure (.dn S2 J3.last)) fun e4=>?_;have Gp:=bO hi e4;exact au (fun U=>wpS_pure (.st S2 ⟨J3,Gp,hj,ci n3⟩)) fun U=>wpS_pure (.go S2 ⟨J3,Gp,hj,ci n3⟩)
   refine au (fun U=>?_) fun q=>H3 _ _ J2 e3 (ci n2);have hmb:=Nat.add_le_of_le_sub' (le_of_lt e3) hm;have J4:=J2.moreB (k:=d.2.2.1+1+m) (Q3 _ _) hmb;exact au (fun e=>wpS_pure (.dn S2 J4.done)) fun e4=>H3 _ _ J4 (bO hmb e4) (i6 (ci n2))
  refine au (fun U=>?_) fun q=>H4 _ _ J1.j J1.hi J1.sz;have JZ:=Nat.add_le_of_le_sub' LK Hp;have J5:=J1.j.moreA (k:=d.2.1+k) (Q3 _ _) JZ;exact au (fun e=>wpS_pure (.dn S2 J5.last)) fun e4=>au (fun e=>wpS_pure (.dn S2 J5.done)) fun e5=>H4 _ _ J5 (t9 JZ e4 e5) (i6 J1.sz)
 exact au (fun U=>Hq _) fun U=>Hq _
end
def JH (a b o:Array Keyed) (i j:Nat):Prop:=((a.toList.take i++b.toList.take j)++o.reverse.toList).Perm (a.toList++b.toList)
section
variable {a b o:Array Keyed} {i j k:Nat} {x:Keyed}
def tG (h:1<=i) (e:a[i - 1]?=some x):a.toList.take i=a.toList.take (i - 1)++[x]:=by
 obtain ⟨m,rfl⟩:∃ m,i=m+1:=⟨i - 1,(sub_add_cancel h).symm⟩;rw [take_add_one,Q5];rw [Nat.add_sub_cancel] at e ⊢;rw [e]; rfl
def u1 (h:k<=i):a.toList.take i=a.toList.take k++(a.extract k i).toList:=by
 rw [toList_extract,extract_eq_take_drop,<- take_add,Q9 h]
def ext_pre:(a.extract 0 i).toList=a.toList.take i:=by rw [toList_extract,extract_eq_take_drop]; rfl
theorem JH.swap (J:JH a b o i j):JH b a o j i:=(perm_append_comm.append_right _).trans (J.trans perm_append_comm)
theorem JH.pushB (J:JH a b o i j) (h:1<=j) (e:b[j - 1]?=some x):JH a b (o.push x) i (j - 1):=by
 unfold JH at J ⊢;rw [tG h e,<- Qa,Qa] at J;rw [toList_reverse] at J ⊢;rw [toList_push,List.reverse_append]; exact J
theorem JH.pushA (J:JH a b o i j) (h:1<=i) (e:a[i - 1]?=some x):JH a b (o.push x) (i - 1) j:=(J.swap.pushB h e).swap
theorem JH.moreB (J:JH a b o i j) (h:k<=j):JH a b (o++(b.extract k j).reverse) i k:=by
 unfold JH at J ⊢;rw [u1 h,<- Qa,Qa] at J;rw [toList_reverse] at J ⊢;rw [toList_append,List.reverse_append,toList_reverse,List.reverse_reverse]; exact J
theorem JH.moreA (J:JH a b o i j) (h:k<=i):JH a b (o++(a.extract k i).reverse) k j:=(J.swap.moreB h).swap
theorem JH.done (J:JH a b o i j):(a.extract 0 i++b.extract 0 j++o.reverse).toList.Perm (a.toList++b.toList):=by
 rw [toList_append,toList_append,ext_pre,ext_pre]; exact J
theorem JH.first (J:JH a b o i j):(b.extract 0 j++a.extract 0 i++o.reverse).toList.Perm (a.toList++b.toList):=J.swap.done.trans perm_append_comm
def fJ (e:¬ (i==0)=true):1<=i:=Nat.pos_of_ne_zero (gJ e)
def m6 (h:1<=i) (e:¬ (i==1)=true):2<=i:=lt_of_le_of_ne h (gJ e).symm
end
structure HiS (a b:Array Keyed) (n i m:Nat) (o:Array Keyed):Prop where
 j:JH a b o i m
 hi:1<=i
 hj:2<=m
 ia:i<=a.size
 jb:m<=b.size
 sz:n<=o.size
def HiJ {γ:Type} (a b:Array Keyed) (n:Nat) (d:Nat×Nat×Array Keyed×γ):Prop:=HiS a b n d.1 d.2.1 d.2.2.1
theorem HiS.le {m n:Nat} (h:m<=n) (J:HiS a b n i q o):HiS a b m i q o:=⟨J.j,J.hi,J.hj,J.ia,J.jb,zB1 h J.sz⟩
theorem HiS.lt (J:HiS a b (a.size+b.size+1) i q o):False:=by
 have h:=J.j.length_eq;rw [zB5,length_append (as:=a.toList),zB3,zB3,zB3,Array.size_reverse] at h;exact absurd J.sz (not_le.mpr (lt_succ_of_le (zB1 (le_add_left _ _) (zB2 h))))
section
variable {M:Model} {A:Around} {s:Shared} {k₀:SortKind} {a₀:Array Keyed} {p:Array (Nat×Nat×Nat)} {st C':SortSt} {E:GE} {κ:KKd}
def nV {a b:Array Keyed} {Q:Array Keyed->SortSt->Prop} (L:LtIs M A s k₀ κ a₀) (hk:kindOf st=k₀) (ha:∀ x∈a.toList,x∈a₀.toList) (hb:∀ x∈b.toList,x∈a₀.toList) (h1:1<=a.size) (h2:1<=b.size)
  (h:∀ out C',Same st C'->out.toList.Perm (a.toList++b.toList)->Q out C'):wpS M A E s (vN a b) Q st:=by
 refine ig ?_;refine (aX (a:=a) (i:=a.size - 1) (sub_one_lt_of_lt h1) fun x hx ex=>?_);have J0:JH a b #[x] (a.size - 1) b.size:=JH.pushA (o:=#[]) (i:=a.size) (by
  refine (?_:((a.toList.take a.size++b.toList.take b.size)++[]).Perm _);rw [<- zB3,take_length,<- zB3,take_length,append_nil]) h1 ex
 refine au (fun e=>wpS_pure (h _ _ (.refl _) J0.done)) fun e1=>?_;refine au (fun e=>wpS_pure (h _ _ (.refl _) J0.first)) fun e2=>?_;refine (dg ?_)
 let RR:Array Keyed->Prop:=fun r=>r.toList.Perm (a.toList++b.toList)
 refine cx (R:=RR) (HiJ a b) (fun x=>x+1) (.refl _) ⟨J0,fJ e1,m6 h2 e2,sub_le _ _,le_refl _,le_refl _⟩ (fun U j=>j) ?_ (fun r d C' S p=>wpS_pure (h _ _ S p)) fun d C' S J=>J.lt.elim;intro x d Gw S1 J1;refine cx (R:=RR) (st:=st) (HiJ a b) (n':=x+1+1) (fun y=>x+1+y) S1 J1 (fun U j=>j.le (Q7 (le_add_right_of_le h1) _)) ?_ (fun r d C' S p=>wpS_pure (.dn S p)) ?_
 ·intro y d Gw S1 J1;obtain ⟨J1,hi,hj,ia,jb,n1⟩:=J1;have K2:d.2.1 - 1 < b.size:=Q1 (sub_one_lt_of_lt hj) jb;have GN:d.1 - 1 < a.size:=Q1 (sub_one_lt_of_lt hi) ia;refine (aX (a:=b) K2 fun v hv ev=>(aX (a:=a) GN fun u hu eu=>?_));refine (rG L (S1.kind.trans hk) (hb v hv) (ha u hu) ?_ ?_)
  ·refine (aX (a:=a) GN fun u' Ms JC=>?_);have J2:=J1.pushA hi JC;refine au (fun e=>wpS_pure (.dn S1 J2.done)) fun e3=>?_;have Gp:=fJ e3;have Kq:=zB1 (sub_le _ 1) ia;exact au (fun U=>wpS_pure (.st S1 ⟨J2,Gp,hj,Kq,jb,cE (Nat.le_of_add_right_le n1)⟩)) fun U=>wpS_pure (.go S1 ⟨J2,Gp,hj,Kq,jb,cE n1⟩)
  ·refine (aX (a:=b) K2 fun v' Jp JB=>?_);have J2:=J1.pushB (le_of_succ_le hj) JB;refine au (fun e=>wpS_pure (.dn S1 J2.first)) fun e3=>?_;have KR:=m6 (le_sub_one_of_lt hj) e3;have JU:=zB1 (sub_le _ 1) jb;exact au (fun U=>wpS_pure (.st S1 ⟨J2,hi,KR,ia,JU,cE (Nat.le_of_add_right_le n1)⟩)) fun U=>wpS_pure (.go S1 ⟨J2,hi,KR,ia,JU,cE n1⟩)
 intro d Gw S1 J1;refine ig ?_;refine cx (R:=RR) (st:=st) (HiJ a b) (n':=x+1+1) (fun y=>x+1+1) S1 J1 (fun U j=>j) ?_ (fun r d C' S p=>wpS_pure (.dn S p)) fun d C' S J=>(fQ S fun GA S2=>wpS_pure (.go S2 J));intro y d Gw S1 J1;extract_lets z1 i' z2 j' z3 o' z4 g' z5 c1' c2' j1 jp mg;have Hq:∀ g,wpS M A E s (jp () g) (Sq st RR (HiJ a b) (x+1+1) (x+1+1)) Gw:=by
  intro g;have K2:d.2.1 - 1 < b.size:=Q1 (sub_one_lt_of_lt J1.hj) J1.jb;have hj1:1<=d.2.1:=le_of_succ_le J1.hj;refine (fQ S1 fun GA S2=>(aX (a:=b) K2 fun v hv ev=>(dc L (S2.kind.trans hk) (hb v hv) ha (zB1 (zB2 (zero_add _)) J1.ia) (sub_one_lt_of_lt J1.hi) fun k Hp=>?_)));dsimp (zeta:=false) only;extract_lets kk ac jp2 o2 i2;have H4:∀ i o,JH a b o i d.2.1->1<=i->i<=a.size->x+1+1<=o.size->wpS M A E s (jp2 () i o) (Sq st RR (HiJ a b) (x+1+1) (x+1+1)) GA:=by
   intro i o Jx hi ia n2;have GN:i - 1 < a.size:=Q1 (sub_one_lt_of_lt hi) ia;refine (aX (a:=b) K2 fun v' Jp JB=>?_);have J2:=Jx.pushB hj1 JB;refine au (fun e=>wpS_pure (.dn S2 J2.first)) fun e3=>?_;have e3:2<=d.2.1 - 1:=m6 (le_sub_one_of_lt J1.hj) e3;have JU:d.2.1 - 1<=b.size:=zB1 (sub_le _ 1) J1.jb;refine (aX (a:=a) GN fun u hu eu=>(dc L (S2.kind.trans hk) (ha u hu) hb (zB1 (zB2 (zero_add _)) JU) (sub_one_lt_of_lt e3) fun m hm=>?_));dsimp (zeta:=false) only;extract_lets kk2 bc i3 jp3 o3 j3;have H3:∀ j o,JH a b o i j->2<=j->j<=b.size->x+1+1<=o.size->wpS M A E s (jp3 () j o) (Sq st RR (HiJ a b) (x+1+1) (x+1+1)) GA:=by
    intro j o Jy hj jb n3;refine (aX (a:=a) GN fun u' Ms JC=>?_);have J3:=Jy.pushA hi JC;refine au (fun e=>wpS_pure (.dn S2 J3.done)) fun e4=>?_;have Gp:=fJ e4;have Kq:=zB1 (sub_le _ 1) ia;exact au (fun U=>wpS_pure (.st S2 ⟨J3,Gp,hj,Kq,jb,ci n3⟩)) fun U=>wpS_pure (.go S2 ⟨J3,Gp,hj,Kq,jb,ci n3⟩)
   refine au (fun U=>?_) fun q=>H3 _ _ J2 e3 JU (ci n2);have J4:=J2.moreB hm;exact au (fun e=>wpS_pure (.dn S2 J4.first)) fun e4=>au (fun e=>wpS_pure (.dn S2 J4.done)) fun e5=>H3 _ _ J4 (m6 (fJ e5) e4) (zB1 hm JU) (i6 (ci n2))
  refine au (fun U=>?_) fun q=>H4 _ _ J1.j J1.hi J1.ia J1.sz;have J5:=J1.j.moreA Hp;exact au (fun e=>wpS_pure (.dn S2 J5.done)) fun e4=>H4 _ _ J5 (fJ e4) (zB1 Hp J1.ia) (i6 J1.sz)
 exact au (fun U=>Hq _) fun U=>Hq _
end
noncomputable def jx:List (Nat×Nat×Nat)->Nat->Nat->Prop
 | [],a,b=>a=b
 | x :: r,a,b=>x.1=a/\1<=x.2.1/\jx r (a+x.2.1) b
theorem rW:∀ {l:List (Nat×Nat×Nat)} {a b:Nat},jx l a b->a<=b
 | [],_,_,h=>zB2 h
 | _ :: _,_,_,h=>zB1 (Q3 _ _) (rW h.2.2)
theorem kK {n w:Nat} (hn:1<=n):∀ {l:List (Nat×Nat×Nat)} {a b:Nat},jx l a b->jx (l++[(b,n,w)]) a (b+n)
 | [],_,_,h=>⟨h.symm,hn,NO (· + n) h⟩
 | _ :: _,_,_,h=>⟨h.1,h.2.1,kK hn h.2.2⟩
theorem rX:∀ {l:List (Nat×Nat×Nat)} {i a b:Nat} {x y:Nat×Nat×Nat},jx l a b->l[i]?=some x->l[i+1]?=some y->(y.1=x.1+x.2.1/\1<=x.2.1/\1<=y.2.1/\y.1+y.2.1<=b)/\∀ w,jx ((l.set i (x.1,x.2.1+y.2.1,w)).eraseIdx (i+1)) a b
 | [],_,_,_,_,_,_,e,_=>nomatch e
 | z :: l,0,a,b,x,y,h,e1,e2=>by
  obtain rfl:=LE e1;cases l with
  | nil=>exact nomatch e2
  | cons u l=>
   obtain rfl:=LE (e2:some u=some y);obtain ⟨h1,h2,h3,h4,h5⟩:=h;exact ⟨⟨by rw [h3,h1],h2,h4,by rw [h3]; exact rW h5⟩,fun w=>⟨h1,le_add_right_of_le h2,by rw [<- add_assoc]; exact h5⟩⟩
 | z :: l,i+1,a,b,x,y,h,e1,e2=>by
  have q:=rX (l:=l) (i:=i) h.2.2 e1 e2;exact ⟨q.1,fun w=>⟨h.1,h.2.1,q.2 w⟩⟩
theorem oI {f:Nat×Nat×Nat->Nat×Nat×Nat} (hf:∀ x,(f x).1=x.1/\(f x).2.1=x.2.1):∀ {l:List (Nat×Nat×Nat)} {i a b:Nat},jx l a b->jx (l.modify i f) a b
 | [],i,_,_,h=>by cases i <;> exact h
 | x :: l,0,_,_,h=>⟨(hf x).1.trans h.1,(hf x).2.symm▸h.2.1,(hf x).2.symm▸h.2.2⟩
 | x :: l,i+1,_,_,h=>⟨h.1,h.2.1,oI hf h.2.2⟩
section
variable {M:Model} {A:Around} {s:Shared} {k₀:SortKind} {a₀:Array Keyed} {p:Array (Nat×Nat×Nat)} {st C':SortSt} {E:GE} {κ:KKd}
def yJ {σ:Type} {x y:σ} {Q:PUnit->σ->Prop} (h:Q ⟨⟩ x):wpS M A E s (set x:StateT σ Sem PUnit) Q y:=by
 unfold wpS; rw [StateT.run_set]; exact zC2 ⟨rfl,h⟩
def uT {β:Type} {f:PUnit->StateT SortSt Sem β} {Q:β->SortSt->Prop} {x:SortSt} (h:wpS M A E s (f ⟨⟩) Q x):wpS M A E s (set x >>= f) Q st:=wpS_bind (yJ h)
theorem tw (sa:Nat):∀ (m:List Keyed) (k:Nat) (a:Array Keyed),sa+k+m.length<=a.size->((m.zipIdx k).foldl (fun a (p,j)=>a.setIfInBounds (sa+j) p) a).toList=a.toList.take (sa+k)++m++a.toList.drop (sa+k+m.length)
 | [],k,a,_=>by simp
 | x :: m,k,a,h=>by
  rw [zB4] at h;rw [zipIdx_cons,foldl_cons];refine (?_:(foldl _ (a.setIfInBounds (sa+k) x) _).toList=_);rw [tw sa m (k+1) _ (by rw [Array.size_setIfInBounds]; exact zB1 (zB2 (add_right_comm (sa+k) 1 m.length)) h),Array.toList_setIfInBounds,zB4,<- add_assoc,take_add_one,List.take_set_of_le (le_refl _),List.getElem?_set_self (by rw [zB3]; exact Q1 (Nat.lt_add_of_pos_right (succ_pos _)) h),List.drop_set_of_lt (Q1 (lt_succ_self (sa+k)) (Q3 _ _)),Qa,Qa,Qa,show sa+k+1+m.length=sa+k+(m.length+1) from add_right_comm (sa+k) 1 m.length];rfl
def uw {a:Array Keyed} {i j k:Nat} {m:Array Keyed} (h1:i<=j) (h2:j<=k) (h3:k<=a.size) (h:m.toList.Perm ((a.extract i j).toList++(a.extract j k).toList)):(m.toList.zipIdx.foldl (fun a (p,j)=>a.setIfInBounds (i+j) p) a).Perm a:=by
 have e:(a.extract i j).toList++(a.extract j k).toList=(a.toList.drop i).take (k - i):=by
  rw [toList_extract,toList_extract,show k - i=(j - i)+(k - j) from ((add_comm _ _).trans (Nat.sub_add_sub_cancel h2 h1)).symm,take_add,drop_drop,Q9 h1]
 rw [e] at h;have l:=h.length_eq;rw [length_take,length_drop,length_toList (xs:=a),min_eq_left (Nat.sub_le_sub_right h3 i)] at l;rw [perm_iff_toList_perm,tw i m.toList 0 a (by rw [add_zero,l,Q9 (zB1 h1 h2)]; exact h3),add_zero];refine ((h.append_left _).append_right _).trans (.of_eq ?_);rw [Qa,show a.toList.drop (i+m.toList.length)=(a.toList.drop i).drop (k - i) by rw [drop_drop,l],take_append_drop,take_append_drop]
def nZ {a:Array Keyed} {i j:Nat} (h:x∈(a.extract i j).toList):x∈a.toList:=by
 rw [toList_extract] at h;exact List.mem_of_mem_drop (mem_of_mem_take h)
theorem SI.out (I:SI k₀ a₀ p st):∃ xs g,st=SortSt.mk' k₀ xs p g none/\xs.Perm a₀:=by
 obtain ⟨hp,hk,hf,hd⟩:=I;cases st
 subst hk; subst hf; subst hd;exact ⟨_,_,rfl,hp⟩
noncomputable def wb (st:SortSt) (i:Nat) (out:Array Keyed):SortSt:=setArr st (out.toList.zipIdx.foldl (fun a (p,j)=>a.setIfInBounds (i+j) p) (arrOf st))
def gW {i lo:Nat} {Q:Bool->SortSt->Prop} (L:LtIs M A s k₀ κ a₀) (I:SI k₀ a₀ p st) (S:jx p.toList 0 lo) (HP:lo<=a₀.size) (hi:i+1 < p.size)
  (h:∀ p' C',SI k₀ a₀ p' C'->jx p'.toList 0 lo->Q true C'):wpS M A E s (mergeAt' i) Q st:=by
 obtain ⟨xs,g,rfl,hp⟩:=I.out;have mem:∀ x∈xs.toList,x∈a₀.toList:=fun x hx=>(perm_iff_toList_perm.mp hp).mem_iff.mp hx;obtain ⟨⟨sa,n0,p0⟩,e1⟩:∃ x,p[i]?=some x:=⟨_,Array.getElem?_eq_getElem (lt_of_succ_lt hi)⟩;obtain ⟨⟨sb,n1,p1⟩,e2⟩:∃ x,p[i+1]?=some x:=⟨_,Array.getElem?_eq_getElem hi⟩;obtain ⟨⟨HD,h0,h1,hb⟩,S'⟩:=rX S (Q5▸e1) (Q5▸e2);have HD:sb=sa+n0:=HD;have hb:sb+n1<=xs.size:=zB1 hb (hp.size_eq▸HP);subst HD;refine (dg ?_);dsimp (zeta:=false) only [SortSt.mk'];rw [e1,e2];refine (uT ?_);generalize hP:Array.eraseIdxIfInBounds _ _=P;have SP:jx P.toList 0 lo:=by
  rw [<- hP,Array.toList_eraseIdxIfInBounds,Array.toList_setIfInBounds]; exact S' p0
 have I0:SI k₀ a₀ P (SortSt.mk' k₀ xs P g none):=⟨hp,rfl,rfl,rfl⟩;have HD:sa+n0 < xs.size:=Q1 (Nat.lt_add_of_pos_right h1) hb;refine (aX (a:=xs) (i:=sa+n0) HD fun v hv ev=>(dc L rfl (mem v hv) mem (le_of_lt HD) h0 fun k hk=>?_));have hk:k<=n0:=hk;refine au (fun U=>wpS_pure (h _ _ I0 SP)) fun e1=>?_;have e1:1<=n0 - k:=fJ e1;have ek:sa+k+(n0 - k)=sa+n0:=by rw [add_assoc,Q9 hk]
 refine (aX (a:=xs) (i:=sa+k+(n0 - k) - 1) (by rw [ek]; exact Q0 (sub_le _ _) HD) fun u hu eu=>(dc L rfl (mem u hu) mem hb (sub_one_lt_of_lt h1) fun m hm=>?_));refine au (fun U=>wpS_pure (h _ _ I0 SP)) fun e2=>?_;have Gz:sa+n0+m<=xs.size:=zB1 (Q7 hm _) hb;have LB:1<=(xs.extract (sa+k) (sa+n0)).size:=by rw [Array.size_extract,min_eq_left (le_of_lt HD),Nat.add_sub_add_left]; exact e1
 have Ky:1<=(xs.extract (sa+n0) (sa+n0+m)).size:=by rw [Array.size_extract,min_eq_left Gz,add_sub_cancel_left]; exact fJ e2
 extract_lets X Y jp;have Hq:∀ (out:Array Keyed) (C':SortSt),Same (SortSt.mk' k₀ xs P g none) C'->out.toList.Perm ((xs.extract (sa+k) (sa+n0)).toList++(xs.extract (sa+n0) (sa+n0+m)).toList)->wpS M A E s (jp out) Q C':=fun out C' S Pm=>by
  have I:SI k₀ a₀ P (wb C' (sa+k) out):=⟨by unfold wb; rw [S.arr]; exact (uw (Q7 hk sa) (Q3 _ _) Gz Pm).trans hp,S.kind,S.failed,S.pend⟩;refine (lO (dg (wpS_pure ?_)));refine (?_:Q (failedOf (wb C' (sa+k) out)).isNone (wb C' (sa+k) out));rw [I.failed];exact h _ _ I SP
 have mx:∀ {i j:Nat},∀ x∈(xs.extract i j).toList,x∈a₀.toList:=fun x hx=>mem x (nZ hx);exact au (fun U=>wpS_bind (nU L rfl mx mx LB Ky Hq)) fun U=>wpS_bind (nV L rfl mx mx LB Ky Hq)
structure RS (κ:KKd) (k₀:SortKind) (a₀:Array Keyed) (lo:Nat) (p:Array (Nat×Nat×Nat)) (st:SortSt):Prop where
 i:SI k₀ a₀ p st
 s:jx p.toList 0 lo
 f:a₀.size < 64->p=#[]/\lo=0\/p.size<=1/\lo=a₀.size/\Srt (KK κ (arrOf st)) 0 a₀.size
inductive R1 (κ:KKd) (k₀:SortKind) (a₀:Array Keyed) (x:Nat) (c:Option Unit×Nat) (st:SortSt):Prop
 | mk (lo:Nat) (p:Array (Nat×Nat×Nat)) (e:c=(none,lo)) (r:RS κ k₀ a₀ lo p st) (h:lo<=a₀.size) (hx:x<=lo):R1 κ k₀ a₀ x c st
inductive R2 (κ:KKd) (k₀:SortKind) (a₀:Array Keyed) (lo:Nat) (c:Option Unit×Unit) (st:SortSt):Prop
 | mk (p:Array (Nat×Nat×Nat)) (e:c=(none,())) (r:RS κ k₀ a₀ lo p st):R2 κ k₀ a₀ lo c st
inductive R3 (k₀:SortKind) (a₀:Array Keyed) (lo:Nat) (c:Option Unit×Unit) (st:SortSt):Prop
 | mk (p:Array (Nat×Nat×Nat)) (e:c=(none,())) (i:SI k₀ a₀ p st) (s:jx p.toList 0 lo):R3 k₀ a₀ lo c st
noncomputable def P1 (κ:KKd) (k₀:SortKind) (a₀:Array Keyed) (x:Nat):ForInStep (Option Unit×Nat)->SortSt->Prop
 | .done c',C'=>R1 κ k₀ a₀ a₀.size c' C'
 | .yield c',C'=>R1 κ k₀ a₀ (x+1) c' C'
def EU (h:1 < n):n - 2+1 < n:=Q0 (zB2 (sub_add_cancel (le_sub_one_of_lt h))) (sub_one_lt_of_lt h)
def qr (h2:2<=n) (h:n < 64):minRun' n n 0=n:=by
 obtain ⟨f,rfl⟩:∃ f,n=f+2:=⟨n - 2,(sub_add_cancel h2).symm⟩;rw [minRun'_succ,NP h]
theorem RS.more {lo:Nat} (r:RS κ k₀ a₀ lo p st) (h:1 < p.size):¬ a₀.size < 64:=fun q=>(r.f q).elim (fun e=>absurd h (by rw [e.1]; decide)) fun e=>absurd h (not_lt.mpr e.1)
theorem RS.zero {lo:Nat} (r:RS κ k₀ a₀ lo p st) (h:¬ lo >= a₀.size) (q:a₀.size < 64):p=#[]/\lo=0:=(r.f q).elim id fun e=>absurd (zB2 e.2.1.symm) h
def wpS_sortRuns {Q:Unit->SortSt->Prop} (L:LtIs M A s k₀ κ a₀) (I:SI k₀ a₀ #[] st) (h2:2<=a₀.size) (h:∀ C',(arrOf C').Perm a₀->failedOf C'=none->(a₀.size < 64->SortedToK κ (arrOf C') a₀.size)->Q () C'):wpS M A E s sortRuns' Q st:=by
 refine (dg ?_);extract_lets size mr lo;have hs:size=a₀.size:=I.size;have hm:size < 64->mr=size:=qr (hs▸h2)
 clear_value mr size
 subst hs;refine wpS_bind (wpS_mono (wpS_forRange (I:=R1 κ k₀ a₀) (Q:=R1 κ k₀ a₀ a₀.size) ?_ ((by rintro c C' ⟨lo,p,e,r,h,hx⟩; exact ⟨lo,p,e,r,h,zB1 (Nat.le_max_right _ _) hx⟩)) ⟨0,#[],rfl,⟨I,rfl,fun U=>.inl ⟨rfl,rfl⟩⟩,zero_le _,zero_le _⟩) ?_)
 ·rintro x c C' _ hx ⟨lo,p,rfl,RR,HP,hxl⟩;refine au (fun hl=>wpS_pure ⟨lo,p,rfl,RR,HP,hl⟩) fun hl=>?_;have zz:=RR.zero hl;have hl:¬ lo >= a₀.size:=hl;refine wpS_bind (lC L (zB2 (Q9 HP)) (sub_pos_of_lt (not_le.mp hl)) RR.i fun m Gw I1 hm1 LH G8 U=>?_);dsimp (zeta:=false) only;extract_lets n jp force n';have Hq:∀ n Gw,SI k₀ a₀ p Gw->Srt (KK κ (arrOf Gw)) lo (lo+n)->1<=n->n<=a₀.size - lo->(a₀.size < 64->lo+n=a₀.size)->wpS M A E s (jp () n) (P1 κ k₀ a₀ x) Gw:=by
   intro n Gw I1 G8 JX hn3 hf;obtain ⟨xs,g,rfl,hp⟩:=I1.out;refine (dg ?_);extract_lets l1 jq;have hq:∀ (u:Unit) p' GA,SI k₀ a₀ p' GA->jx p'.toList 0 lo->(a₀.size < 64->p'=#[]/\Srt (KK κ (arrOf GA)) 0 a₀.size)->wpS M A E s (jq u) (P1 κ k₀ a₀ x) GA:=by
    intro u p' GA I2 S2 f2;obtain ⟨xs,g,rfl,hp⟩:=I2.out;exact lO (wpS_pure ⟨lo+n,_,rfl,⟨⟨hp,rfl,rfl,rfl⟩,by rw [toList_push]; exact kK JX S2,fun q=>.inr ⟨by rw [(f2 q).1]; exact le_refl 1,hf q,(f2 q).2⟩⟩,zB1 (Q7 hn3 lo) (zB2 (Q9 HP)),add_le_add hxl JX⟩)
   dsimp (zeta:=false) only [SortSt.mk'];cases hb:p.back? with
   | none=>exact hq () p _ ⟨hp,rfl,rfl,rfl⟩ RR.s fun q=>⟨(zz q).1,by have z:=G8; rw [hf q,(zz q).2] at z; exact z⟩
   | some z=>
    obtain ⟨s1,n1,w1⟩:=z;have no:¬ a₀.size < 64:=fun q=>by rw [(zz q).1] at hb; exact nN hb.symm
    dsimp (zeta:=false) only;extract_lets pw;refine wpS_bind (wpS_mono (wpS_forRange (I:=fun U=>R3 k₀ a₀ lo) (Q:=R3 k₀ a₀ lo) ?_ (fun U U h=>h) ⟨p,rfl,⟨hp,rfl,rfl,rfl⟩,RR.s⟩) ?_)
    ·rintro y c GA _ _ ⟨p',rfl,I2,S2⟩;obtain ⟨xs,g,rfl,hp⟩:=I2.out;refine (dg ?_);dsimp (zeta:=false) only [SortSt.mk'];extract_lets q;by_cases h1:q.size > 1
     ·rw [NP h1];cases e:q[q.size - 2]? with
      | none=>exact wpS_pure ⟨p',rfl,⟨hp,rfl,rfl,rfl⟩,S2⟩
      | some z=>
       obtain ⟨z1,z2,older⟩:=z;refine au (fun U=>wpS_pure ⟨p',rfl,⟨hp,rfl,rfl,rfl⟩,S2⟩) fun U=>wpS_bind (gW L (⟨hp,rfl,rfl,rfl⟩:SI k₀ a₀ p' _) S2 HP (EU h1) fun p3 Lv I3 S3=>wpS_pure ⟨p3,rfl,I3,S3⟩)
     ·rw [NQ h1];exact wpS_pure ⟨p',rfl,⟨hp,rfl,rfl,rfl⟩,S2⟩
    ·rintro c GA ⟨p',rfl,I2,S2⟩;obtain ⟨xs,g,rfl,hp⟩:=I2.out;refine (lO ?_);exact hq () _ _ ⟨hp,rfl,rfl,rfl⟩ (by rw [Array.toList_modify]; exact oI (f:=fun x=>(x.1,x.2.1,pw)) (fun U=>⟨rfl,rfl⟩) S2) fun q=>absurd q no
  refine wpS_mono (au (fun q=>?_) fun q=>Hq n Gw I1 G8 hm1 LH fun z=>?_) fun r U q=>by cases r <;> exact q
  ·refine ig ?_;refine wpS_bind (iy L (zB1 (Q7 (min_le_left _ _) _) (zB2 (Q9 HP))) hm1 (le_min.mpr ⟨LH,le_of_lt q⟩) I1 G8 fun GA I2 Ho U=>?_);exact Hq _ GA I2 Ho (le_min.mpr ⟨sub_pos_of_lt (not_le.mp hl),Q0 (zero_le _) q⟩) (min_le_left _ _) fun z=>by
    refine (?_:lo+min (a₀.size - lo) mr=a₀.size);rw [(zz z).2,hm z];exact (zero_add _).trans (Nat.min_self _)
  ·have q:¬ m < mr:=q;rw [hm z] at q;rw [(zz z).2] at LH ⊢;exact (zero_add _).trans (le_antisymm LH (not_lt.mp q))
 ·rintro c C' ⟨lo,p,rfl,RR,HP,hxl⟩;refine wpS_bind (wpS_mono (wpS_forRange (I:=fun U=>R2 κ k₀ a₀ lo) (Q:=R2 κ k₀ a₀ lo) ?_ (fun U U h=>h) ⟨p,rfl,RR⟩) ?_)
  ·rintro y c GA _ _ ⟨p',rfl,RR⟩;obtain ⟨xs,g,rfl,hp⟩:=RR.i.out;refine (dg ?_);dsimp (zeta:=false) only [SortSt.mk'];extract_lets q i before i2;refine au (fun U=>wpS_pure ⟨p',rfl,RR⟩) fun z=>?_;have hi:i2+1 < p'.size:=by
    have:i2<=i:=by unfold i2; split; exact sub_le _ _; exact le_refl _
    exact Q0 (succ_le_succ this) (EU (not_le.mp z))
   exact wpS_bind (gW L RR.i RR.s HP hi fun p3 Lv I3 S3=>wpS_pure ⟨p3,rfl,⟨I3,S3,fun w=>absurd w (RR.more (not_le.mp z))⟩⟩)
  ·rintro c GA ⟨p',rfl,RR⟩;refine wpS_pure (h _ RR.i.perm RR.i.failed fun q i j Go hj=>?_);rcases RR.f q with e | e
   ·exact absurd (Q1 hj hxl) (by rw [e.2]; exact not_lt_zero _)
   ·exact e.2.2 i j (zero_le _) Go hj
end
end Mine.Zs
end
noncomputable section
namespace Mine
open PySem PySem.Calls PyProof.Rows PySem.W
def y2:typeLookup (.type "set") "__len__"=pure (some (.builtin "set.__len__")):=by rw [typeLookup_type,builtinLookup_eq_fast]; kernel_rfl
section
variable {prog:Program} {w:World} {A:Around} {E:GE} {s:Shared} {S:Addr} {es:Array (Int×Value)} {L:Bool}
def wc (hT:s.TypeIs (.ref S) "set") (h:Q false s):GM prog w A (Builtin.List.listLengthHint (.ref S)) Q E s:=by
 unfold Builtin.List.listLengthHint;refine zC1 (wpAny_specialOf hT y2 ?_)
 wp_delta
 refine zC1 (wpAny_isInstance hT sub_set_self ?_);refine (?_:wpAny _ A (typeOf (Value.ref S) >>= _) _ _ _);exact zC1 (wpAny_typeOf hT (wpAny_pure h))
def ot (hh:A.handled=none) (hL:L = !w.params.followText "set-order") (T:TS s.heap S es L)
  (h:∀ (out:List Value) h' d tk,out.Perm (es.toList.map (·.2))->ao s.heap h'->Q out { s with heap:=h',drawn:=d,toks:=tk }):GM prog w A (collect (.ref S)) Q E s:=by
 have hn:es.size<=sizeLine:=by
  obtain ⟨o,ep,t,ho,Ha,hd,T,hr,hl⟩:=T;refine zB1 (?_:es.size<=8191) (by decide);exact zB1 (le_of_lt (lt_of_mul_lt_mul_right (Q0 (mul_le_mul_left es.size (by decide:3<=5)) hr))) (by rcases T.msk with q | q | q | q | q | q <;> rw [q] <;> decide)
 have T0:=T;obtain ⟨o,ep,t,ho,Ha,hd,_⟩:=T;have hT:∀ s':Shared,s'.heap.get? S=some o->s'.TypeIs (.ref S) "set":=fun s' e=>⟨o,e,Ha.1⟩;have K6:s.heap.objs.size≠S:=(aY ho).symm;unfold collect;refine zC1 (wpAny_runValue (codeAny_builtin PySem.F.entry_proto_collect ?_));rw [under_plainId PySem.F.plain_proto_collect _];refine (?_:wpAny _ A.in1 (newList [] >>= fun l=>again (.builtin "list.__iadd__" ⟨[l,.ref S],[]⟩)) _ _ s);refine zC1 (wpAny_newObj_type ?_);refine zC2 ⟨plainId_quiet PySem.F.plain_list_iadd _,codeAny_builtin PySem.F.entry_list_iadd ?_⟩;rw [under_plainId PySem.F.plain_list_iadd _];refine (?_:wpAny _ A.in1 (Builtin.List.listExtendWith (.ref s.heap.objs.size) (.ref S) (.ref s.heap.objs.size)) _ _ _);have k1:=am s.heap { cls:=.type "list",data:=.seq ([]:List Value).toArray };refine fw (R:=wants _ E) (C:=fun out=>out.Perm (es.toList.map (·.2))) (s:={ s with heap:=s.heap.push { cls:=.type "list",data:=.seq ([]:List Value).toArray } }) hh (Q2 _ rfl) K6 (.inl rfl) (hT _ (k1 _ _ ho)) (fun s' Q E k hq=>wc (hT _ (k _ _ (k1 _ _ ho))) hq) (fun Q E hQ=>?_) fun out h' d tk c' hC k hD=>?_
 ·refine wa hL (s:={ s with heap:=s.heap.push { cls:=.type "list",data:=.seq ([]:List Value).toArray } }) (?_:TS _ S es L) fun GW I fp wr St h' d py k2 hw hf W GY=>?_
  ·obtain ⟨o,ep,t,ho,q1,q2,q3,q4,q5⟩:=T0; exact ⟨o,ep,t,k1 _ _ ho,q1,q2,q3,q4,q5⟩
  have hl:GW.length=es.size:=by rw [py.length_eq,zA4,zB3]
  exact hQ GW I fp wr St h' d py (hl▸hn) k2 hw (fun q=>(hf _ q).elim (fun e=>by rw [Q2 _ rfl] at e; (injection e; done)) K6) (hl▸W A.in1 hh) GY
 ·refine (?_:wpAny _ A (load s.heap.objs.size >>= _) _ _ _);refine zC1 (wpAny_load hD ?_);exact zC2 (h out h' d tk hC fun b ob e=>k b ob (aY e) (k1 _ _ e))
end
noncomputable abbrev gB:Bool->SortKind:=sortPriv% PySem.Builtin.KeyKind.tuples
section
variable {prog:Program} {w:World} {A:Around} {E:GE} {s:Shared}
def xd (hp:j5 k p=true) (hq:j5 m q=true) (hk:(k.isLeft==m.isLeft)=true) (h:Q (dQ k m) s):GM prog w A (oneLt' b p q) Q E s:=
 aS (C:=fun k p=>(k.isLeft==m.isLeft)=true->Q (dQ k m) s->GM prog w A (oneLt' b p q) Q E s) hp
  (fun i t hk h=>aS (C:=fun m q=>(true==m.isLeft)=true->Q (dQ (.inl i) m) s->GM prog w A (oneLt' b (.int i t) q) Q E s) hq (fun j u U h=>by
    cases b
    ·rw [oneLt'_eq]; exact zC1 (P.lt_int (wpAny_truthy_bool h))
    ·exact oneLt_int h) (fun U U hk=>nB hk) hk h)
  (fun x t hk h=>aS (C:=fun m q=>(false==m.isLeft)=true->Q (dQ (.inr x) m) s->GM prog w A (oneLt' b (.str x t) q) Q E s) hq (fun U U hk=>nB hk) (fun y u U h=>by
    cases b
    ·rw [oneLt'_eq]; exact zC1 (lt_str (wpAny_truthy_bool h))
    ·exact oneLt_str h) hk h) hk h
inductive KLt (prog:Program) (w:World) (s:Shared) (sz:Bool) (Q:Bool->Shared->Prop) (FT:List ((Value×Value)×Nat)) (o:Option Bool) (s':Shared):Prop
 | mk (hr:o=none) (es:s'=s) (ks ms:List Sc) (vs us:List Value) (j:Nat) (er:FT=(vs.zip us).zipIdx j) (hv:ItemsAre (aw prog w) ks vs) (hu:ItemsAre (aw prog w) ms us) (hk:ltK ks ms=true) (h:Q (aW ks ms) s) (hz:sz=decide (vs.length < us.length)):KLt prog w s sz Q FT o s'
set_option tactic.hygienic true in
def CM (hc:IsTupleKey (aw prog w) s.heap ks c) (GL:IsTupleKey (aw prog w) s.heap ms c') (hk:ltK ks ms=true) (h:Q (aW ks ms) s):GM prog w A (keyLt' (gB b) (.ref c) (.ref c')) Q E s:=by
 obtain ⟨o,items,n,ho,_,hd,hi⟩:=hc;obtain ⟨o',Gu,n',Gj,_,F6,Gp⟩:=GL;refine zC1 (listItems_at ho hd ?_);refine zC1 (listItems_at Gj F6 ?_);refine zC1 (wpAny_forIn_list _ (fun FT r s'=>KLt prog w s (decide (items.size < Gu.size)) Q FT r.1 s') _ ?_ ?_ _ _ ⟨rfl,rfl,ks,ms,items.toList,Gu.toList,0,rfl,hi,Gp,hk,h,rfl⟩)
 ·rintro v FT r s' ⟨hr,rfl,ks,ms,vs,us,j,e,hv,hu,hk,h,hsz⟩;cases hv with
  | nil=>(injection e; done)
  | cons h1 hv=>
   cases hu with
   | nil=>(injection e; done)
   | cons h2 hu=>
    cases e
    refine zC1 ((aw prog w).eqBool h1 h2 ?_);rename_i k p ks vs m q ms us;rw [ltK_cc] at hk;rw [lex_cc] at h;by_cases e:k=m
    ·rw [NL e];rw [NP e] at hk h;exact zC2 ⟨rfl,rfl,ks,ms,vs,us,j+1,rfl,hv,hu,hk,h,hsz.trans (decide_eq_decide.mpr Nat.succ_lt_succ_iff)⟩
    ·rw [NM e];rw [NQ e] at hk h;exact zC1 (xd h1 h2 hk (zC2 (wpAny_pure h)))
 ·rintro ⟨r1,r2⟩ s' ⟨hr,rfl,ks,ms,vs,us,j,e,hv,hu,hk,h,hsz⟩;subst hr;refine zC2 ?_
  show Q (decide (items.size < Gu.size)) s'
  rw [hsz];have:aW ks ms=decide (vs.length < us.length):=by
   cases hv with
   | nil=>cases hu <;> rfl
   | cons h1 hv=>
    cases hu with
    | nil=>rfl
    | cons h2 hu=>(injection e; done)
  rw [<- this]; exact h
theorem sD {α β:Type} {f:α->Sem β} {C:β->Prop}:∀ {l:List α} {Q:List β->Shared->Prop},(∀ a∈l,∀ Q:β->Shared->Prop,(∀ b,C b->Q b s)->wpAny M A (f a) Q E s)->(∀ bs,(∀ b∈bs,C b)->Q bs s)->wpAny M A (l.mapM f) Q E s
 | [],Q,_,h=>by rw [List.mapM_nil]; exact zC2 (h [] fun U q=>nM q)
 | a :: l,Q,hf,h=>by
  rw [mapM_cons];refine zC1 (hf a (.head _) _ fun b hb=>zC1 (sD (fun a q=>hf a (.tail _ q)) fun bs hbs=>zC2 (h _ fun b' q=>?_)));rcases mem_cons.mp q with rfl | q
  ·exact hb
  ·exact hbs _ q
def gq {α β:Type} {f:α->Sem β} {C:β->Prop} {xs:Array α} {Q:Array β->Shared->Prop} (hf:∀ a∈xs.toList,∀ Q:β->Shared->Prop,(∀ b,C b->Q b s)->wpAny M A (f a) Q E s) (h:∀ bs,(∀ b∈bs.toList,C b)->Q bs s):wpAny M A (xs.mapM f) Q E s:=by
 rw [Array.mapM_eq_mapM_toList];exact zC1 (sD hf fun bs hb=>zC2 (h _ hb))
def vY {vs:Array Value} {Q:SortKind->Shared->Prop} (hv:∀ v∈vs.toList,∃ c x ks,v=.ref c/\IsTupleKey (aw prog w) s.heap (x :: ks) c) (h:∀ b,Q (gB b) s):GM prog w A (keyKind' vs) Q E s:=by
 refine zC1 (gq (C:=fun r=>∃ k v,r=some v/\j5 k v=true) (fun v m Q hQ=>?_) fun fs KW=>?_)
 ·obtain ⟨c,x,ks,rfl,k⟩:=hv v m;have hT:=k.typeIs;obtain ⟨o,items,n,ho,_,hd,hi⟩:=k;refine zC1 (wpAny_typeOf hT ?_);refine zC1 (listItems_at ho hd (zC2 (hQ _ ?_)));obtain ⟨l⟩:=items;cases hi with
  | cons hx _=>exact ⟨x,_,rfl,hx⟩
 ·have ha:fs.all (·.isSome)=true:=by
   rw [<- all_toList,Q6]; intro f m; obtain ⟨k,v,rfl,_⟩:=KW f m; rfl
  rw [NP ha];refine (bRu ?_);refine zC1 (zC1 (gq (C:=fun U=>True) (fun v m Q hQ=>?_) fun ts U=>?_))
  ·rw [toList_filterMap] at m;obtain ⟨f,mf,e⟩:=mem_filterMap.mp m;obtain ⟨k,u,rfl,hk⟩:=KW f mf;(injection e with e; subst e);exact aS (C:=fun U u=>GM prog w A (typeOf u) Q E s) hk (fun i t=>wpAny_typeOf (typeIs_int s i t) (hQ _ trivial)) fun x t=>wpAny_typeOf (typeIs_str s x t) (hQ _ trivial)
  ·split
   ·exact zC2 (zC2 (h _))
   ·exact zC2 (zC2 (h _))
end
def tO (a:Sc):dQ a a=false:=by
 cases a with
 | inl i=>exact NM (Int.lt_irrefl i)
 | inr x=>exact NM (List.lt_irrefl _)
def vi (h1:dQ a b=true) (h2:dQ b c=true):dQ a c=true:=by
 cases a with
 | inl i=>cases b with
  | inl j=>cases c with
   | inl k=>exact NL (Int.lt_trans (IO h1) (IO h2))
   | inr z=>rfl
  | inr y=>cases c with
   | inl k=>(injection h2; done)
   | inr z=>rfl
 | inr x=>cases b with
  | inl j=>(injection h1; done)
  | inr y=>cases c with
   | inl k=>(injection h2; done)
   | inr z=>exact NL (List.lt_trans (IO h1) (IO h2))
def vj (h:a≠b) (h1:dQ a b=false):dQ b a=true:=by
 cases a with
 | inl i=>cases b with
  | inl j=>exact NL (Int.lt_iff_le_and_ne.mpr ⟨Int.not_lt.mp (of_decide_eq_false h1),fun e=>h (NO _ e.symm)⟩)
  | inr y=>(injection h1; done)
 | inr x=>cases b with
  | inl j=>rfl
  | inr y=>
   refine NL (byContradiction fun q=>h (NO _ ?_));have:=List.le_antisymm (List.not_lt.mp q) (List.not_lt.mp (of_decide_eq_false h1));obtain ⟨⟨x⟩⟩:=x; obtain ⟨⟨y⟩⟩:=y;exact NO _ (NO _ this)
theorem i5:∀ l:List Sc,aW l l=false
 | []=>rfl
 | k :: ks=>by rw [lex_cc,NP rfl]; exact i5 ks
theorem gN:∀ {a b c:List Sc},aW a b=true->aW b c=true->aW a c=true
 | [],[],_,h,_=>nB h
 | [],_ :: _,[],_,h=>nB h
 | [],_ :: _,_ :: _,_,_=>rfl
 | _ :: _,[],_,h,_=>nB h
 | _ :: _,_ :: _,[],_,h=>nB h
 | x :: a,y :: b,z :: c,h1,h2=>by
  rw [lex_cc] at h1 h2 ⊢;by_cases e1:x=y
  ·subst e1;rw [NP rfl] at h1;by_cases e2:x=z
   ·rw [NP e2] at h2 ⊢; exact gN h1 h2
   ·rw [NQ e2] at h2 ⊢; exact h2
  ·rw [NQ e1] at h1;by_cases e2:y=z
   ·subst e2; rw [NQ e1]; exact h1
   ·rw [NQ e2] at h2;have:=vi h1 h2;rw [NQ fun e=>by rw [e,tO] at this; (injection this; done)]; exact this
theorem gO:∀ {a b:List Sc},a≠b->aW a b=false->aW b a=true
 | [],[],h,_=>absurd rfl h
 | [],_ :: _,_,h=>nB h.symm
 | _ :: _,[],_,_=>rfl
 | x :: a,y :: b,h,h1=>by
  rw [lex_cc] at h1 ⊢;by_cases e:x=y
  ·subst e; rw [NP rfl] at h1 ⊢; exact gO (fun e=>h (by rw [e])) h1
  ·rw [NQ e] at h1; rw [NQ (Ne.symm e)]; exact vj e h1
open Classical in
def ye (prog:Program) (w:World) (h:Heap):Value->Option (List Sc)
 | .ref c=>if q:∃ ks,IsTupleKey (aw prog w) h ks c then some q.choose else none
 | _=>none
def jJ (k:IsTupleKey (aw prog w) h ks c):ye prog w h (.ref c)=some ks:=by
 have q:∃ ks,IsTupleKey (aw prog w) h ks c:=⟨ks,k⟩;exact (dif_pos q).trans (NO some (q.choose_spec.inj k))
def dE (prog:Program) (w:World) (h:Heap):Zs.KKd where
 α:=List Sc
 blt:=aW
 irrefl:=i5
 trans:=fun U U U=>gN
 negTrans:=fun a b c h=>by
  by_cases e:a=b
  ·subst e; exact .inr h
  ·cases q:aW a b with
   | true=>exact .inl rfl
   | false=>exact .inr (gN (gO e q) h)
 total:=fun a b h1 h2=>byContradiction fun e=>by rw [gO e h1] at h2; (injection h2; done)
 keyOf:=ye prog w h
 dflt:=[]
section
variable {prog:Program} {w:World} {A:Around} {E:GE} {s:Shared}
theorem IsTupleKey.keepT (k:IsTupleKey (aw prog w) h ks c) (kp:∀ b o,h.get? b=some o->o.cls=.type "tuple"->h'.get? b=some o):IsTupleKey (aw prog w) h' ks c:=by obtain ⟨o,it,n,ho,hc,r⟩:=k; exact ⟨o,it,n,kp _ _ ho hc,hc,r⟩
structure Ordered (prog:Program) (w:World) (h:Heap) (vs:List Value):Prop where
 keys:∀ v∈vs,∃ c x ks,v=.ref c/\IsTupleKey (aw prog w) h (x :: ks) c
 lt:∀ c c' ks ms,.ref c∈vs->.ref c'∈vs->IsTupleKey (aw prog w) h ks c->IsTupleKey (aw prog w) h ms c'->ltK ks ms=true
theorem Ordered.perm (O:Ordered prog w h vs) (p:ws.Perm vs):Ordered prog w h ws:=⟨fun v m=>O.keys v (p.mem_iff.mp m),fun c c' ks ms m m'=>O.lt c c' ks ms (p.mem_iff.mp m) (p.mem_iff.mp m')⟩
def tY {vs:List Value} {a:Array Keyed} (p:a.Perm (pairsOf vs)):(a.map (·.2)).toList.Perm vs:=by
 rw [toList_map];refine ((perm_iff_toList_perm.mp p).map _).trans (.of_eq ?_);rw [pairsOf_toList,List.map_snd_zip (le_refl _)]
def zv (O:Ordered prog w h vs) (kp:∀ b o,h.get? b=some o->o.cls=.type "tuple"->s.heap.get? b=some o):Zs.LtIs (model prog w) A s (gB b) (dE prog w h) (pairsOf vs):=fun x y hx hy E Q hq=>by
 rw [pairsOf_toList] at hx hy;have mx:=(mem_zip_self hx).2;have my:=(mem_zip_self hy).2;refine aV fun Z3 Mf=>?_;obtain ⟨c,t,ks,e,k⟩:=O.keys _ mx;obtain ⟨c',t',F5,e',k'⟩:=O.keys _ my;refine Mf ?_;have ex:Zs.keyK (dE prog w h) x=t :: ks:=by unfold Zs.keyK; exact e.symm▸NO (Option.getD · []) (jJ k)
 have ey:Zs.keyK (dE prog w h) y=t' :: F5:=by unfold Zs.keyK; rw [e']; exact NO (Option.getD · []) (jJ k')
 rw [ex,ey] at hq;rw [e] at mx ⊢;rw [e'] at my ⊢;exact CM (IsTupleKey.keepT k kp) (IsTupleKey.keepT k' kp) (O.lt _ _ _ _ mx my k k') hq
def kq (prog:Program) (w:World) (h:Heap) (κ:Zs.KKd) (vs:List Value):Prop:=∀ (A:Around) (s':Shared) (E:GE) (Q:SortKind->Shared->Prop),A.units < cLine->(∀ b o,h.get? b=some o->o.cls=.type "tuple"->s'.heap.get? b=some o)->(∀ k₀,Zs.LtIs (model prog w) A s' k₀ κ (pairsOf vs)->Q k₀ s')->GM prog w A (keyKind' vs.toArray) Q E s'
theorem Ordered.sorts (O:Ordered prog w h vs):kq prog w h (dE prog w h) vs:=fun A s' E Q U kp hQ=>vY (fun v m=>by obtain ⟨c,x,ks,e,q⟩:=O.keys v m; exact ⟨c,x,ks,e,IsTupleKey.keepT q kp⟩) fun b=>hQ _ (zv O kp)
theorem kq.mono (O:kq prog w h κ vs) (k:ao h h'):kq prog w h' κ vs:=fun A s' E Q hu kp hQ=>O A s' E Q hu (fun b o e c=>kp b o (k b o e) c) hQ
noncomputable def zM (κ:Zs.KKd) (v:Value):κ.α:=(κ.keyOf v).getD κ.dflt
def ke (κ:Zs.KKd) (vs:List Value):Prop:=vs.Pairwise fun x y=>κ.blt (zM κ y) (zM κ x)=false
def vy {κ:Zs.KKd} (p:xs.Perm (pairsOf vs)) (hs:SortedToK κ xs (pairsOf vs).size):ke κ (xs.map (·.2)).toList:=by
 have self:∀ x∈xs.toList,x.1=x.2:=fun x m=>by
  have:=(perm_iff_toList_perm.mp p).mem_iff.mp m;rw [pairsOf_toList] at this;exact (mem_zip_self this).1
 refine pairwise_iff_getElem.mpr fun i j hi hj Go=>?_;rw [toList_map,zA4,zB3] at hi hj;have q:=hs i j (le_of_lt Go) (p.size_eq▸hj);have key:∀ (i:Nat) (hi:i < xs.size) (Gp:i < (xs.map (·.2)).toList.length),KK κ xs i=zM κ (xs.map (·.2)).toList[i]:=fun i hi Gp=>by
  rw [Zs.kk_at (getElem?_pos xs i hi)];unfold Zs.keyK;rw [self _ (by simp)];simp only [toList_map,List.getElem_map,Array.getElem_toList];rfl
 rw [<- key i hi,<- key j hj];exact q
def u9 {κ:Zs.KKd} (hu:A.units < cLine) (ho:s.heap.get? a=some (seqObj "list" vs.toArray n)) (O:kq prog w s.heap κ vs) (zl:vs.length<=sizeLine)
  (h:∀ out:Array Value,out.toList.Perm vs->(vs.length < 64->ke κ out.toList)->P (.done (.ret .none)) { s with heap:=sortedHeap s.heap a vs out }):GM prog w A (Builtin.«list.sort» ⟨[.ref a],[]⟩) P E s:=by
 rw [list_sort_plain];have ha:a < s.heap.objs.size:=lt_size ho;refine zC1 (listItems_at ho rfl ?_);refine zC1 (listUpdate_at ho rfl ?_ (by rw [size_toArray]; exact zl));obtain ⟨e1,JW⟩:∃ e1,(s.heap.update a (mapSeq fun U=>#[])).get? a=some (seqObj "list" #[] e1):=⟨_,get?_update_seq ho (fun U=>#[])⟩;refine zC1 (seqEpoch_at JW rfl ?_);refine zC1 (wpAny_newTuple ?_ zl);refine zC1 (wpAny_newList ?_);refine NN ?_;have Jj:∀ b o,b≠a->s.heap.get? b=some o->(((s.heap.update a (mapSeq fun U=>#[])).push (seqObj "tuple" vs.toArray 0)).push (seqObj "list" #[] 0)).get? b=some o:=fun b o q e=>Q4 _ (Q4 _ ((get?_update_other _ _ (Ne.symm q)).trans e));have ho6:(((s.heap.update a (mapSeq fun U=>#[])).push (seqObj "tuple" vs.toArray 0)).push (seqObj "list" #[] 0)).get? a=some (seqObj "list" #[] e1):=Q4 _ (Q4 _ JW);have k6:∀ b o,s.heap.get? b=some o->o.cls=.type "tuple"->(((s.heap.update a (mapSeq fun U=>#[])).push (seqObj "tuple" vs.toArray 0)).push (seqObj "list" #[] 0)).get? b=some o:=fun b o e c=>Jj b o (fun q=>by subst q; replace e:=ho▸e; (injection e with e; subst e); exact absurd (Value.type.inj c) (by decide)) e;refine (?_:GM prog w A _ P E { s with heap:=((s.heap.update a (mapSeq fun U=>#[])).push (seqObj "tuple" vs.toArray 0)).push (seqObj "list" #[] 0) });dsimp only;have fin:∀ C':SortSt,(arrOf C').Perm (pairsOf vs)->failedOf C'=none->(vs.length < 64->SortedToK κ (arrOf C') (pairsOf vs).size)->GM prog w A (do
   let Ip:=(<- seqEpoch a) != e1
   Builtin.List.listUpdate (.ref a) fun U=>(arrOf C').map (·.2)
   if let some e:=failedOf C' then rule "list.sort.comparison-raised"; throw e
   if Ip then rule "list.sort.modified"; raiseError "ValueError" "list modified during sort"
   ret .none) P E { s with heap:=((s.heap.update a (mapSeq fun U=>#[])).push (seqObj "tuple" vs.toArray 0)).push (seqObj "list" #[] 0) }:=fun C' hp hf hs=>by
  refine zC1 (seqEpoch_at ho6 rfl ?_);refine zC1 (listUpdate_at ho6 rfl ?_ (hsz2:=Nat.le_succ_of_le (by refine zB1 (zB2 ?_) zl; rw [Array.size_map,hp.size_eq,pairsOf_size])));refine hf.symm▸?_;simp only [bne_self_eq_false,false_eq_true,if_false];exact zC2 (h _ (tY hp) fun q=>vy hp (hs q))
 by_cases h2:vs.toArray.size < 2
 ·rw [NP h2,NP h2];refine (bPu ?_);rw [StateT.run_pure];refine (bPu ?_);refine fin (SortSt.mk' general' (vs.toArray.zip vs.toArray) #[] 7 none) (Array.Perm.refl _) rfl fun U i j Go hj=>?_;rw [pairsOf_size,<- size_toArray] at hj;obtain rfl:=le_zero.mp (Qb (Q1 hj (Qb h2)));obtain rfl:=le_zero.mp Go;exact kle_refl _
 ·rw [NQ h2,NQ h2];refine zC1 (O A { s with heap:=((s.heap.update a (mapSeq fun U=>#[])).push (seqObj "tuple" vs.toArray 0)).push (seqObj "list" #[] 0) } E _ hu k6 fun k₀ hL=>?_);refine zC1 (LT (Zs.wpS_sortRuns (k₀:=k₀) (κ:=κ) (a₀:=pairsOf vs) (st:=SortSt.mk' k₀ (vs.toArray.zip vs.toArray) #[] 7 none) (Q:=fun U C'=>(arrOf C').Perm (pairsOf vs)/\failedOf C'=none/\(vs.length < 64->SortedToK κ (arrOf C') (pairsOf vs).size)) hL ⟨Array.Perm.refl _,rfl,rfl,rfl⟩ (by rw [pairsOf_size,<- size_toArray]; exact not_lt.mp h2) fun C' a1 a2 a3=>⟨a1,a2,fun q=>a3 (by rw [pairsOf_size]; exact q)⟩) ?_ fun U U e=>e);rintro ⟨⟨⟩,C'⟩ s' ⟨rfl,hp,hf,hs⟩;exact fin C' hp hf hs
end
section
variable {prog:Program} {w:World} {A:Around} {E:GE} {s:Shared} {S:Addr} {es:Array (Int×Value)} {L:Bool}
def kH {κ:Zs.KKd} {X:Value} {us:List Value} {Q:GE} (hu:A.units+2 < cLine) (hz:us.length<=sizeLine) (O:∀ vs,vs.Perm us->kq prog w s.heap κ vs)
  (hc:∀ (Q:List Value->Shared->Prop) (E:GE),(∀ vs h' d tk,vs.Perm us->ao s.heap h'->Q vs { s with heap:=h',drawn:=d,toks:=tk })->GM prog w A.in1 (collect X) Q E s)
  (h:∀ (out:Array Value) h' d tk b e,out.toList.Perm us->(us.length < 64->ke κ out.toList)->ao s.heap h'->s.heap.get? b=none->lB s.heap (.ref b)->h'.get? b=some (seqObj "list" out e)->Q (.ref b) { s with heap:=h',drawn:=d,toks:=tk }):GM prog w A (call (.builtin "sorted") [X]) Q E s:=by
 refine Calls.call_function_entry kind_sorted plain_sorted entry_sorted (args_sorted1 _) ?_;unfold Builtin.«sorted»;refine wpAny_bind (m:=checkCount "sorted" 1 1 _) (zC2 ?_);refine zC1 (hc _ _ fun vs h1 d tk p k=>?_);have vl:vs.length<=sizeLine:=p.length_eq▸hz;refine zC1 (wpAny_newList ?_ vl);have k2:ao s.heap (h1.push (seqObj "list" vs.toArray 0)):=k.trans (am _ _);have Mx:(h1.push (seqObj "list" vs.toArray 0)).get? h1.objs.size=some (seqObj "list" vs.toArray 0):=Q2 _ rfl;refine zC1 (NN (wpAny_call_entry slot_list_sort ⟨_,Mx,rfl⟩ entry_list_sort (u9 hu Mx ((O vs p).mono k2) vl fun out po ro=>⟨_,rfl,?_⟩) (args_list_sort _)));have n0:s.heap.get? h1.objs.size=none:=aK k.live (ak _);obtain ⟨e,he⟩:=sortedHeap_at (out:=out) Mx;refine zC2 ⟨_,rfl,h out _ d tk _ e (po.trans p) (fun q=>ro (p.length_eq▸q)) (fun b o q=>?_) n0 (fun a b e H'=>H'.elim fun o q=>by (injection e with e; subst e); exact lt_size (k b o q)) he⟩;rw [sortedHeap_old (fun q'=>by subst q'; rw [n0] at q; (injection q; done)) (lt_size (k2 _ _ q))];exact k2 _ _ q
end
section
variable {Φ:Ct} {s:Shared} {v u:Value} {x y z:V} {d:DV}
def vt (hr:Φ.rps h vs r) (hw:∀ x∈r,ql x=true) (R:ke (dE Φ.fx.g.prog Φ.fx.g.w h) vs):kr r:=by
 have key:∀ (i:Nat) (hi:i < r.length) (Gp:i < vs.length),(ye Φ.fx.g.prog Φ.fx.g.w h vs[i]).getD []=aH r[i]:=fun i hi Gp=>by
  obtain ⟨v,ev,rv⟩:=hr.get (Q8 hi);(injection (Q8 Gp).symm.trans ev with Xq; subst Xq);obtain ⟨c,e,k⟩:=gA (hw _ (getElem_mem hi)) rv;rw [e,jJ k]; rfl
 refine pairwise_iff_getElem.mpr fun i j hi hj Go=>?_;have hl:=hr.length;rw [<- key i hi (hl▸hi),<- key j hj (hl▸hj)];exact pairwise_iff_getElem.mp R i j (hl▸hi) (hl▸hj) Go
def sZ {f:Str} {id:String} {fp pos sp spos:Pos} {e:Expr} {P:Shared->GE} {dd:V->Prop} (hx:bW Φ.fx.env.scope.names f=true) (hF:bD.lookup f=some (.builtin id)) (hs:bW Φ.fx.env.scope.names "set"=true) (hp:aq e=true) (h:Ev Φ (eval e Φ.fx.env) d)
  (st:∀ s v x E,Inv Φ s->Φ.rp s.heap v x->dd x->wpAny (model Φ.fx.g.prog Φ.fx.g.w) Φ.fx.A (call (.type "set") [v]) (fun u s₁=>wpAny (model Φ.fx.g.prog Φ.fx.g.w) Φ.fx.A (call (.builtin id) [u]) (P s) E s₁) E s) (hP:∀ s s₁ v s',ao s.heap s₁.heap->P s₁ v s'->P s v s') (hd:d dd) (I:Inv Φ s) :
  Φ.wp (eval (.Call (.Name f fp) [.Call (.Name "set" sp) [e] [] spos] [] pos) Φ.fx.env) (P s) s:=fun E=>by
 refine (?_:wpAny _ _ (eval (.Name f fp) Φ.fx.env >>= fun F=>callWith pos F [] (backTo pos (starEach [.Call (.Name "set" sp) [e] [] spos] Φ.fx.env)) []) _ _ s);refine zC1 (cL I hx hF ?_ E);refine callWith_builtin rfl (Calls.evalArgs_plain ?_);refine (?_:wpAny _ _ (eval (.Call (.Name "set" sp) [e] [] spos) Φ.fx.env >>= fun v=>holding [v] (pure []) >>= fun vs=>pure (v :: vs)) _ _ s);refine zC1 ?_;refine (?_:wpAny _ _ (eval (.Name "set" sp) Φ.fx.env >>= fun F=>callWith spos F [] (backTo spos (starEach [e] Φ.fx.env)) []) _ _ s);refine zC1 (cL (v:=.type "set") I hs rfl ?_ E);refine PySem.callWith_type (by rw [aF hp]; rfl) ?_;refine cm (qs:=[(e,d)]) (K:=fun xs=>okK (one xs some) dd) (fun q m=>by obtain rfl:=zA6 m; exact ⟨hp,h⟩) hd I fun vs xs s₁ FM FQ hx rs=>ae hx fun x e hx=>?_;refine cJ (C:=fun vs=>wpAny _ _ (call (.type "set") ([]++vs) []) _ _ s₁) e rs fun v x' r e=>?_;cases e
 exact LT (st s₁ _ x E FM r hx) (fun u FN p=>zC1 (NN (zC2 (zC2 (LT p (fun U U q=>hP _ _ _ _ FQ q) fun U U z=>z))))) fun U U z=>z
def lH {fp pos sp spos:Pos} {e:Expr} (hx:bW Φ.fx.env.scope.names "sorted"=true) (hs:bW Φ.fx.env.scope.names "set"=true) (hp:aq e=true) (h:Ev Φ (eval e Φ.fx.env) d) :
  EvN Φ (eval (.Call (.Name "sorted" fp) [.Call (.Name "set" sp) [e] [] spos] [] pos) Φ.fx.env) (fun K=>d fun x=>okK (gc x some) fun l=>(l.all pQ&&decide (l.length<=af))=true/\(∀ x∈l,∀ y∈l,ltK (aH x) (aH y)=true)/\(∃ m:List V,m.length < 4500/\∀ x∈l,x∈m)/\∀ r:List V,r.Nodup->(∀ y,y∈r ↔ y∈l)->(l.length < 64->kr r)->K (.list r)):=fun K s hd I=>by
 refine sZ (P:=fun s=>gx Φ s K) hx rfl hs hp h (fun s v x E I r hx=>?_) (fun U U U U k p=>p.lift k) hd I;refine ae hx fun l e JG=>JG.elim fun q Lj=>Lj.elim fun F8 JF=>JF.elim fun JE hK=>JE.elim fun few Hs=>Hs.elim fun G9 J6=>?_;refine cD (C:=fun x=>Φ.rp s.heap v x->wpAny _ _ (call (.type "set") [v]) _ E s) e (fun l' e r=>?_) r;cases e
 have q:=zA2 q;have hw:∀ x∈l,pQ x=true:=Q6.mp q.1;refine r.list_elim fun a o vs n U ha hc hd hl=>?_;have hu:=I.room;have hsz:=aN hl;refine jP (T:="list") I.ok.hand hu (fun s' k=>⟨o,k _ _ ha,hc.1⟩) PySem.F.sub_list_set PySem.F.sub_list_frozenset (by decide) (ld ⟨o,ha,hc.1,n,hd⟩) (qE hl hw J6 (Q1 G9 (by decide))) fun h' tk hZ k=>?_;obtain ⟨es,r,T,he,hr,KM,hm⟩:=hZ;rw [hsz,take_length] at hm;have O:Ordered Φ.fx.g.prog Φ.fx.g.w h' (es.toList.map (·.2)):=by
  have kk:∀ y∈r,∀ v,Φ.rp s.heap v y->∃ c x ks,v=.ref c/\aH y=x :: ks/\IsTupleKey (aw Φ.fx.g.prog Φ.fx.g.w) h' (x :: ks) c:=fun y my v ry=>by
   have hy:=hw y ((hm y).mp my);obtain ⟨c,e,z⟩:=gA (cW hy) ry;obtain ⟨x,ks,eh⟩:=vr (cW hy);exact ⟨c,x,ks,e,eh,eh▸dY k z⟩
  refine ⟨fun v m=>?_,fun c c' ks ms m m' q q'=>?_⟩
  ·obtain ⟨y,my,ry⟩:=hr.of_mem m;obtain ⟨c,x,ks,e,_,z⟩:=kk y my v ry;exact ⟨c,x,ks,e,z⟩
  ·obtain ⟨y,my,ry⟩:=hr.of_mem m;obtain ⟨y',Kk,L5⟩:=hr.of_mem m';obtain ⟨_,x,F5,e,eh,z⟩:=kk y my _ ry;obtain ⟨_,x',ms',e',eh',z'⟩:=kk y' Kk _ L5;(injection e with e; subst e); (injection e' with e'; subst e');rw [q.inj z,q'.inj z',<- eh,<- eh'];exact F8 y ((hm y).mp my) y' ((hm y').mp Kk)
 have Lc:∀ {few:List V} {n:Nat},few.length < n->(∀ x∈l,x∈few)->es.size < n:=fun {few} n G9 J6=>by
  rw [oM hr]; exact Q0 (KM.length_le_of_subset (l₂:=few) fun y q=>J6 y ((hm y).mp q)) G9
 refine kH (κ:=dE _ _ _) (s:={ s with heap:=h',toks:=tk }) (Q0 (Q7 (by decide:2<=100) _) I.room) (by rw [zA4,zB3]; exact zB1 (le_of_lt (Lc G9 J6)) (by decide)) (fun vs p=>(O.perm p).sorts) (fun Q E hQ=>ot I.ok.hand rfl T hQ) fun out h2 dr tk2 b e po ro k2 hb My ho=>?_;obtain ⟨R,pR,rR⟩:=RpAll.perm po hr;have nb:s.heap.get? b=none:=aK k.live hb;have hRw:∀ x∈R,ql x=true:=fun y q=>cW <| hw y ((hm y).mp (pR.mem_iff.mp q));refine ⟨⟨⟨I.base.stays.trans (k.trans k2),I.base.os,I.base.gens⟩,(k.trans k2),.list R,hK R (pR.nodup_iff.mpr KM) (fun y=>pR.mem_iff.trans (hm y)) (fun q=>vt (rR.keep k) hRw (ro (by rw [zA4,zB3]; exact Lc q fun U m=>m))),.list (fun q=>?_) ho ⟨rfl,rfl⟩ rfl (rR.keep (k.trans k2))⟩,My.le fun b l=>k.live l⟩;obtain ⟨o',e'⟩:=I.badLive q;rw [nb] at e'; (injection e'; done)
open Classical in
def uo {fp pos sp spos:Pos} {e:Expr} (hx:bW Φ.fx.env.scope.names "len"=true) (hs:bW Φ.fx.env.scope.names "set"=true) (hp:aq e=true) (h:Ev Φ (eval e Φ.fx.env) d) :
  Ev Φ (eval (.Call (.Name "len" fp) [.Call (.Name "set" sp) [e] [] spos] [] pos) Φ.fx.env) (fun K=>d fun x=>okK ((j2 x).map fun n=>.int n) K):=fun K s hd I=>by
 refine sZ (P:=fun s=>Post Φ Φ.rp s K) hx rfl hs hp h (fun s v x E I r hx=>?_) (fun U U U U k p=>p.lift k) hd I;refine ae hx fun z e kz=>map_elim (C:=fun z=>K z->_) e (fun n e kz=>?_) kz;have fin:∀ {Kd:Type} [DecidableEq Kd] (kd:KeyKind Φ.fx.g.prog Φ.fx.g.w Kd) (S:Kd->Bool) (h':Heap) (tk:Nat),h'.SetOf kd s.heap.objs.size S n->ao s.heap h'->wpAny (model Φ.fx.g.prog Φ.fx.g.w) Φ.fx.A (call (.builtin "len") [.ref s.heap.objs.size]) (Post Φ Φ.rp s K) E { s with heap:=h',toks:=tk }:=fun kd S h' tk hS k=>
  zy (s:={ s with heap:=h',toks:=tk }) hS fun t tk'=>⟨⟨I.base.stays.trans k,I.base.os,I.base.gens⟩,k,_,kz,.int _ _⟩
 cases x with
 | str t=>
  refine aU e fun q e=>?_;(injection e with e; subst e);refine r.str_elim fun tk=>?_;have F:=g7 (knd:=PySem.strKind Φ.fx.g.prog Φ.fx.g.w) (h₀:=s.heap) (S:=s.heap.objs.size) (P:=SignAt t) (ks:=t.cps.toList.map fun c=>(⟨#[c]⟩:Str)) ((by rintro i v ⟨c,u,hc,e⟩; exact ⟨⟨#[c]⟩,by rw [getElem?_map,Q5,hc]; rfl,by subst e; simp [PySem.strKind,Value.isStrOf],by subst e; rfl⟩)) (Pairwise.map _ (fun a b ne e=>ne (by injection e with e; exact (zA5 (NO Array.toList e)).1)) q.1) (by rw [zA4,zB3]; unfold scanBound; exact Q0 q.2 (by decide));rw [zA4,zB3] at F;exact jP (T:="str") I.ok.hand I.room (fun s' k=>typeIs_str _ _ _) (by rw [isSubtype_type]; kernel_rfl) (by rw [isSubtype_type]; kernel_rfl) (by decide) we F fun h' tk hZ k=>fin (PySem.strKind _ _) _ h' tk hZ k
 | list l=>
  have e:((eE l).bind fun is=>if is.Nodup/\is.length < 4000 then some is.length else none)=some n:=e;obtain ⟨is,ei,e⟩:=bind_eq_some_iff.mp e;refine aU e fun q e=>?_;(injection e with e; subst e);refine r.list_elim fun a o vs n U ha hc hd hl=>?_;have hi:=i9 ei hl;have LI:vs.size=is.length:=by rw [<- zB3,hi.nums.symm,zA4]
  have F:=g7 (knd:=intKind Φ.fx.g.prog Φ.fx.g.w) (h₀:=s.heap) (S:=s.heap.objs.size) (P:=fun i v=>vs[i]?=some v) (ks:=is) (fun i v e=>?_) q.1 (by unfold scanBound; exact Q0 q.2 (by decide))
  ·rw [<- LI] at F;exact jP (T:="list") I.ok.hand I.room (fun s' k=>⟨o,k _ _ ha,hc.1⟩) PySem.F.sub_list_set PySem.F.sub_list_frozenset (by decide) (ld ⟨o,ha,hc.1,n,hd⟩) F fun h' tk hZ k=>fin (intKind _ _) _ h' tk (LI▸hZ) k
  ·obtain ⟨t,et⟩:=hi.int_at i v (Q5▸e);have F8:i < is.length:=LI▸(Array.getElem?_eq_some_iff.mp e).1;refine ⟨is.getD i 0,by rw [Q8 F8]; simp [F8],?_,by subst et; rfl⟩;subst et; simp [intKind,Value.isInt]
 | _=>(injection e; done)
end
section
variable {prog:Program} {w:World} {A:Around} {E:GE} {s:Shared} {h h':Heap}
def y6 {Q:GE} (hp:j5 k p=true) (hq:j5 m q=true) (hk:(k.isLeft==m.isLeft)=true) (h:Q (.bool (dQ k m)) s):GM prog w A (richCompare .Lt p q) Q E s:=
 aS (C:=fun k p=>(k.isLeft==m.isLeft)=true->Q (.bool (dQ k m)) s->GM prog w A (richCompare .Lt p q) Q E s) hp
  (fun i t hk h=>aS (C:=fun m q=>(true==m.isLeft)=true->Q (.bool (dQ (.inl i) m)) s->GM prog w A (richCompare .Lt (.int i t) q) Q E s) hq (fun j u U h=>P.lt_int h) (fun U U hk=>nB hk) hk h)
  (fun x t hk h=>aS (C:=fun m q=>(false==m.isLeft)=true->Q (.bool (dQ (.inr x) m)) s->GM prog w A (richCompare .Lt (.str x t) q) Q E s) hq (fun U U hk=>nB hk) (fun y u U h=>lt_str h) hk h) hk h
inductive LtI (prog:Program) (w:World) (R:Fin->Shared->Prop) (s:Shared) (z:Bool) (FT:List (Value×Value)) (o:Option Fin) (s':Shared):Prop
 | mk (ks ms:List Sc) (vs us:List Value) (eo:o=none) (es:s'=s) (e:FT=List.zip vs us) (hv:ItemsAre (aw prog w) ks vs) (hu:ItemsAre (aw prog w) ms us) (hk:ltK ks ms=true) (h:R (.done (.ret (.bool (aW ks ms)))) s) (hz:decide (vs.length < us.length)=z):LtI prog w R s z FT o s'
theorem LtI.last (hI:LtI prog w R s z [] o s'):o=none/\s'=s/\R (.done (.ret (.bool z))) s:=by
 obtain ⟨ks,ms,vs,us,eo,es,e,hv,hu,hk,h,hz⟩:=hI;refine ⟨eo,es,?_⟩;rw [<- hz,<- (show aW ks ms=decide (vs.length < us.length) from ?_)]
 ·exact h
 ·cases hv with
  | nil=>cases hu <;> rfl
  | cons h1 hv=>
   cases hu with
   | nil=>rfl
   | cons h2 hu=>(injection e; done)
theorem LtI.step {C:Prop} (hI:LtI prog w R s z (v :: FT) o s') (hC:∀ k m,o=none->s'=s->j5 k v.1=true->j5 m v.2=true->(k=m->LtI prog w R s z FT none s)->(k≠m->(k.isLeft==m.isLeft)=true/\R (.done (.ret (.bool (dQ k m)))) s)->C):C:=by
 obtain ⟨ks,ms,vs,us,eo,es,e,hv,hu,hk,h,hz⟩:=hI;cases hv with
 | nil=>(injection e; done)
 | cons h1 hv=>
  cases hu with
  | nil=>(injection e; done)
  | cons h2 hu=>
   injection e with e1 e2
   subst e1;rw [ltK_cc] at hk;rw [lex_cc] at h;exact hC _ _ eo es h1 h2 (fun q=>by rw [NP q] at hk h; exact ⟨_,_,_,_,rfl,rfl,e2,hv,hu,hk,h,(decide_eq_decide.mpr Nat.succ_lt_succ_iff).symm.trans hz⟩) fun q=>by rw [NQ q] at hk h; exact ⟨hk,h⟩
def zw {R:Fin->Shared->Prop} (hx:IsTupleKey (aw prog w) s.heap ks a) (hy:IsTupleKey (aw prog w) s.heap ms b) (hk:ltK ks ms=true) (h:R (.done (.ret (.bool (aW ks ms)))) s) :
  GM prog w A (Builtin.«tuple.__lt__» ⟨[.ref a,.ref b],[]⟩) R E s:=by
 have hTb:=hy.typeIs;obtain ⟨oa,xs,na,Hz,_,hda,LK⟩:=hx;obtain ⟨ob,ys,nb,H1,_,hdb,hib⟩:=hy;refine (?_:wpAny _ _ (isInstance (.ref b) (.type "tuple") >>= _) _ _ s);refine zC1 (wpAny_isInstance hTb isSubtype_tuple_tuple ?_);refine bI (by exact NK) ?_;refine zC1 (wpAny_tupleItemsOf Hz hda ?_);refine zC1 (wpAny_tupleItemsOf H1 hdb ?_);refine zC1 (wpAny_forIn_list _ (fun FT r s'=>LtI prog w R s (decide (xs.size < ys.size)) FT r.1 s') _ ?_ ?_ _ _ ⟨ks,ms,xs.toList,ys.toList,rfl,rfl,rfl,LK,hib,hk,h,rfl⟩)
 ·intro v FT r s' hI;refine hI.step fun k m U es h1 h2 i1 i2=>?_;subst es;refine zC1 ((aw prog w).eqBool h1 h2 ?_);by_cases e:k=m
  ·rw [NL e];exact zC2 (i1 e)
  ·rw [NM e];exact bRu (zC1 (y6 h1 h2 (i2 e).1 (zC1 (zC2 (zC2 (zC2 (i2 e).2))))))
 ·intro r s' hI;obtain ⟨r1,r2⟩:=r;obtain ⟨eo,es,h⟩:=hI.last;subst es;have eo:r1=none:=eo;subst eo;exact wpAny_pure h
def zb {Q:GE} (hu:A.units < cLine) (hx:IsTupleKey (aw prog w) s.heap ks a) (hy:IsTupleKey (aw prog w) s.heap ms b) (hk:ltK ks ms=true) (h:Q (.bool (aW ks ms)) s):GM prog w A (richCompare .Lt (.ref a) (.ref b)) Q E s:=
 wpAny_richCompare_same_room (op:=.Lt) hx.typeIs hy.typeIs F.slot_tuple_lt (wpAny_call_entry F.slot_tuple_lt hx.typeIs F.entry_tuple_lt (zw hx hy hk ⟨_,rfl,(fun e=>nomatch e),h⟩) (F.args_tuple_lt_2 _ _)) hu
inductive IsPair (prog:Program) (w:World) (n:Nat) (h:Heap) (ks:List Sc) (c:Addr):Prop
 | mk (o:Obj) (items:Array Value) (e:Nat) (b:Addr) (y:Value) (kb:List Sc) (m:Sc) (ho:h.get? c=some o) (hc:o.cls=.type "tuple") (hd:o.data=.seq items e) (hi:items.toList=[.ref b,y]) (hb:IsTupleKey (aw prog w) h kb b) (hm:j5 m y=true) (hn:kb.length=n) (ek:ks=kb++[m]):IsPair prog w n h ks c
def vk (prog:Program) (w:World) (h1:j5 k v=true) (h2:j5 m v=true):k=m:=by
 have q:=ItemsAre.inj (knd:=aw prog w) (x:=[k]) (y:=[m]) (vs:=[v]) (.cons h1 .nil) (.cons h2 .nil);exact (zA5 q).1
theorem IsPair.inj (x:IsPair prog w n h ks c) (x':IsPair prog w n h ms c):ks=ms:=by
 obtain ⟨o,items,e,b,y,kb,m,ho,_,hd,hi,hb,hm,_,rfl⟩:=x;obtain ⟨o',Gu,e',b',y',Md,m',Gj,_,F6,Gp,HA,HF,_,rfl⟩:=x';obtain rfl:=LE (ho.symm.trans Gj);have z:=hd.symm.trans F6;injection z with z
 subst z;have z:=hi.symm.trans Gp;injection z with z1 z
 injection z with z2 z
 injection z1 with z1
 subst z1 z2;rw [hb.inj HA,vk prog w hm HF]
theorem IsPair.keepT (x:IsPair prog w n h ks c) (kp:∀ b o,h.get? b=some o->o.cls=.type "tuple"->h'.get? b=some o):IsPair prog w n h' ks c:=by
 obtain ⟨o,items,e,b,y,kb,m,ho,hc,hd,hi,hb,hm,hn,ek⟩:=x;exact ⟨o,items,e,b,y,kb,m,kp _ _ ho hc,hc,hd,hi,IsTupleKey.keepT hb kp,hm,hn,ek⟩
open Classical in
def xv (prog:Program) (w:World) (n:Nat) (h:Heap):Value->Option (List Sc)
 | .ref c=>if q:∃ ks,IsPair prog w n h ks c then some q.choose else none
 | _=>none
def gP (k:IsPair prog w n h ks c):xv prog w n h (.ref c)=some ks:=by
 have q:∃ ks,IsPair prog w n h ks c:=⟨ks,k⟩;exact (dif_pos q).trans (NO some (q.choose_spec.inj k))
def cI (prog:Program) (w:World) (n:Nat) (h:Heap):Zs.KKd:={ dE prog w h with keyOf:=xv prog w n h,dflt:=[] }
theorem o7 {m m':Sc}:∀ {a b:List Sc},a.length=b.length->aW (a++[m]) (b++[m'])=if a=b then (if m=m' then false else dQ m m') else aW a b
 | [],[],_=>by rw [NP rfl]; rfl
 | [],_ :: _,e=>nomatch e
 | _ :: _,[],e=>nomatch e
 | x :: a,y :: b,e=>by
  rw [cons_append,cons_append,lex_cc,lex_cc,o7 (Nat.succ.inj e)];by_cases q:x=y
  ·subst q;by_cases z:a=b
   ·subst z; simp
   ·simp [z]
  ·simp [q]
theorem o5 {m m':Sc}:∀ {a b:List Sc},a.length=b.length->ltK (a++[m]) (b++[m'])=true->(a≠b->ltK a b=true)/\(a=b->m≠m'->(m.isLeft==m'.isLeft)=true)
 | [],[],_,h=>⟨fun q=>absurd rfl q,fun U q=>by
  have h:(if m=m' then ltK [] [] else m.isLeft==m'.isLeft)=true:=h;rw [NQ q] at h; exact h⟩
 | [],_ :: _,e,_=>nomatch e
 | _ :: _,[],e,_=>nomatch e
 | x :: a,y :: b,e,h=>by
  rw [cons_append,cons_append,ltK_cc] at h;by_cases q:x=y
  ·subst q;rw [NP rfl] at h;have ih:=o5 (Nat.succ.inj e) h;refine ⟨fun z=>?_,fun z=>ih.2 (zA5 z).2⟩;rw [ltK_cc,NP rfl];exact ih.1 fun w=>z (by rw [w])
  ·rw [NQ q] at h;exact ⟨fun U=>by rw [ltK_cc,NQ q]; exact h,fun z=>absurd (zA5 z).1 q⟩
def zf {Q:Bool->Shared->Prop} (hu:A.units < cLine) (hc:IsPair prog w n s.heap ks c) (GL:IsPair prog w n s.heap ms c') (hk:ltK ks ms=true) (h:Q (aW ks ms) s):GM prog w A (keyLt' (gB false) (.ref c) (.ref c')) Q E s:=by
 obtain ⟨o,items,e,b,y,kb,m,ho,_,hd,hi,hb,hm,hn,rfl⟩:=hc;obtain ⟨o',Gu,e',b',y',Md,m',Gj,_,F6,Gp,HA,HF,HE,rfl⟩:=GL;have hl:kb.length=Md.length:=hn.trans HE.symm;rw [o7 hl] at h;have hk:=o5 hl hk;refine zC1 (listItems_at ho hd ?_);refine zC1 (listItems_at Gj F6 ?_);have hz:items.size=2:=by rw [<- zB3,hi]; rfl
 have Ix:Gu.size=2:=by rw [<- zB3,Gp]; rfl
 rw [hi,Gp,hz,Ix];refine zC1 ?_;refine (?_:wpAny _ _ (forIn [((Value.ref b,Value.ref b'),0),((y,y'),1)] _ _) _ _ s);rw [forIn_cons];refine zC1 (zC1 (wpAny_eqBool_tuple hu hb HA ?_));by_cases q:kb=Md
 ·rw [NL q];rw [NP q] at h;refine zC2 ?_;refine (?_:wpAny _ _ (forIn [((y,y'),1)] _ _) _ _ s);rw [forIn_cons];refine zC1 (zC1 ((aw prog w).eqBool hm HF ?_));by_cases z:m=m'
  ·rw [NL z];rw [NP z] at h;exact zC2 (zC2 (wpAny_pure h))
  ·rw [NM z];rw [NQ z] at h;exact zC1 (xd hm HF (hk.2 q z) (zC2 (zC2 (wpAny_pure h))))
 ·rw [NM q];rw [NQ q] at h;refine zC1 ?_;refine (?_:wpAny _ _ (richCompare .Lt (.ref b) (.ref b') >>= fun r=>truthOfDropped r) _ _ s);exact zC1 (zb hu hb HA (hk.1 q) (wpAny_truthy_bool (zC2 (zC2 (wpAny_pure h)))))
structure OrderedP (prog:Program) (w:World) (n:Nat) (h:Heap) (vs:List Value):Prop where
 keys:∀ v∈vs,∃ c ks,v=.ref c/\IsPair prog w n h ks c
 lt:∀ c c' ks ms,.ref c∈vs->.ref c'∈vs->IsPair prog w n h ks c->IsPair prog w n h ms c'->ltK ks ms=true
theorem OrderedP.perm (O:OrderedP prog w n h vs) (p:ws.Perm vs):OrderedP prog w n h ws:=⟨fun v m=>O.keys v (p.mem_iff.mp m),fun c c' ks ms m m'=>O.lt c c' ks ms (p.mem_iff.mp m) (p.mem_iff.mp m')⟩
theorem OrderedP.sorts (O:OrderedP prog w n h vs):kq prog w h (cI prog w n h) vs:=fun A s' E Q hu kp hQ=>by
 have hL:Zs.LtIs (model prog w) A s' (gB false) (cI prog w n h) (pairsOf vs):=fun x y hx hy E Q hq=>by
  rw [pairsOf_toList] at hx hy;have mx:=(mem_zip_self hx).2;have my:=(mem_zip_self hy).2;obtain ⟨c,ks,e,k⟩:=O.keys _ mx;obtain ⟨c',F5,e',k'⟩:=O.keys _ my;have ex:Zs.keyK (cI prog w n h) x=ks:=by unfold Zs.keyK; exact e.symm▸NO (Option.getD · []) (gP k)
  have ey:Zs.keyK (cI prog w n h) y=F5:=by unfold Zs.keyK; rw [e']; exact NO (Option.getD · []) (gP k')
  rw [ex,ey] at hq;rw [e] at mx ⊢;rw [e'] at my ⊢;exact zf hu (k.keepT kp) (k'.keepT kp) (O.lt _ _ _ _ mx my k k') hq
 have hQ:=hQ _ hL;refine zC1 (gq (C:=fun r=>∃ b,r=some (.ref b)/\s'.TypeIs (.ref b) "tuple") (fun v m Q hQ=>?_) fun fs KW=>?_)
 ·obtain ⟨c,ks,rfl,k⟩:=O.keys v m;obtain ⟨o,items,e,b,y,kb,m,ho,hc,hd,hi,hb,_,_,_⟩:=k.keepT kp;refine zC1 (wpAny_typeOf ⟨o,ho,hc⟩ ?_);refine zC1 (listItems_at ho hd (zC2 (hQ _ ⟨b,?_,hb.typeIs⟩)));obtain ⟨l⟩:=items;obtain rfl:l=[.ref b,y]:=hi;rfl
 ·have ha:fs.all (·.isSome)=true:=by
   rw [<- all_toList,Q6]; intro f m; obtain ⟨b,rfl,_⟩:=KW f m; rfl
  rw [NP ha];refine (bRu ?_);refine zC1 (zC1 (gq (C:=fun t=>t=.type "tuple") (fun v m Q hQ=>?_) fun ts ht=>?_))
  ·rw [toList_filterMap] at m;obtain ⟨f,mf,e⟩:=mem_filterMap.mp m;obtain ⟨b,rfl,hb⟩:=KW f mf;(injection e with e; subst e);exact wpAny_typeOf hb (hQ _ rfl)
  ·obtain ⟨ts⟩:=ts;cases ts with
   | nil=>exact zC2 (wpAny_pure hQ)
   | cons t r=>
    obtain rfl:=ht t (.head _);refine zC2 (zC2 ?_);split
    ·exact hQ
    ·exact hQ
end
section
variable {prog:Program} {w:World} {A:Around} {E:GE} {s:Shared}
def lJ {a:Addr} {o:Obj} {es:Array DictEntry} {n:Nat} {Q:List Value->Shared->Prop} (hh:A.handled=none) (hm:a≠sysModules) (ha:s.heap.get? a=some o) (hc:o.ExactDict) (hd:o.data=.dict es n) (hz:es.size<=sizeLine)
  (h:∀ h' d tk,ao s.heap h'->Q (es.toList.map (·.key)) { s with heap:=h',drawn:=d,toks:=tk }):GM prog w A (collect (.ref a)) Q E s:=by
 have hl:(es.toList.map (·.key)).length=es.size:=by rw [zA4,zB3]
 have K6:s.heap.objs.size≠a:=(aY ha).symm;unfold collect;refine zC1 (wpAny_runValue (codeAny_builtin PySem.F.entry_proto_collect ?_));rw [under_plainId PySem.F.plain_proto_collect _];refine (?_:wpAny _ A.in1 (newList [] >>= fun l=>again (.builtin "list.__iadd__" ⟨[l,.ref a],[]⟩)) _ _ s);refine zC1 (wpAny_newObj_type ?_);refine zC2 ⟨plainId_quiet PySem.F.plain_list_iadd _,codeAny_builtin PySem.F.entry_list_iadd ?_⟩;rw [under_plainId PySem.F.plain_list_iadd _];refine (?_:wpAny _ A.in1 (Builtin.List.listExtendWith (.ref s.heap.objs.size) (.ref a) (.ref s.heap.objs.size)) _ _ _);have k1:=am s.heap { cls:=.type "list",data:=.seq ([]:List Value).toArray };have GN:=k1 _ _ ha;refine fw (R:=wants _ E) (T:="dict") (C:=fun out=>out=es.toList.map (·.key)) (s:={ s with heap:=s.heap.push { cls:=.type "list",data:=.seq ([]:List Value).toArray } }) hh (Q2 _ rfl) K6 (.inr (.inr rfl)) ⟨o,GN,hc.1⟩ (fun s' Q E k hq=>kX ⟨o,k _ _ GN,hc.1⟩ hq) (fun Q E hQ=>?_) fun out h' d tk c' hC k hD=>?_
 ·have W:=fc (prog:=prog) (w:=w) (A:=A.in1) (I:=(s.heap.push { cls:=.type "list",data:=.seq ([]:List Value).toArray }).objs.size) hh (ne_of_lt (lt_size GN)) hd;rw [<- hl] at W;refine gQ (beq_eq_false_iff_ne.mpr hm) GN hc hd (hQ _ _ _ _ _ _ s.drawn rfl (by rw [hl]; exact hz) (am _ _) (fun b m=>?_) (fun m=>?_) W ⟨⟨_,Q2 _ rfl,rfl,by rw [hl]; rfl⟩,am _ _ _ _ GN⟩)
  ·obtain rfl:=zA6 m; exact ak _
  ·rcases mem_cons.mp m with q | q
   ·rw [size_push] at q; exact absurd q (ne_of_lt (lt_succ_self _))
   ·exact K6 (zA6 q)
 ·subst hC;refine (?_:wpAny _ A (load s.heap.objs.size >>= _) _ _ _);refine zC1 (wpAny_load hD ?_);exact zC2 (h h' d tk fun b ob e=>k b ob (aY e) (k1 _ _ e))
end
section
variable {g:Gl} {bad:Addr->Prop} {h:Heap}
def qm {C:V->Prop} (e:hO n x=true) (k:∀ y l z,(y :: l).all aA=true->aA z=true->(y :: l).length=n->C (.tuple [.tuple (y :: l),z])):C x:=by
 cases x with
 | tuple l=>
  rcases l with _ | ⟨a,_ | ⟨z,_ | _⟩⟩
  ·exact nB e
  ·cases a with
   | tuple m=>cases m <;> exact nB e
   | _=>exact nB e
  ·cases a with
   | tuple m=>cases m with
    | nil=>exact nB e
    | cons y l=>
     have e:=zA2 e;have e2:=zA2 e.2;exact k y l z e.1 e2.1 (Id e2.2)
   | _=>exact nB e
  ·cases a with
   | tuple m=>cases m <;> exact nB e
   | _=>exact nB e
 | _=>exact nB e
def fX (e:hO n x=true) (r:Rp g bad h v x):∃ c,v=.ref c/\IsPair g.prog g.w n h (bQ x) c:=qm (C:=fun x=>Rp g bad h v x->∃ c,v=.ref c/\IsPair g.prog g.w n h (bQ x) c) e (fun y l z hl hz hn r=>by
 cases r with
 | @tuple c o vs e l' nb ho hc hd G4=>
  obtain ⟨vs⟩:=vs;cases (G4:RpAll _ _ _ vs _) with
  | cons r1 rs=>
   cases rs with
   | cons r2 rn=>
    cases rn
    obtain ⟨b,rfl,kb⟩:=xu r1 hl;refine ⟨c,rfl,o,_,e,b,_,(y :: l).map kOf,kOf z,ho,hc,hd,rfl,kb,?_,by rw [zA4]; exact hn,rfl⟩;have q:=pc (.cons r2 .nil) (by rw [List.all_cons,hz]; rfl);cases q with | cons q _=>exact q) r
end
section
variable {Φ:Ct} {s:Shared} {v u:Value} {x y z:V} {d:DV}
def nX (hr:Φ.rps s.heap vs r) (hw:∀ x∈r,hO n x=true) (F8:∀ x∈r,∀ y∈r,ltK (bQ x) (bQ y)=true):OrderedP Φ.fx.g.prog Φ.fx.g.w n s.heap vs:=by
 refine ⟨fun v m=>?_,fun c c' ks ms m m' q q'=>?_⟩
 ·obtain ⟨y,my,ry⟩:=hr.of_mem m;obtain ⟨c,e,z⟩:=fX (hw y my) ry;exact ⟨c,_,e,z⟩
 ·obtain ⟨y,my,ry⟩:=hr.of_mem m;obtain ⟨y',Kk,L5⟩:=hr.of_mem m';obtain ⟨_,e,z⟩:=fX (hw y my) ry;obtain ⟨_,e',z'⟩:=fX (hw y' Kk) L5;(injection e with e; subst e); (injection e' with e'; subst e');rw [q.inj z,q'.inj z'];exact F8 y my y' Kk
def tT (hr:Φ.rps h vs r) (hw:∀ x∈r,hO n x=true) (R:ke (cI Φ.fx.g.prog Φ.fx.g.w n h) vs):ir r:=by
 have key:∀ (i:Nat) (hi:i < r.length) (Gp:i < vs.length),zM (cI Φ.fx.g.prog Φ.fx.g.w n h) vs[i]=bQ r[i]:=fun i hi Gp=>by
  obtain ⟨v,ev,rv⟩:=hr.get (Q8 hi);(injection (Q8 Gp).symm.trans ev with Xq; subst Xq);obtain ⟨c,e,k⟩:=fX (hw _ (getElem_mem hi)) rv;unfold zM;rw [e];exact NO (Option.getD · []) (gP k)
 refine pairwise_iff_getElem.mpr fun i j hi hj Go=>?_;have hl:=hr.length;rw [<- key i hi (hl▸hi),<- key j hj (hl▸hj)];exact pairwise_iff_getElem.mp R i j (hl▸hi) (hl▸hj) Go
def qM {fp pos:Pos} {e:Expr} (hx:bW Φ.fx.env.scope.names "sorted"=true) (hp:aq e=true) (h:Ev Φ (eval e Φ.fx.env) d) :
  EvN Φ (eval (.Call (.Name "sorted" fp) [e] [] pos) Φ.fx.env) (fun K=>d fun x=>okK (uB x) fun l=>l.length < 64/\(∃ n,l.all (hO n)=true)/\(∀ x∈l,∀ y∈l,ltK (bQ x) (bQ y)=true)/\∀ r:List V,r.Perm l->ir r->K (.list r)):=fun K s hd I=>
 jN hx rfl (.inl ⟨_,rfl⟩) hp h (fun s v x E I r hx=>ae hx fun l e ⟨q,⟨n,hw⟩,F8,hK⟩=>by
  have hw:∀ x∈l,hO n x=true:=Q6.mp hw;have hz:l.length<=af:=zB1 (le_of_lt q) (by decide);have fin:∀ X vs,Φ.rps s.heap vs l->(∀ (Q:List Value->Shared->Prop) (E:GE),(∀ us h' d tk,us.Perm vs->ao s.heap h'->Q us { s with heap:=h',drawn:=d,toks:=tk })->wpAny (model Φ.fx.g.prog Φ.fx.g.w) Φ.fx.A.in1 (collect X) Q E s)->wpAny (model Φ.fx.g.prog Φ.fx.g.w) Φ.fx.A (call (.builtin "sorted") [X]) (gx Φ s K) E s:=fun X vs hr hc=>by
   refine kH (κ:=cI _ _ n _) (Q0 (Q7 (by decide:2<=100) _) I.room) (bF (by rw [hr.length]; exact hz)) (fun vs p=>((nX hr hw F8).perm p).sorts) hc fun out h2 dr tk2 b e po ro k2 hb My ho=>?_;obtain ⟨R,pR,rR⟩:=RpAll.perm po hr;refine ⟨⟨⟨I.base.stays.trans k2,I.base.os,I.base.gens⟩,k2,.list R,hK R pR (tT rR (fun y q=>hw y (pR.mem_iff.mp q)) (ro (by rw [hr.length]; exact q))),.list (fun q=>?_) ho ⟨rfl,rfl⟩ rfl (rR.keep k2)⟩,My⟩;obtain ⟨o',e'⟩:=I.badLive q;exact al hb e'
  cases x with
  | list m=>
   obtain rfl:=LE e;refine r.list_elim fun a o vs n U ha hc hd hl=>?_;exact fin _ vs.toList hl fun Q E hQ=>collect_list ⟨o,ha,hc.1,n,hd⟩ (hQ _ _ _ _ (.refl _) fun b o e=>(get?_update_other _ _ (Ne.symm (aY e))).trans (am _ _ b o e)) (by rw [hl.length]; exact bF hz)
  | dict FP=>
   refine aU (e:(if dkV FP=true then some (FP.map (·.1)) else none)=some l) fun q' e=>?_;obtain rfl:=LE e;refine r.dict_elim q' fun a o es n hb hm ha hc hd he k1 k2=>?_;exact fin _ _ k1 fun Q E hQ=>lJ I.ok.hand hm ha hc hd (bF (by have:=k1.length; rw [zA4,zB3] at this; rw [this]; exact hz)) fun h' d tk=>hQ _ h' d tk (.refl _)
  | _=>exact nN e.symm) hd I
end
noncomputable def bG (fx:Fx):Sx:=⟨fx.env.scope.names,fx.ρ,fx.nf,fx.ns,fx.nw⟩
def ah (fx:Fx) (p:Pz) (x:Expr) (d:D):Prop:=match p with
 | .val=>∀ oa G,Ev ⟨fx,oa,G⟩ (eval x fx.env) (d G)
 | .test=>∀ oa G,EvT ⟨fx,oa,G⟩ (isTrue x fx.env (eval x fx.env)) (tst (d G))
 | .new=>∀ oa G,EvN ⟨fx,oa,G⟩ (eval x fx.env) (d G)
 | .src st T=>∀ oa G,eI ⟨fx,oa,G⟩ T st x (fun K=>d G fun v=>okK (a9 v) K)
 | .asg y py sp=>∀ k,TgtOk fx.ρ fx.env y k->ExB fx (exec (.Assign [.Name y py] x sp) fx.env) (fun G K=>d G fun v=>K none (G.set k (.v v)))
def dO (g:Gl) (n:Nat) (t:Kid) (d:D):Prop:=∀ fx,fx.g=g->fx.d=n->bG fx=t.1->ah fx t.2.1 t.2.2 d
inductive Kids (g:Gl) (n:Nat):List Kid->List D->Prop
 | nil:Kids g n [] []
 | cons {t:Kid} {ts:List Kid} {d:D} {ds:List D}:dO g n t d->Kids g n ts ds->Kids g n (t :: ts) (d :: ds)
section
variable {g:Gl} {n:Nat} {ds:List D} {C:List D->Prop} {t u w:Kid}
@[elab_as_elim] theorem Kids.n0 (h:Kids g n [] ds) (k:C []):C ds:=by cases h; exact k
@[elab_as_elim] theorem Kids.nc {ts:List Kid} (h:Kids g n (t :: ts) ds) (k:∀ d ds,dO g n t d->Kids g n ts ds->C (d :: ds)):C ds:=by cases h with | cons a b=>exact k _ _ a b
@[elab_as_elim] theorem Kids.n1 (h:Kids g n [t] ds) (k:∀ d,dO g n t d->C [d]):C ds:=h.nc fun d ds a b=>b.n0 (k d a)
@[elab_as_elim] theorem Kids.n2 (h:Kids g n [t,u] ds) (k:∀ d e,dO g n t d->dO g n u e->C [d,e]):C ds:=h.nc fun d ds a b=>b.n1 fun e c=>k d e a c
@[elab_as_elim] theorem Kids.n3 (h:Kids g n [t,u,w] ds) (k:∀ d e f,dO g n t d->dO g n u e->dO g n w f->C [d,e,f]):C ds:=h.nc fun d ds a b=>b.n2 fun e f c q=>k d e f a c q
theorem Kids.pairs:∀ {ds:List D},Kids g n (xs.map fun x=>(X,p,x)) ds->∃ qs:List (Expr×D),qs.map Prod.fst=xs/\qs.map Prod.snd=ds/\∀ q∈qs,dO g n (X,p,q.1) q.2:=by
 induction xs with
 | nil=>intro ds h; exact h.n0 ⟨[],rfl,rfl,fun U m=>nM m⟩
 | cons x xs ih=>
  intro ds h;refine h.nc fun d ds a b=>?_;obtain ⟨qs,e1,e2,hq⟩:=ih b;exact ⟨(x,d) :: qs,NO (x :: ·) e1,NO (d :: ·) e2,fun q m=>by cases m with | head=>exact a | tail _ m=>exact hq q m⟩
end
section
variable {g:Gl} {n:Nat} {ds:List D} {fx:Fx} {xs:List Expr}
theorem Kids.vals (h:Kids g n (xs.map fun x=>(bG fx,.val,x)) ds) (hg:fx.g=g) (hn:fx.d=n):∃ qs:Gs->List (Expr×DV),(∀ G,(qs G).map Prod.fst=xs/\(qs G).map Prod.snd=ds.map (· G))/\∀ oa G,∀ q∈qs G,q.1∈xs/\bu ⟨fx,oa,G⟩ q:=by
 obtain ⟨qs,rfl,rfl,hq⟩:=h.pairs;refine ⟨fun G=>qs.map fun q=>(q.1,q.2 G),fun G=>⟨by rw [map_map]; rfl,by rw [map_map,map_map]; rfl⟩,fun oa G q m=>?_⟩;obtain ⟨q',m',rfl⟩:=zA7 m;exact ⟨mem_map.mpr ⟨q',m',rfl⟩,hq q' m' fx hg hn rfl oa G⟩
theorem Kids.items (h:Kids g n (xs.map fun x=>(bG fx,.val,x)) ds) (hg:fx.g=g) (hn:fx.d=n) (hp:cn xs=true):∃ qs:Gs->List (Expr×DV),(∀ G,(qs G).map Prod.fst=xs/\(qs G).map Prod.snd=ds.map (· G))/\∀ oa G,∀ q∈qs G,aq q.1=true/\bu ⟨fx,oa,G⟩ q:=by
 obtain ⟨qs,h1,h2⟩:=h.vals hg hn;exact ⟨qs,h1,fun oa G q m=>⟨Q6.mp hp _ (h2 oa G q m).1,(h2 oa G q m).2⟩⟩
theorem Kids.tests (h:Kids g n (xs.map fun x=>(bG fx,.test,x)) ds) (hg:fx.g=g) (hn:fx.d=n):∃ qs:Gs->List (Expr×DV),(∀ G,(qs G).map Prod.fst=xs/\(qs G).map Prod.snd=ds.map (· G))/\∀ oa G,∀ q∈qs G,EvT ⟨fx,oa,G⟩ (isTrue q.1 fx.env (eval q.1 fx.env)) (tst q.2):=by
 obtain ⟨qs,rfl,rfl,hq⟩:=h.pairs;refine ⟨fun G=>qs.map fun q=>(q.1,q.2 G),fun G=>⟨by rw [map_map]; rfl,by rw [map_map,map_map]; rfl⟩,fun oa G q m=>?_⟩;obtain ⟨q',m',rfl⟩:=zA7 m;exact hq q' m' fx hg hn rfl oa G
theorem Kids.node {f:List Expr->Expr} {op:List V->(V->Prop)->Prop} (h:Kids g n (xs.map fun x=>(bG fx,.val,x)) ds) (hg:fx.g=g) (hn:fx.d=n) (hp:cn xs=true)
  (k:∀ oa G (qs:List (Expr×DV)),(∀ q∈qs,aq q.1=true/\bu ⟨fx,oa,G⟩ q)->EvC ⟨fx,oa,G⟩ nb (eval (f (qs.map Prod.fst)) fx.env) (fun K=>br (qs.map Prod.snd) fun xs=>op xs K)):∀ oa G,EvC ⟨fx,oa,G⟩ nb (eval (f xs) fx.env) (fun K=>bj ds G fun xs=>op xs K):=fun oa G=>by
 obtain ⟨qs,h1,h2⟩:=h.items hg hn hp;have q:=k oa G (qs G) (h2 oa G);rw [(h1 G).1,(h1 G).2] at q;rw [dX];exact q
end
def bP {f:Str×Pos->Bool} {C:Expr->Prop} (h:(bA x).any f=true) (k:∀ n p,f (n,p)=true->C (.Name n p)):C x:=
 if hi:x.ctorIdx=23 then Expr.Name.elim (motive_1:=fun x=>(bA x).any f=true->C x) x hi (fun n p h=>k n p h) h else by
  unfold bA at h; rw [dif_neg hi] at h; (injection h; done)
def sN {f:List Expr×Nat×Pos->Bool} {C:Expr->Prop} (h:(lQ x).any f=true) (k:∀ xs k p,f (xs,k,p)=true->C (.Tuple xs k p)):C x:=
 if hi:x.ctorIdx=25 then Expr.Tuple.elim (motive_1:=fun x=>(lQ x).any f=true->C x) x hi (fun xs j p h=>k xs j p h) h else by
  unfold lQ at h; rw [dif_neg hi] at h; (injection h; done)
def DC {f:List Expr×Pos->Bool} {C:Expr->Prop} (h:(wQ x).any f=true) (k:∀ xs p,f (xs,p)=true->C (.List xs p)):C x:=
 if hi:x.ctorIdx=24 then Expr.List.elim (motive_1:=fun x=>(wQ x).any f=true->C x) x hi (fun xs p h=>k xs p h) h else by
  unfold wQ at h; rw [dif_neg hi] at h; (injection h; done)
def xt {f:Expr×Expr×Pos->Bool} {C:Expr->Prop} (h:(pS x).any f=true) (k:∀ v s p,f (v,s,p)=true->C (.Subscript v s p)):C x:=
 if hi:x.ctorIdx=21 then Expr.Subscript.elim (motive_1:=fun x=>(pS x).any f=true->C x) x hi (fun v s p h=>k v s p h) h else by
  unfold pS at h; rw [dif_neg hi] at h; (injection h; done)
def FB {f:Option Expr×Option Expr×Option Expr×Pos->Bool} {C:Expr->Prop} (h:(AB x).any f=true) (k:∀ l u st p,f (l,u,st,p)=true->C (.Slice l u st p)):C x:=
 if hi:x.ctorIdx=26 then Expr.Slice.elim (motive_1:=fun x=>(AB x).any f=true->C x) x hi (fun l u st p h=>k l u st p h) h else by
  unfold AB at h; rw [dif_neg hi] at h; (injection h; done)
def yc {f:Expr×List Expr×List Keyword×Pos->Bool} {C:Expr->Prop} (h:(kh x).any f=true) (k:∀ u xs ks p,f (u,xs,ks,p)=true->C (.Call u xs ks p)):C x:=
 if hi:x.ctorIdx=16 then Expr.Call.elim (motive_1:=fun x=>(kh x).any f=true->C x) x hi (fun u xs ks p h=>k u xs ks p h) h else by
  unfold kh at h; rw [dif_neg hi] at h; (injection h; done)
def qv {f:Expr×Str×Pos->Bool} {C:Expr->Prop} (h:(iE x).any f=true) (k:∀ o n q,f (o,n,q)=true->C (.Attribute o n q)):C x:=
 if hi:x.ctorIdx=20 then Expr.Attribute.elim (motive_1:=fun x=>(iE x).any f=true->C x) x hi (fun o n q h=>k o n q h) h else by
  unfold iE at h; rw [dif_neg hi] at h; (injection h; done)
def D5 {f:List (Option Expr)×List Expr×Pos->Bool} {C:Expr->Prop} (h:(uA x).any f=true) (k:∀ ks vs p,f (ks,vs,p)=true->C (.Dict ks vs p)):C x:=
 if hi:x.ctorIdx=6 then Expr.Dict.elim (motive_1:=fun x=>(uA x).any f=true->C x) x hi (fun ks vs p h=>k ks vs p h) h else by
  unfold uA at h; rw [dif_neg hi] at h; (injection h; done)
theorem Ev.evC (h:Ev Φ t d):EvC Φ false t d:=fun K s hd I E=>LT (h K s hd I E) (fun U U p=>⟨p,nofun⟩) fun U U z=>z
@[elab_as_elim] theorem l1 {α:Type} {xs:List α} {f:α->Bool} {C:List α->Prop} (h:(iw xs).any f=true) (k:∀ y,f y=true->C [y]):C xs:=by
 match xs,h with
 | [],h=>(injection h; done)
 | [y],h=>exact k y h
 | _ :: _ :: _,h=>(injection h; done)
@[elab_as_elim] theorem l2 {α:Type} {xs:List α} {f:α×α->Bool} {C:List α->Prop} (h:(two? xs).any f=true) (k:∀ y z,f (y,z)=true->C [y,z]):C xs:=by
 match xs,h with
 | [],h=>(injection h; done)
 | [y],h=>(injection h; done)
 | [y,z],h=>exact k y z h
 | _ :: _ :: _ :: _,h=>(injection h; done)
@[elab_as_elim] theorem ln {α:Type} {xs:List α} {C:List α->Prop} (h:xs.isEmpty=true) (k:C []):C xs:=by
 cases xs with
 | nil=>exact k
 | cons=>(injection h; done)
def a2 (h:(a&&b)=true):a=true/\b=true:=zA2 h
def mS (h:o.any f=true):∃ a,o=some a/\f a=true:=by
 cases o with
 | none=>(injection h; done)
 | some a=>exact ⟨a,rfl,h⟩
def vS (h:A5 x y=true):y=x:=have h:=zA2 h; have h2:=zA2 h.2; (xK 1 x y h.1 h2.1 h2.2).symm
def CJ {f:Const×Nat×Pos->Bool} {C:Expr->Prop} (h:(mY x).any f=true) (k:∀ c k p,f (c,k,p)=true->C (.Constant c k p)):C x:=
 if hi:x.ctorIdx=19 then Expr.Constant.elim (motive_1:=fun x=>(mY x).any f=true->C x) x hi (fun c j p h=>k c j p h) h else by
  unfold mY at h; rw [dif_neg hi] at h; (injection h; done)
def FF {f:Expr×Operator×Expr×Pos->Bool} {C:Expr->Prop} (h:(AF x).any f=true) (k:∀ l o r p,f (l,o,r,p)=true->C (.BinOp l o r p)):C x:=
 if hi:x.ctorIdx=2 then Expr.BinOp.elim (motive_1:=fun x=>(AF x).any f=true->C x) x hi (fun l o r p h=>k l o r p h) h else by
  unfold AF at h; rw [dif_neg hi] at h; (injection h; done)
def E6 {f:Expr×List CmpOp×List Expr×Pos->Bool} {C:Expr->Prop} (h:(yQ x).any f=true) (k:∀ l o r p,f (l,o,r,p)=true->C (.Compare l o r p)):C x:=
 if hi:x.ctorIdx=15 then Expr.Compare.elim (motive_1:=fun x=>(yQ x).any f=true->C x) x hi (fun l o r p h=>k l o r p h) h else by
  unfold yQ at h; rw [dif_neg hi] at h; (injection h; done)
def A8 {f:BoolOp×List Expr×Pos->Bool} {C:Expr->Prop} (h:(pW x).any f=true) (k:∀ o xs p,f (o,xs,p)=true->C (.BoolOp o xs p)):C x:=
 if hi:x.ctorIdx=0 then Expr.BoolOp.elim (motive_1:=fun x=>(pW x).any f=true->C x) x hi (fun o xs p h=>k o xs p h) h else by
  unfold pW at h; rw [dif_neg hi] at h; (injection h; done)
def lUn {f:UnaryOp×Expr×Pos->Bool} {C:Expr->Prop} (h:(vUn x).any f=true) (k:∀ o y p,f (o,y,p)=true->C (.UnaryOp o y p)):C x:=
 if hi:x.ctorIdx=3 then Expr.UnaryOp.elim (motive_1:=fun x=>(vUn x).any f=true->C x) x hi (fun o y p h=>k o y p h) h else by
  unfold vUn at h; rw [dif_neg hi] at h; (injection h; done)
def lIf {f:Expr×Expr×Expr×Pos->Bool} {C:Expr->Prop} (h:(vIf x).any f=true) (k:∀ t y z p,f (t,y,z,p)=true->C (.IfExp t y z p)):C x:=
 if hi:x.ctorIdx=5 then Expr.IfExp.elim (motive_1:=fun x=>(vIf x).any f=true->C x) x hi (fun t y z p h=>k t y z p h) h else by
  unfold vIf at h; rw [dif_neg hi] at h; (injection h; done)
def A7 {f:Expr×List Comprehension×Scope×Pos->Bool} {C:Expr->Prop} (h:(pU x).any f=true) (k:∀ y gs sc p,f (y,gs,sc,p)=true->C (.ListComp y gs sc p)):C x:=
 if hi:x.ctorIdx=8 then Expr.ListComp.elim (motive_1:=fun x=>(pU x).any f=true->C x) x hi (fun y gs sc p h=>k y gs sc p h) h else by
  unfold pU at h; rw [dif_neg hi] at h; (injection h; done)
def q7 {f:List Expr->Bool} {C:Expr->Prop} (h:nCall X nm x f=true) (k:∀ q xs p,bW X.sc nm=true->f xs=true->C (.Call (.Name nm q) xs [] p)):C x:=
 yc (by unfold nCall at h; exact h) fun u xs ks p h=>bP (C:=fun u=>C (.Call u xs ks p)) h fun n q h=>by
  have e:n=nm:=Id (a2 h).1;subst e;exact ln (C:=fun ks=>C (.Call (.Name n q) xs ks p)) (a2 (a2 (a2 h).2).2).1 (k q xs p (a2 (a2 h).2).1 (a2 (a2 (a2 h).2).2).2)
def b9 {f:Expr->Bool} {C:Expr->Prop} (h:dj X nm x f=true) (k:∀ q y p,bW X.sc nm=true->f y=true->C (.Call (.Name nm q) [y] [] p)):C x:=
 q7 h fun q xs p hg h=>l1 (C:=fun xs=>C (.Call (.Name nm q) xs [] p)) h fun y h=>k q y p hg h
def dM {f:Expr->Str->List Expr->Bool} {C:Expr->Prop} (h:mCall x f=true) (k:∀ y nm q xs p,(q.endLine==p.line)=true->f y nm xs=true->C (.Call (.Attribute y nm q) xs [] p)):C x:=
 yc (by unfold mCall at h; exact h) fun u xs ks p h=>qv (C:=fun u=>C (.Call u xs ks p)) h fun y nm q h=>ln (C:=fun ks=>C (.Call (.Attribute y nm q) xs ks p)) (a2 h).1 (k y nm q xs p (a2 (a2 h).2).1 (a2 (a2 h).2).2)
def zx {k:List Kid->Bool} {C:Expr->Prop} (h:xp X k nm x=true) (f:∀ y q e p,(q.endLine==p.line)=true->bR y=true->aq e=true->k [(X,.val,y),(X,.val,e)]=true->C (.Call (.Attribute y nm q) [e] [] p)):C x:=
 dM h fun y n q xs p hl h=>by
  have e:n=nm:=Id (a2 h).1;subst e;exact l1 (C:=fun xs=>C (.Call (.Attribute y n q) xs [] p)) (a2 (a2 h).2).2 fun z hz=>f y q z p hl (a2 (a2 h).2).1 (a2 hz).1 (a2 hz).2
def rN (hk:fx.env.scope.kind=.function):bG (az fx scope C x x' Y)=(bG fx).comp scope x x':=by
 unfold Sx.comp bG;have:(az fx scope C x x' Y).env.scope.names=hM fx.env.scope.names scope.names:=cO hk;rw [this];rfl
def eH (ok:FxOk fx) (h:jl (bG fx) scope x x'=true):CompOk fx scope x x':=by
 obtain ⟨h1,h⟩:=a2 h;obtain ⟨h2,h⟩:=a2 h;obtain ⟨h3,h⟩:=a2 h;obtain ⟨h5,h⟩:=a2 h;obtain ⟨h6,h⟩:=a2 h;obtain ⟨h7,h8⟩:=a2 h;have h5:=Q6.mp h5;have h6:=Q6.mp h6;have h7:=Q6.mp h7;have fr:∀ n,(n,NameKind.free)∈scope.names->(fx.env.kindOf n=some .cell\/fx.env.kindOf n=some .free)/\∃ k,fx.ρ.lookup n=some k:=fun n hn=>by
  rcases (or_eq_true _ _).mp (h7 _ hn) with q | q
  ·exact absurd rfl (bne_iff_ne.mp q)
  ·obtain ⟨q1,q2⟩:=a2 q;exact ⟨((or_eq_true _ _).mp q1).imp Id Id,isSome_iff_exists.mp q2⟩
 refine ⟨Id h1,Id h2,Id h3,fun y hy=>bne_iff_ne.mp (h5 y hy),fun y hy hl=>((or_eq_true _ _).mp (h6 y hy)).elim (fun q=>absurd hl (bne_iff_ne.mp q)) Id,fun n hn=>(fr n hn).1,fun n hn=>?_,IO h8⟩;obtain ⟨q,k,hk⟩:=fr n hn;rcases ok.vis n k hk with ⟨z,_⟩ | ⟨_,c,hc,_⟩
 ·rcases q with q | q <;> rw [z] at q <;> cases q
 ·exact ⟨c,hc⟩
def q9 {k:List Expr->Bool} {C:Expr->Prop} (h:cCall Z X f x k=true) (h':∀ n q xs p,Z.fns.lookup n=some f->bW X.sc n=true->k xs=true->C (.Call (.Name n q) xs [] p)):C x:=
 yc (by unfold cCall at h; exact h) fun u xs ks p h=>bP (C:=fun u=>C (.Call u xs ks p)) h fun n q h=>by
  obtain ⟨h1,h⟩:=a2 h;obtain ⟨h2,h⟩:=a2 h;exact ln (C:=fun ks=>C (.Call (.Name n q) xs ks p)) (a2 h).1 (h' n q xs p (Id h1) h2 (a2 h).2)
structure GOk (g:Gl) (Z:Zx):Prop where
 fns:g.fns=Z.fns
 cons:g.cons=Z.cons
 newf:g.newf=Z.newf
 flds:∀ c l,Z.flds[c]?=some l->g.flds c=l/\ClsOk g c
 keep:∀ x f,Z.fns.lookup x=some f->keepIn g.K (.ref (g.fn f))=true
 meths:∀ c nm f,(c,nm,f)∈Z.meths->ClsOk g c/\MetOk g c nm f
theorem GOk.fld (H:GOk g Z) (h:qD Z c j nm=true):ClsOk g c/\(g.flds c)[j]?=some nm:=by
 obtain ⟨l,e1,e2⟩:=mS h;obtain ⟨q1,q2⟩:=H.flds c l e1;exact ⟨q2,q1▸Id e2⟩
theorem GOk.met (H:GOk g Z) (h:qt Z c f nm=true):ClsOk g c/\MetOk g c nm f:=by
 obtain ⟨⟨c',nm',f'⟩,m,q⟩:=any_eq_true.mp h;obtain ⟨q1,q⟩:=a2 q;obtain ⟨q2,q3⟩:=a2 q;obtain rfl:=Id q1;obtain rfl:=Id q2;obtain rfl:=Id q3;exact H.meths _ _ _ m
section
variable {g:Gl} {n:Nat} {Z:Zx} {o:Op} {k:List Kid->Bool} {ds:List D} {fx:Fx} {x:Expr}
def a2e {a b:Bool} {C:Prop} (h:(a&&b)=true) (k:a=true->b=true->C):C:=k (a2 h).1 (a2 h).2
def zg {α β:Type} {o:Option α} {f:α->β} {K:β->Prop}:okK (o.map f) K=okK o fun a=>K (f a):=by cases o <;> rfl
def EI (h:FxOk Φ.fx->Ev Φ t d):Ev Φ t d:=fun K s hd I=>h I.ok K s hd I
def qw (h:Kids fx.g fx.d (ifs.map fun x=>(bG fx,.test,x)) ts):∀ oa G,EvT ⟨fx,oa,G⟩ (dI ifs fx.env) (cp true ts G):=fun oa G=>by
 obtain ⟨qs,h1,h2⟩:=h.tests rfl rfl;have q:=oC (Φ:=⟨fx,oa,G⟩) (h2 oa G);rw [(h1 G).1,(h1 G).2,<- gV] at q;exact q
theorem fE:∀ xs:List Expr,evalEach xs env=xs.map fun x=>eval x env
 | []=>rfl
 | x :: r=>NO (eval x env :: ·) (fE r)
def lq (Gc:(!xs.isEmpty)=true) (h:Kids fx.g fx.d (xs.map fun x=>(bG fx,.val,x)) ds):∀ oa G,Ev ⟨fx,oa,G⟩ (eval (.BoolOp (bop b) xs p) fx.env) (fun K=>cp b ds G fun c=>K (.bool c)):=fun oa G=>by
 obtain ⟨qs,h1,h2⟩:=h.vals rfl rfl;have q:=pu (Φ:=⟨fx,oa,G⟩) (b:=b) (pos:=p) (fun q m=>(h2 oa G q m).2) fun e=>by have:=(h1 G).1; rw [e] at this; rw [<- this] at Gc; (injection Gc; done)
 rw [show (qs G).map (fun q=>eval q.1 fx.env)=xs.map fun x=>eval x fx.env by rw [<- (h1 G).1,map_map]; rfl,(h1 G).2,<- gV] at q;have e:eval (.BoolOp (bop b) xs p) fx.env=boolOp p (bop b) (xs.map fun x=>eval x fx.env):=by
  rw [arm_eval_BoolOp,fE]
 rw [e];exact q
def CZ (h:FxOk fx->ExB fx t Y):ExB fx t Y:=fun oa G K s hd I=>h I.ok oa G K s hd I
def jt (h:Kids fx.g fx.d (xs.map fun x=>(bG fx,.test,x)) ds):∀ oa G,EvT ⟨fx,oa,G⟩ (isTrue (.BoolOp (bop b) xs p) fx.env w) (cp b ds G):=fun oa G=>by
 obtain ⟨qs,h1,h2⟩:=h.tests rfl rfl;have q:=oD (Φ:=⟨fx,oa,G⟩) (b:=b) (h2 oa G);rw [(h1 G).1,(h1 G).2,<- gV] at q;exact q
def Vt (p:Pz):Prop:=p=.val\/p=.test
def gp (hp:Vt p) (h:ah fx .val x d) (e:isTrue x fx.env (eval x fx.env)=(do let v <- eval x fx.env; standAt x.pos; holding [v] (truthy v))):ah fx p x d:=by
 rcases hp with rfl | rfl
 ·exact h
 ·exact fun oa G=>Aj (h oa G) e
def yE (fx:Fx) (b:Gs->V->Option Gs) (e:Expr) (ds:List D):Prop:=(∀ oa G,Ev ⟨fx,oa,G⟩ (eval e fx.env) (uK b ds G))/\∀ y py sp k,TgtOk fx.ρ fx.env y k->ExB fx (exec (.Assign [.Name y py] e sp) fx.env) (fun G K=>uK b ds G fun v=>K none (G.set k (.v v)))
def tm {b:Gs->V->Option Gs} {Gb it T:Expr} {ifs:List Expr} {scope:Scope} {p:Pos} {m m':Str} (hT:FxOk fx->∀ oa G,nS ⟨fx,oa,G⟩ scope T m m' b) (h1:jl (bG fx) scope m m'=true) (h3:bw it=true) (hk:Kids fx.g fx.d ((bG fx,.src false T,it) :: ((bG fx).comp scope m m',.val,Gb) :: ifs.map fun x=>((bG fx).comp scope m m',.test,x)) ds) :
  yE fx b (.ListComp Gb [⟨T,it,ifs,0⟩] scope p) ds:=by
 refine hk.nc (C:=fun ds=>yE fx b (.ListComp Gb [⟨T,it,ifs,0⟩] scope p) ds) fun ds1 dr a b'=>b'.nc (C:=fun dr=>yE fx b (.ListComp Gb [⟨T,it,ifs,0⟩] scope p) (ds1 :: dr)) fun de ts b' c=>?_;have he:FxOk fx->∀ C Y oa G,Ev ⟨az fx scope C m m' Y,oa,G⟩ (eval Gb (az fx scope C m m' Y).env) (de G):=fun ok C Y oa G=>b' (az fx scope C m m' Y) rfl rfl (rN ok.kind) oa G;have ht:FxOk fx->∀ C Y oa G,EvT ⟨az fx scope C m m' Y,oa,G⟩ (dI ifs (az fx scope C m m' Y).env) (cp true ts G):=fun ok C Y oa G=>qw (fx:=az fx scope C m m' Y) (by rw [rN ok.kind]; exact c) oa G;exact ⟨fun oa G=>EI fun ok=>ta (Φ:=⟨fx,oa,G⟩) (eH ok h1) (hT ok oa G) h3 (a fx rfl rfl rfl oa G) (he ok) (ht ok),fun y py sp k hy=>CZ fun ok=>iA (py:=py) (eH ok h1) (hT ok) h3 (a fx rfl rfl rfl) (he ok) (ht ok) hy⟩
def tj {j:Nat} (hk:∀ ts,k ts=true->Kids fx.g fx.d ts ds) (h:mO Z (.comp j) k (bG fx) .val x=true):(ah fx .val x (bx (aj fx.g.P fx.d) (.comp j) ds)/\isTrue x fx.env (eval x fx.env)=(do let v <- eval x fx.env; standAt x.pos; holding [v] (truthy v)))/\∀ y py sp,ah fx (.asg y py sp) x (bx (aj fx.g.P fx.d) (.comp j) ds):=by
 refine A7 (C:=fun x=>(ah fx .val x _/\isTrue x fx.env (eval x fx.env)=(do let v <- eval x fx.env; standAt x.pos; holding [v] (truthy v)))/\∀ y py sp,ah fx (.asg y py sp) x _) h fun Gb gs scope p h=>l1 (C:=fun gs=>(ah fx .val (.ListComp Gb gs scope p) _/\isTrue (.ListComp Gb gs scope p) fx.env _=_)/\∀ y py sp,ah fx (.asg y py sp) (.ListComp Gb gs scope p) _) h fun c h=>?_;obtain ⟨T,it,ifs,M8⟩:=c;refine a2e h fun e h=>?_;obtain rfl:M8=0:=Id e;refine bP (C:=fun T=>(ah fx .val (.ListComp Gb [⟨T,it,ifs,0⟩] scope p) _/\_=_)/\∀ y py sp,ah fx (.asg y py sp) (.ListComp Gb [⟨T,it,ifs,0⟩] scope p) _) h fun m pm h=>a2e h fun h1 h=>a2e h fun e h=>a2e h fun h3 hh=>?_;obtain rfl:=Id e;have q:=tm (b:=jZ fx.nf) (p:=p) (fun ok oa G=>Dg (Φ:=⟨fx,oa,G⟩) (eH ok h1)) h1 h3 (hk _ hh);exact ⟨⟨q.1,rfl⟩,q.2⟩
def pF {js:List Nat} (hk:∀ ts,k ts=true->Kids fx.g fx.d ts ds) (h:mO Z (.compM js) k (bG fx) .val x=true):(ah fx .val x (bx (aj fx.g.P fx.d) (.compM js) ds)/\isTrue x fx.env (eval x fx.env)=(do let v <- eval x fx.env; standAt x.pos; holding [v] (truthy v)))/\∀ y py sp,ah fx (.asg y py sp) x (bx (aj fx.g.P fx.d) (.compM js) ds):=by
 refine A7 (C:=fun x=>(ah fx .val x _/\isTrue x fx.env (eval x fx.env)=(do let v <- eval x fx.env; standAt x.pos; holding [v] (truthy v)))/\∀ y py sp,ah fx (.asg y py sp) x _) h fun Gb gs scope p h=>l1 (C:=fun gs=>(ah fx .val (.ListComp Gb gs scope p) _/\isTrue (.ListComp Gb gs scope p) fx.env _=_)/\∀ y py sp,ah fx (.asg y py sp) (.ListComp Gb gs scope p) _) h fun c h=>?_;obtain ⟨T,it,ifs,M8⟩:=c;refine a2e h fun e h=>?_;obtain rfl:M8=0:=Id e;refine sN (C:=fun T=>(ah fx .val (.ListComp Gb [⟨T,it,ifs,0⟩] scope p) _/\_=_)/\∀ y py sp,ah fx (.asg y py sp) (.ListComp Gb [⟨T,it,ifs,0⟩] scope p) _) h fun es kk tp h=>l2 (C:=fun es=>(ah fx .val (.ListComp Gb [⟨.Tuple es kk tp,it,ifs,0⟩] scope p) _/\_=_)/\∀ y py sp,ah fx (.asg y py sp) (.ListComp Gb [⟨.Tuple es kk tp,it,ifs,0⟩] scope p) _) h fun e1 e2 h=>?_;refine bP (C:=fun e1=>(ah fx .val (.ListComp Gb [⟨.Tuple [e1,e2] kk tp,it,ifs,0⟩] scope p) _/\_=_)/\∀ y py sp,ah fx (.asg y py sp) (.ListComp Gb [⟨.Tuple [e1,e2] kk tp,it,ifs,0⟩] scope p) _) h fun m pm h=>bP (C:=fun e2=>(ah fx .val (.ListComp Gb [⟨.Tuple [.Name m pm,e2] kk tp,it,ifs,0⟩] scope p) _/\_=_)/\∀ y py sp,ah fx (.asg y py sp) (.ListComp Gb [⟨.Tuple [.Name m pm,e2] kk tp,it,ifs,0⟩] scope p) _) h fun m' pm' h=>a2e h fun h1 h=>a2e h fun Gc h=>a2e h fun e h=>a2e h fun h3 hh=>?_;obtain rfl:=Id e;have Gc:m'≠m:=fun q=>by subst q; rw [NJ] at Gc; (injection Gc; done)
 have q:=tm (b:=aJ [fx.nf,fx.nf+1]) (p:=p) (fun ok oa G=>Df (Φ:=⟨fx,oa,G⟩) (eH ok h1) Gc ok.offs) h1 h3 (hk _ hh);exact ⟨⟨q.1,rfl⟩,q.2⟩
def DW (hk:∀ ts,k ts=true->Kids fx.g fx.d ts ds) (hn:EY o=true) (h:mO Z o k (bG fx) .val x=true) :
  ah fx .new x (bx (aj fx.g.P fx.d) o ds):=by
 cases o with
 | listOf=>exact b9 (C:=fun x=>ah fx .new x _) h fun q y r hx h=>(hk _ (a2 h).2).n1 (C:=fun ds=>ah fx .new _ (bx _ .listOf ds)) fun d a oa G=>lj (Φ:=⟨fx,oa,G⟩) (d:=d G) hx (a2 h).1 (a fx rfl rfl rfl oa G)
 | _=>(injection hn; done)
def zE {C:Expr->Prop} (h:nt X i y=true) (k:∀ m p,X.ρ.lookup m=some i->aP m=true->C (.Name m p)):C y:=
 bP (C:=C) h fun m p h=>k m p (Id (a2 h).1) (a2 h).2
def few (h:DG xs=true):cn xs=true/\xs.length < 30:=⟨(a2 h).1,IO (a2 h).2⟩
def uz {p:Pz} (H:GOk fx.g Z) (hp:Vt p) (hk:∀ ts,k ts=true->Kids fx.g fx.d ts ds) (h:mO Z o k (bG fx) p x=true):ah fx p x (bx (aj fx.g.P fx.d) o ds):=by
 cases o with
 | lit v=>
  refine ((or_eq_true _ _).mp h).elim (fun h=>CJ (C:=fun x=>ah fx p x _) h fun c j q h=>gp hp (fun oa G=>C7 (a2 h).1) rfl) fun h=>bP (C:=fun x=>ah fx p x _) h fun m q h=>a2e h fun hx h=>a2e h fun e h=>?_;obtain ⟨y,e1,e2⟩:=mS e;obtain rfl:=vS e2;exact gp hp (fun oa G=>ww hx (H.cons▸e1)) rfl
 | var j=>exact bP (C:=fun x=>ah fx p x _) h fun m q h=>a2e h fun e h=>gp hp (fun oa G=>C3 (Id e) (a2 h).1) rfl
 | bin op=>
  refine FF (C:=fun x=>ah fx p x _) h fun l op' r q h=>a2e h fun e hh=>?_;obtain rfl:=IO e;exact gp hp ((hk _ hh).n2 (C:=fun ds=>ah fx .val _ (bx _ (.bin op) ds)) fun d e a b oa G=>Dc (d1:=d G) (d2:=e G) (a fx rfl rfl rfl oa G) (b fx rfl rfl rfl oa G)) rfl
 | cmp c=>
  refine E6 (C:=fun x=>ah fx p x _) h fun l ops rs q h=>l1 (C:=fun ops=>ah fx p (.Compare l ops rs q) _) h fun c' h=>a2e h fun e hh=>?_;obtain rfl:=IO e;refine l1 (C:=fun rs=>ah fx p (.Compare l _ rs q) _) hh fun r h=>a2e h fun hs h=>(hk _ h).n2 (C:=fun ds=>ah fx p _ (bx _ (.cmp c) ds)) fun d e a b=>?_;rcases hp with rfl | rfl
  ·exact fun oa G=>xI (d1:=d G) (d2:=e G) hs (a fx rfl rfl rfl oa G) (b fx rfl rfl rfl oa G)
  ·exact fun oa G=>u0 (d1:=d G) (d2:=e G) hs (a fx rfl rfl rfl oa G) (b fx rfl rfl rfl oa G)
 | chain=>
  refine E6 (C:=fun x=>ah fx p x _) h fun l ops rs q h=>l2 (C:=fun ops=>ah fx p (.Compare l ops rs q) _) h fun c c' h=>a2e h fun e h=>a2e h fun e' hh=>?_;obtain rfl:=IO e;obtain rfl:=IO e';refine l2 (C:=fun rs=>ah fx p (.Compare l _ rs q) _) hh fun r r' h=>a2e h fun hs h=>(hk _ h).n3 (C:=fun ds=>ah fx p _ (bx _ .chain ds)) fun d e f a b c=>?_;rcases hp with rfl | rfl
  ·exact fun oa G=>wx (d1:=d G) (d2:=e G) (d3:=f G) hs (a fx rfl rfl rfl oa G) (b fx rfl rfl rfl oa G) (c fx rfl rfl rfl oa G)
  ·exact fun oa G=>pY (d1:=d G) (d2:=e G) (d3:=f G) hs (a fx rfl rfl rfl oa G) (b fx rfl rfl rfl oa G) (c fx rfl rfl rfl oa G)
 | and=>
  refine A8 (C:=fun x=>ah fx p x _) h fun b xs q h=>a2e h fun e h=>a2e h fun hn hh=>?_;obtain rfl:=IO e;rcases hp with rfl | rfl
  ·exact lq (b:=true) hn (hk _ hh)
  ·exact jt (b:=true) (hk _ hh)
 | or=>
  refine A8 (C:=fun x=>ah fx p x _) h fun b xs q h=>a2e h fun e h=>a2e h fun hn hh=>?_;obtain rfl:=IO e;rcases hp with rfl | rfl
  ·exact lq (b:=false) hn (hk _ hh)
  ·exact jt (b:=false) (hk _ hh)
 | not=>
  refine lUn (C:=fun x=>ah fx p x _) h fun u y q h=>a2e h fun e hh=>?_;obtain rfl:=IO e;refine (hk _ hh).n1 (C:=fun ds=>ah fx p _ (bx _ .not ds)) fun d a=>?_;rcases hp with rfl | rfl
  ·exact fun oa G=>C5 (d:=d G) (a fx rfl rfl rfl oa G)
  ·exact fun oa G=>uY (d:=d G) (a fx rfl rfl rfl oa G)
 | neg=>
  refine lUn (C:=fun x=>ah fx p x _) h fun u y q h=>a2e h fun e hh=>?_;obtain rfl:=IO e;exact gp hp ((hk _ hh).n1 (C:=fun ds=>ah fx .val _ (bx _ .neg ds)) fun d a oa G=>C6 (d:=d G) (a fx rfl rfl rfl oa G)) rfl
 | ite=>
  refine lIf (C:=fun x=>ah fx p x _) h fun c a b q h=>a2e h fun i h=>(hk _ h).n3 (C:=fun ds=>ah fx p _ (bx _ .ite ds)) fun d e f a b c=>?_;rcases hp with rfl | rfl
  ·exact fun oa G=>C9 (d1:=d G) (d2:=e G) (d3:=f G) (a fx rfl rfl rfl oa G) (b fx rfl rfl rfl oa G) (c fx rfl rfl rfl oa G)
  ·(injection i; done)
 | tupleOf=>exact b9 (C:=fun x=>ah fx p x _) h fun q y r hx h=>gp hp ((hk _ (a2 h).2).n1 (C:=fun ds=>ah fx .val _ (bx _ .tupleOf ds)) fun d a oa G=>qL (Φ:=⟨fx,oa,G⟩) (d:=d G) hx (a2 h).1 (a fx rfl rfl rfl oa G)) rfl
 | compM js=>exact (pF (Z:=Z) hk h).1.elim fun a b=>gp hp a b
 | tuple=>exact sN (C:=fun x=>ah fx p x _) h fun xs j q h=>a2e h fun hl h=>gp hp (fun oa G=>((hk _ h).node (nb:=_) (f:=fun xs=>.Tuple xs j q) (op:=fun xs K=>okK (opN .tuple xs) K) rfl rfl hl (fun oa G qs hq=>wu hq) oa G).ev) rfl
 | list=>exact DC (C:=fun x=>ah fx p x _) h fun xs q h=>a2e h fun hl h=>gp hp (fun oa G=>((hk _ h).node (nb:=false) (f:=fun xs=>.List xs q) (op:=fun xs K=>okK (opN .list xs) K) rfl rfl hl (fun oa G qs hq=>(An hq).evC) oa G).ev) rfl
 | sub=>exact xt (C:=fun x=>ah fx p x _) h fun v s q h=>gp hp ((hk _ h).n2 (C:=fun ds=>ah fx .val _ (bx _ .sub ds)) fun d e a b oa G=>C4 (d1:=d G) (d2:=e G) (a fx rfl rfl rfl oa G) (b fx rfl rfl rfl oa G)) rfl
 | slice bl bh=>
  refine xt (C:=fun x=>ah fx p x _) h fun v s q h=>FB (C:=fun s=>ah fx p (.Subscript v s q) _) h fun lo hi st q' h=>a2e h fun e0 h=>a2e h fun e1 h=>a2e h fun e2 hh=>?_;obtain rfl:=Id e1;obtain rfl:=Id e2;obtain rfl:st=none:=isNone_iff_eq_none.mp e0;refine gp hp ?_ rfl;cases lo with
  | none=>cases hi with
   | none=>exact (hk _ hh).n1 (C:=fun ds=>ah fx .val _ (bx _ (.slice false false) ds)) fun d a oa G=>gj (d1:=d G) (a fx rfl rfl rfl oa G) jh jh
   | some e'=>exact (hk _ hh).n2 (C:=fun ds=>ah fx .val _ (bx _ (.slice false true) ds)) fun d e a b oa G=>gj (d1:=d G) (a fx rfl rfl rfl oa G) jh (jg (d:=e G) (b fx rfl rfl rfl oa G))
  | some e'=>cases hi with
   | none=>exact (hk _ hh).n2 (C:=fun ds=>ah fx .val _ (bx _ (.slice true false) ds)) fun d e a b oa G=>gj (d1:=d G) (a fx rfl rfl rfl oa G) (jg (d:=e G) (b fx rfl rfl rfl oa G)) jh
   | some e'=>exact (hk _ hh).n3 (C:=fun ds=>ah fx .val _ (bx _ (.slice true true) ds)) fun d e f a b c oa G=>gj (d1:=d G) (a fx rfl rfl rfl oa G) (jg (d:=e G) (b fx rfl rfl rfl oa G)) (jg (d:=f G) (c fx rfl rfl rfl oa G))
 | attr c j=>exact qv (C:=fun x=>ah fx p x _) h fun y nm q h=>a2e h fun hs h=>a2e h fun e h=>gp hp ((hk _ h).n1 (C:=fun ds=>ah fx .val _ (bx _ (.attr c j) ds)) fun d a oa G=>Aq (Φ:=⟨fx,oa,G⟩) (d:=d G) (H.fld e).1 hs (H.fld e).2 (a fx rfl rfl rfl oa G)) rfl
 | comp j=>exact (tj (Z:=Z) hk h).1.elim fun a b=>gp hp a b
 | isinst t=>
  refine q7 (C:=fun x=>ah fx p x _) h fun q xs r hx h=>l2 (C:=fun xs=>ah fx p (.Call _ xs [] r) _) h fun y z h=>a2e h fun hl h=>bP (C:=fun z=>ah fx p (.Call _ [y,z] [] r) _) h fun T pT h=>a2e h fun hT h=>a2e h fun ht hh=>?_;obtain ⟨T',e1,e2⟩:=mS ht;have e2:T=ofString T':=Id e2;subst e2;refine gp hp ((hk _ hh).n1 (C:=fun ds=>ah fx .val _ (bx _ (.isinst t) ds)) fun d a oa G=>?_) rfl;have z:=Db (Φ:=⟨fx,oa,G⟩) (fp:=q) (pos:=r) (pT:=pT) (q:=(y,d G)) e1 hx hT hl (a fx rfl rfl rfl oa G);have e:(fun K=>d G fun x=>okK (isT x t) fun b=>K (.bool b))=bx (aj fx.g.P fx.d) (.isinst t) [d] G:=funext fun K=>NO (d G) (funext fun x=>zg.symm);exact e▸z
 | len=>exact b9 (C:=fun x=>ah fx p x _) h fun q y r hx h=>gp hp ((hk _ (a2 h).2).n1 (C:=fun ds=>ah fx .val _ (bx _ .len ds)) fun d a oa G=>C8 (q:=(y,d G)) hx ⟨(a2 h).1,a fx rfl rfl rfl oa G⟩) rfl
 | lenSet=>
  exact b9 (C:=fun x=>ah fx p x _) h fun q y r hx h=>gp hp (b9 (C:=fun y=>ah fx .val (.Call _ [y] [] r) _) h fun p1 z p2 hs h=>(hk _ (a2 h).2).n1 (C:=fun ds=>ah fx .val _ (bx _ .lenSet ds)) fun d a oa G=>uo (Φ:=⟨fx,oa,G⟩) (d:=d G) hx hs (a2 h).1 (a fx rfl rfl rfl oa G)) rfl
 | listOf=>exact b9 (C:=fun x=>ah fx p x _) h fun q y r hx h=>gp hp ((hk _ (a2 h).2).n1 (C:=fun ds=>ah fx .val _ (bx _ .listOf ds)) fun d a oa G=>(lj (Φ:=⟨fx,oa,G⟩) (d:=d G) hx (a2 h).1 (a fx rfl rfl rfl oa G)).ev) rfl
 | sorted=>exact b9 (C:=fun x=>ah fx p x _) h fun q y r hx h=>gp hp ((hk _ (a2 h).2).n1 (C:=fun ds=>ah fx .val _ (bx _ .sorted ds)) fun d a oa G=>(un (Φ:=⟨fx,oa,G⟩) (d:=d G) hx (a2 h).1 (a fx rfl rfl rfl oa G)).ev) rfl
 | sortedP=>exact b9 (C:=fun x=>ah fx p x _) h fun q y r hx h=>gp hp ((hk _ (a2 h).2).n1 (C:=fun ds=>ah fx .val _ (bx _ .sortedP ds)) fun d a oa G=>(qM (Φ:=⟨fx,oa,G⟩) (d:=d G) hx (a2 h).1 (a fx rfl rfl rfl oa G)).ev) rfl
 | sortedSet=>exact b9 (C:=fun x=>ah fx p x _) h fun q y r hx h=>gp hp (b9 (C:=fun y=>ah fx .val (.Call _ [y] [] r) _) h fun p1 z p2 hs h=>(hk _ (a2 h).2).n1 (C:=fun ds=>ah fx .val _ (bx _ .sortedSet ds)) fun d a oa G=>(lH (Φ:=⟨fx,oa,G⟩) (d:=d G) hx hs (a2 h).1 (a fx rfl rfl rfl oa G)).ev) rfl
 | call f=>exact q9 (C:=fun x=>ah fx p x _) h fun n q xs r hf hx h=>gp hp (fun oa G=>((hk _ (a2 h).2).node (nb:=fx.g.newf f) (f:=fun xs=>.Call (.Name n q) xs [] r) (op:=fun xs K=>(aj fx.g.P fx.d).p f xs K) rfl rfl (a2 h).1 (fun oa G qs hq=>tc (Φ:=⟨fx,oa,G⟩) hx (H.fns▸hf) (H.keep _ _ hf) hq) oa G).ev) rfl
 | peek=>
  refine (hk _ h).n1 (C:=fun ds=>ah fx p x (bx _ .peek ds)) fun d a=>?_;rcases hp with rfl | rfl
  ·exact Ak (a fx rfl rfl rfl)
  ·exact tE (a fx rfl rfl rfl)
 | peekN=>
  refine a2e h fun i h=>(hk _ h).n1 (C:=fun ds=>ah fx p x (bx _ .peekN ds)) fun d a=>?_;rcases hp with rfl | rfl
  ·exact wv (a fx rfl rfl rfl)
  ·(injection i; done)
 | getD=>
  refine dM (C:=fun x=>ah fx p x _) h fun y nm q xs r hl h=>a2e h fun e h=>a2e h fun hs h=>l2 (C:=fun xs=>ah fx p (.Call _ xs [] r) _) h fun e1 e2 h=>a2e h fun h1 h=>a2e h fun h2 hh=>?_;obtain rfl:nm="get":=Id e;exact gp hp ((hk _ hh).n3 (C:=fun ds=>ah fx .val _ (bx _ .getD ds)) fun d e f a b c oa G=>Ap (Φ:=⟨fx,oa,G⟩) (d1:=d G) (d2:=e G) (d3:=f G) hs h1 h2 hl (a fx rfl rfl rfl oa G) (b fx rfl rfl rfl oa G) (c fx rfl rfl rfl oa G)) rfl
 | meth c f=>
  refine dM (C:=fun x=>ah fx p x _) h fun y nm q xs r hl h=>a2e h fun hs h=>a2e h fun hm h=>a2e h fun hf h=>gp hp ((hk _ h).nc (C:=fun ds=>ah fx .val _ (bx _ (.meth c f) ds)) fun d IL a b oa G=>?_) rfl;obtain ⟨qs,h1,h2⟩:=b.items rfl rfl (few hf).1;have z:=Al (Φ:=⟨fx,oa,G⟩) (pos:=r) (d:=d G) (H.met hm).1 (H.met hm).2 hs hl (h1 G).1 (few hf).2 (h2 oa G) (a fx rfl rfl rfl oa G);rw [(h1 G).2] at z;simp only [<- dX] at z;exact z
 | join=>exact zx (C:=fun x=>ah fx p x _) h fun y q e r hl hs he h=>gp hp ((hk _ h).n2 (C:=fun ds=>ah fx .val _ (bx _ .join ds)) fun d e a b oa G=>Ao (d1:=d G) (d2:=e G) hs he hl (a fx rfl rfl rfl oa G) (b fx rfl rfl rfl oa G)) rfl
 | _=>(injection h; done)
end
section
variable {g:Gl} {n:Nat} {Z:Zx} {o:Op} {k:List Kid->Bool} {ds:List D} {fx:Fx} {x:Expr}
def tq {st:Bool} {op:List V->Option V} (h:DI k (bG fx) f x=true) (hk:∀ ts,k ts=true->Kids fx.g fx.d ts ds)
  (hs:∀ oa G fp pos (qs:List (Expr×DV)),bW fx.env.scope.names f=true->(∀ q∈qs,aq q.1=true/\bu ⟨fx,oa,G⟩ q)->eI ⟨fx,oa,G⟩ T st (.Call (.Name f fp) (qs.map Prod.fst) [] pos) (fun K=>br (qs.map Prod.snd) fun xs=>okK (op xs) fun z=>okK (a9 z) K)) :
  ∀ oa G,eI ⟨fx,oa,G⟩ T st x (fun K=>bj ds G fun xs=>okK (op xs) fun z=>okK (a9 z) K):=by
 refine q7 (C:=fun x=>∀ oa G,eI ⟨fx,oa,G⟩ T st x (fun K=>bj ds G fun xs=>okK (op xs) fun z=>okK (a9 z) K)) h fun q xs p hg h oa G=>?_;obtain ⟨qs,h1,h2⟩:=(hk _ (a2 h).2).items rfl rfl (a2 h).1;have z:=hs oa G q p (qs G) hg (h2 oa G);rw [(h1 G).1,(h1 G).2,<- dX] at z;exact z
def Dn (H:GOk fx.g Z) (hk:∀ ts,k ts=true->Kids fx.g fx.d ts ds) (h:BF Z o k (bG fx) x=true):ah fx (.asg y py sp) x (bx (aj fx.g.P fx.d) o ds):=by
 refine ((or_eq_true _ _).mp h).elim (fun h=>a2e h fun hn h k hT=>li (bg hn) hT (uz H (.inl rfl) hk h)) fun h=>a2e h fun hc h=>?_;cases o with
 | comp j=>exact (tj (Z:=Z) hk h).2 y py sp
 | compM j=>exact (pF (Z:=Z) hk h).2 y py sp
 | _=>(injection hc; done)
def B7 {st:Bool} (H:GOk fx.g Z) (hk:∀ ts,k ts=true->Kids fx.g fx.d ts ds) (h:BE Z o k (bG fx) (.src st T) x=true):ah fx (.src st T) x (bx (aj fx.g.P fx.d) o ds):=by
 have go:mO Z o k (bG fx) .val x=true->ah fx (.src st T) x (bx (aj fx.g.P fx.d) o ds):=fun h oa G=>DP (Φ:=⟨fx,oa,G⟩) (uz H (.inl rfl) hk h oa G);cases o with
 | range=>exact tq (op:=opN .range) h hk fun oa G fp pos qs hg hq=>tI (Φ:=⟨fx,oa,G⟩) hg hq
 | own j=>
  refine a2e h fun GY h=>bP (C:=fun x=>ah fx (.src st T) x _) h fun m q h=>a2e h fun e h9=>?_;cases st with
  | true=>exact nB GY
  | false=>exact fun oa G=>yZ (Φ:=⟨fx,oa,G⟩) (Id e) (a2 h9).1
 | zip=>exact sN (C:=fun T=>ah fx (.src st T) x _) h fun es j p h=>tq (op:=opN .zip) h hk fun oa G fp pos qs hg hq=>yY (Φ:=⟨fx,oa,G⟩) hg hq
 | _=>exact go h
def zi (H:GOk g Z) (hk:∀ ts,k ts=true->Kids g n ts ds) (h:BE Z o k t.1 t.2.1 t.2.2=true):dO g n t (bx (aj g.P n) o ds):=fun fx hg hn hX=>by
 subst hg hn;obtain ⟨X,p,x⟩:=t;subst hX;cases p with
 | val=>exact uz H (.inl rfl) hk h
 | test=>exact uz H (.inr rfl) hk h
 | new=>exact a2e h fun hn h=>DW hk hn h
 | src st T=>exact B7 H hk h
 | asg y py sp=>exact Dn H hk h
def ku (g:Gl) (n:Nat) (cs:List Ck) (ds:List D):Prop:=∀ ts,qx cs ts=true->Kids g n ts ds
theorem ku.nil:ku g n [] []:=fun ts h=>by
 cases ts with
 | nil=>exact .nil
 | cons=>(injection h; done)
theorem ku.cons (h1:∀ t,c t=true->dO g n t d) (h2:ku g n cs ds):ku g n (c :: cs) (d :: ds):=fun ts h=>by
 cases ts with
 | nil=>(injection h; done)
 | cons t r=>exact .cons (h1 t (a2 h).1) (h2 r (a2 h).2)
def Ft (H:GOk g Z) (e:E):∀ t,Av Z e t=true->dO g n t (ev (aj g.P n) e):=
 E.rec (motive_1:=fun e=>∀ t,Av Z e t=true->dO g n t (ev (aj g.P n) e)) (motive_2:=fun es=>ku g n (E.rec_1 (motive_1:=fun U=>Ck) (motive_2:=fun U=>List Ck) (fun o U ih t=>BE Z o (qx ih) t.1 t.2.1 t.2.2) [] (fun U U i is=>i :: is) es) (E.rec_1 (motive_1:=fun U=>D) (motive_2:=fun U=>List D) (fun o U ih=>bx (aj g.P n) o ih) [] (fun U U i is=>i :: is) es))
  (fun o es ih t h=>zi H ih h) .nil (fun e es i is=>.cons i is) e
theorem AQ (H:GOk g Z):∀ es:List E,ku g n (es.map (Av Z)) (es.map (ev (aj g.P n)))
 | []=>.nil
 | e :: r=>.cons (Ft H e) (AQ H r)
end
def fH (h:iI (bG fx) m j=true):TgtOk fx.ρ fx.env m j:=
 ⟨Id (a2 h).1,fun e=>by
  have h:=(a2 h).2;have e:(bG fx).sc.lookup m=some .free:=e;replace h:=e▸h; (injection h; done)⟩
theorem iH:∀ {es:List Expr} {js:List Nat},jV (bG fx) es js=true->TgtsOk fx.ρ fx.env es js
 | [],js,h=>ln (C:=fun js=>TgtsOk fx.ρ fx.env [] js) h .nil
 | t :: r,js,h=>bP (C:=fun t=>TgtsOk fx.ρ fx.env (t :: r) js) h fun m p h=>by
  cases js with
  | nil=>(injection h; done)
  | cons j q=>exact .cons (fH (a2 h).1) (iH (a2 h).2)
def kS {f:Expr->Expr->Pos->Bool} {C:Stmt->Prop} (h:iv x f=true) (k:∀ t v p,f t v p=true->C (.Assign [t] v p)):C x:=
 if hi:x.ctorIdx=5 then Stmt.Assign.elim (motive_2:=fun x=>iv x f=true->C x) x hi (fun ts v p h=>l1 (C:=fun ts=>C (.Assign ts v p)) h fun t h=>k t v p h) h else by
  unfold iv at h; replace h:=(dif_neg hi)▸h; (injection h; done)
def DD {f:Expr->Bool} {C:Stmt->Prop} (h:yP x f=true) (k:∀ e p,f e=true->C (.Expr e p)):C x:=
 if hi:x.ctorIdx=24 then Stmt.Expr.elim (motive_2:=fun x=>yP x f=true->C x) x hi (fun e p h=>k e p h) h else by
  unfold yP at h; replace h:=(dif_neg hi)▸h; (injection h; done)
def FC {f:Expr->Bool} {C:Stmt->Prop} (h:AC x f=true) (k:∀ e p,f e=true->C (.Return (some e) p)):C x:=
 if hi:x.ctorIdx=3 then Stmt.Return.elim (motive_2:=fun x=>AC x f=true->C x) x hi (fun e p h=>by
  cases e with
  | none=>(injection h; done)
  | some e=>exact k e p h) h else by
  unfold AC at h; replace h:=(dif_neg hi)▸h; (injection h; done)
def FD {f:Expr->List Stmt->List Stmt->Bool} {C:Stmt->Prop} (h:AE x f=true) (k:∀ c a b p,f c a b=true->C (.If c a b p)):C x:=
 if hi:x.ctorIdx=12 then Stmt.If.elim (motive_2:=fun x=>AE x f=true->C x) x hi (fun c a b p h=>k c a b p h) h else by
  unfold AE at h; replace h:=(dif_neg hi)▸h; (injection h; done)
def E4 {f:Expr->Expr->List Stmt->Bool} {C:Stmt->Prop} (h:yO x f=true) (k:∀ T it body p,f T it body=true->C (.For T it body [] p)):C x:=
 if hi:x.ctorIdx=9 then Stmt.For.elim (motive_2:=fun x=>yO x f=true->C x) x hi (fun T it body el p h=>ln (C:=fun el=>C (.For T it body el p)) (a2 h).1 (k T it body p (a2 h).2)) h else by
  unfold yO at h; replace h:=(dif_neg hi)▸h; (injection h; done)
def lWh {f:Expr->List Stmt->Bool} {C:Stmt->Prop} (h:vWh x f=true) (k:∀ c body p,f c body=true->C (.While c body [] p)):C x:=
 if hi:x.ctorIdx=11 then Stmt.While.elim (motive_2:=fun x=>vWh x f=true->C x) x hi (fun T body el p h=>ln (C:=fun el=>C (.While T body el p)) (a2 h).1 (k T body p (a2 h).2)) h else by
  unfold vWh at h; replace h:=(dif_neg hi)▸h; (injection h; done)
def E3 {f:Expr->Str->List Expr->Bool} {C:Stmt->Prop} (h:AD x f=true) (k:∀ y nm q xs r p,(q.endLine==r.line)=true->f y nm xs=true->C (.Expr (.Call (.Attribute y nm q) xs [] r) p)):C x:=
 DD (C:=C) h fun e p h=>dM (C:=fun e=>C (.Expr e p)) h fun y nm q xs r hl h=>k y nm q xs r p hl h
def E5 {C:Expr->Prop} (h:ri x=true) (k:∀ p,C (.Dict [] [] p)):C x:=
 D5 (C:=C) h fun ks vs p h=>ln (C:=fun ks=>C (.Dict ks vs p)) (a2 h).1 (ln (C:=fun vs=>C (.Dict [] vs p)) (a2 h).2 (k p))
def FE {C:Expr->Prop} (h:xL x=true) (k:∀ p,C (.List [] p)):C x:=
 DC (C:=C) h fun xs p h=>ln (C:=fun xs=>C (.List xs p)) h (k p)
def A9 {C:Expr->Prop} (H:GOk g Z) (h:qP Z X i c j x=true) (k:∀ m p nm q,ClsOk g c->(g.flds c)[j]?=some nm->X.ρ.lookup m=some i->aP m=true->C (.Attribute (.Name m p) nm q)):C x:=
 qv (C:=C) h fun o nm q h=>zE (C:=fun o=>C (.Attribute o nm q)) (a2 h).2 fun m p h1 h2=>k m p nm q (H.fld (a2 h).1).1 (H.fld (a2 h).1).2 h1 h2
section
variable {g:Gl} {n:Nat} {Z:Zx} {o:SOp} {k:List Kid->Bool} {ds:List D} {fx:Fx} {ca cb:CkS} {YA YB:B}
def SOk (g:Gl) (n:Nat) (c:CkS) (Y:B):Prop:=∀ fx F7,fx.g=g->fx.d=n->c (bG fx) F7=true->ExB fx (execs F7 fx.env) Y
noncomputable abbrev xY (W Y:B):B:=fun G K=>W G fun fl G'=>match fl with | none=>Y G' K | some x=>K (some x) G'
def MOk (g:Gl) (n:Nat) (c:CkM) (W:B):Prop:=∀ fx F7 FT Y,fx.g=g->fx.d=n->(∀ r,FT r=true->ExB fx (execs r fx.env) Y)->c (bG fx) F7 FT=true->ExB fx (execs F7 fx.env) (xY W Y)
def mQ (h:(cn xs&&k (xs.map fun x=>(bG fx,.val,x)))=true) (hk:∀ ts,k ts=true->Kids fx.g fx.d ts ds) {C:B->Prop} {W:List V->Gs->(GT)->Prop}
  (f:∀ qs:Gs->List (Expr×DV),(∀ G,(qs G).map Prod.fst=xs)->(∀ oa G,∀ q∈qs G,aq q.1=true/\bu ⟨fx,oa,G⟩ q)->C (fun G K=>br ((qs G).map Prod.snd) fun ys=>W ys G K)):C (fun G K=>bj ds G fun ys=>W ys G K):=by
 obtain ⟨qs,e1,e2⟩:=(hk _ (a2 h).2).items rfl rfl (a2 h).1;have z:=f qs (fun G=>(e1 G).1) e2;rwa [show (fun (G:Gs) (K:GT)=>br ((qs G).map Prod.snd) fun ys=>W ys G K)=fun G K=>bj ds G fun ys=>W ys G K from funext fun G=>funext fun K=>by rw [(e1 G).2,dX]] at z
theorem EvX.num {d:Gs->DV} {FZ pos np:Pos} {e:Expr} (F3:ClsOk fx.g c) (hm:MetOk fx.g c nm f) (hx:fx.ρ.lookup m=some i) (hn:aP m=true) (FV:(FZ.endLine==pos.line)=true) (hp:aq e=true) (h:∀ oa G,Ev ⟨fx,oa,G⟩ (eval e fx.env) (d G)):EvX fx (.Call (.Attribute (.Name m np) nm FZ) [e] [] pos) (sB (aj fx.g.P fx.d) i c f d):=fun oa G K s Q E hd I hQ=>
 xg (qs:=fun G=>[(e,d G)]) F3 hm hx hn FV (fun U=>rfl) (show 1 < 30 by decide) (fun oa G q m=>by obtain rfl:=zA6 m; exact ⟨hp,h oa G⟩) hd I hQ
theorem jF (H:GOk fx.g Z) (hn:fx.d=n):∀ {xs:List Expr} {ms:List Bool} {k':List Expr->Bool},ni Z (bG fx) i c f xs ms k'=true->∃ es,k' es=true/\∀ ds,Kids fx.g fx.d (es.map fun x=>(bG fx,.val,x)) ds->Spl fx xs (cy (aj fx.g.P fx.d) i c f ds ms)
 | [],ms,k',h=>by
  obtain ⟨h1,h2⟩:=a2 h;obtain rfl:ms=[]:=isEmpty_iff.mp h1;refine ⟨[],h2,fun ds q=>?_⟩;cases q
  exact Spl.nil
 | x :: xs,[],k',h=>nB h
 | x :: xs,true :: ms,k',h=>dM (C:=fun x=>∃ es,k' es=true/\∀ ds,Kids fx.g fx.d (es.map fun x=>(bG fx,.val,x)) ds->Spl fx (x :: xs) (cy (aj fx.g.P fx.d) i c f ds (true :: ms))) h fun y nm q zs r hl h=>a2e h fun hy h=>a2e h fun hm h=>l1 (C:=fun zs=>∃ es,k' es=true/\∀ ds,Kids fx.g fx.d (es.map fun x=>(bG fx,.val,x)) ds->Spl fx (.Call (.Attribute y nm q) zs [] r :: xs) (cy (aj fx.g.P fx.d) i c f ds (true :: ms))) h fun e h=>a2e h fun hp h=>by
  obtain ⟨es,k1,sp⟩:=jF H hn h;refine ⟨e :: es,k1,fun ds qk=>qk.nc (C:=fun ds=>Spl fx _ (cy (aj fx.g.P fx.d) i c f ds (true :: ms))) fun d IL a b=>?_⟩;exact zE (C:=fun y=>Spl fx (.Call (.Attribute y nm q) [e] [] r :: xs) _) hy fun m pm hx HE=>Spl.cons rfl (EvX.num (H.met hm).1 (H.met hm).2 hx HE hl hp (a fx rfl rfl rfl)) (sp IL b)
 | x :: xs,false :: ms,k',h=>by
  obtain ⟨hp,h⟩:=a2 h;obtain ⟨es,k1,sp⟩:=jF H hn h;exact ⟨x :: es,k1,fun ds q=>q.nc (C:=fun ds=>Spl fx _ (cy (aj fx.g.P fx.d) i c f ds (false :: ms))) fun d IL a b=>Spl.cons hp (.of (a fx rfl rfl rfl)) (sp IL b)⟩
def yT (H:GOk fx.g Z) (hk:∀ ts,k ts=true->Kids fx.g fx.d ts ds) (ha:SOk fx.g fx.d ca YA) (hb:SOk fx.g fx.d cb YB) (h:yq Z o k ca cb (bG fx) x=true):ExB fx (exec x fx.env) (dC (aj fx.g.P fx.d) o ds YA YB):=by
 cases o with
 | assign j=>exact kS (C:=fun x=>ExB fx (exec x fx.env) _) h fun t v p h=>bP (C:=fun t=>ExB fx (exec (.Assign [t] v p) fx.env) _) h fun m q h=>(hk _ (a2 h).2).n1 (C:=fun ds=>ExB fx _ (dC _ (.assign j) ds YA YB)) fun d a=>a fx rfl rfl rfl j (fH (a2 h).1)
 | assignM js=>
  exact kS (C:=fun x=>ExB fx (exec x fx.env) _) h fun t v p h=>sN (C:=fun t=>ExB fx (exec (.Assign [t] v p) fx.env) _) h fun es j q h=>a2e h fun h1 h=>(hk _ (a2 h).2).n1 (C:=fun ds=>ExB fx _ (dC _ (.assignM js) ds YA YB)) fun d a=>qK (a2 h).1 (iH h1) (a fx rfl rfl rfl)
 | ownL j=>exact kS (C:=fun x=>ExB fx (exec x fx.env) _) h fun t v p h=>bP (C:=fun t=>ExB fx (exec (.Assign [t] v p) fx.env) _) h fun m q h=>a2e h fun h1 h=>DC (C:=fun v=>ExB fx (exec (.Assign [_] v p) fx.env) _) h fun xs q' h=>mQ (C:=fun Y=>ExB fx _ Y) (W:=fun xs G K=>xs.length<=af/\K none (G.set j (.ownL xs))) h hk fun qs e1 e2=>Ae (fH h1) e1 e2
 | setAttr i c j=>exact kS (C:=fun x=>ExB fx (exec x fx.env) _) h fun t v p h=>qv (C:=fun t=>ExB fx (exec (.Assign [t] v p) fx.env) _) h fun u nm q h=>bP (C:=fun u=>ExB fx (exec (.Assign [.Attribute u nm q] v p) fx.env) _) h fun m q' h=>a2e h fun h1 h=>a2e h fun h2 h=>a2e h fun h3 h=>a2e h fun h4 h=>(hk _ h).n1 (C:=fun ds=>ExB fx _ (dC _ (.setAttr i c j) ds YA YB)) fun d a=>qH (H.fld h3).1 (Id h1) h2 (H.fld h3).2 h4 (a fx rfl rfl rfl)
 | setAttrO i c j f=>exact kS (C:=fun x=>ExB fx (exec x fx.env) _) h fun t v p h=>qv (C:=fun t=>ExB fx (exec (.Assign [t] v p) fx.env) _) h fun u nm q h=>bP (C:=fun u=>ExB fx (exec (.Assign [.Attribute u nm q] v p) fx.env) _) h fun m q' h=>a2e h fun h1 h=>a2e h fun h2 h=>a2e h fun h3 h=>a2e h fun h4 h=>a2e h fun h5 h=>oq (H.fld h3).1 (Id h1) h2 (H.fld h3).2 h4 (fun e=>by rw [NP e] at h5; exact E5 (C:=fun v=>∃ p,v=.Dict [] [] p) h5 fun p=>⟨p,rfl⟩) fun e=>by rw [NQ (by rw [e]; exact NK)] at h5; exact FE (C:=fun v=>∃ p,v=.List [] p) h5 fun p=>⟨p,rfl⟩
 | call f=>exact DD (C:=fun x=>ExB fx (exec x fx.env) _) h fun e p h=>q9 (C:=fun e=>ExB fx (exec (.Expr e p) fx.env) _) h fun n q xs r hf hx h=>mQ (C:=fun Y=>ExB fx _ Y) (W:=fun xs G K=>(aj fx.g.P fx.d).p f xs fun y=>isNone y=true/\K none G) h hk fun qs e1 e2=>Ai e1 hx (H.fns▸hf) (H.keep _ _ hf) e2
 | append j=>
  refine DD (C:=fun x=>ExB fx (exec x fx.env) _) h fun e p h=>dM (C:=fun e=>ExB fx (exec (.Expr e p) fx.env) _) h fun y nm q xs r hl h=>a2e h fun e h=>a2e h fun h1 hh=>?_;have e:nm="append":=Id e;subst e;exact bP (C:=fun y=>ExB fx (exec (.Expr (.Call (.Attribute y _ q) xs [] r) p) fx.env) _) hh fun m pm h2=>l1 (C:=fun xs=>ExB fx (exec (.Expr (.Call _ xs [] r) p) fx.env) _) h1 fun y h=>(hk _ (a2 h).2).n1 (C:=fun ds=>ExB fx _ (dC _ (.append j) ds YA YB)) fun d a=>um (Id (a2 h2).1) (a2 h2).2 (a2 h).1 hl (a fx rfl rfl rfl)
 | ret=>
  refine FC (C:=fun x=>ExB fx (exec x fx.env) _) h fun e p h=>?_;cases hnw:fx.nw with
  | true=>rw [show (bG fx).nw=true from hnw] at h; exact (hk _ h).n1 (C:=fun ds=>ExB fx _ (dC _ .ret ds YA YB)) fun d a=>Ad (a fx rfl rfl rfl)
  | false=>rw [show (bG fx).nw=false from hnw] at h; exact (hk _ h).n1 (C:=fun ds=>ExB fx _ (dC _ .ret ds YA YB)) fun d a=>C0 hnw (a fx rfl rfl rfl)
 | ownD j=>exact kS (C:=fun x=>ExB fx (exec x fx.env) _) h fun t v p h=>bP (C:=fun t=>ExB fx (exec (.Assign [t] v p) fx.env) _) h fun m q h=>a2e h fun h1 h=>E5 (C:=fun v=>ExB fx (exec (.Assign [_] v p) fx.env) _) (a2 h).1 fun q'=>Af (fH h1)
 | setD j=>exact kS (C:=fun x=>ExB fx (exec x fx.env) _) h fun t v p h=>xt (C:=fun t=>ExB fx (exec (.Assign [t] v p) fx.env) _) h fun u i sp h=>bP (C:=fun u=>ExB fx (exec (.Assign [.Subscript u i sp] v p) fx.env) _) h fun m q h=>a2e h fun h1 h=>a2e h fun h2 h=>a2e h fun h3 h=>(hk _ h).n2 (C:=fun ds=>ExB fx _ (dC _ (.setD j) ds YA YB)) fun d e a b=>Ac (Id h1) h2 h3 (a fx rfl rfl rfl) (b fx rfl rfl rfl)
 | ite=>exact FD (C:=fun x=>ExB fx (exec x fx.env) _) h fun c a b p h=>a2e h fun h1 h=>(hk _ h1).n1 (C:=fun ds=>ExB fx _ (dC _ .ite ds YA YB)) fun d q=>EG (q fx rfl rfl rfl) (ha fx _ rfl rfl (a2 h).1) (hb fx _ rfl rfl (a2 h).2)
 | «while»=>exact lWh (C:=fun x=>ExB fx (exec x fx.env) _) h fun c a p h=>a2e h fun h1 h=>(hk _ h1).n1 (C:=fun ds=>ExB fx _ (dC _ .while ds YA YB)) fun d q=>wk (q fx rfl rfl rfl) (ha fx _ rfl rfl h)
 | forS j=>
  exact E4 (C:=fun x=>ExB fx (exec x fx.env) _) h fun T it body p h=>a2e h fun h2 h=>a2e h fun h3 h=>bP (C:=fun T=>ExB fx (exec (.For T it body [] p) fx.env) _) h fun m q h=>(hk _ (a2 h).2).n1 (C:=fun ds=>ExB fx _ (dC _ (.forS j) ds YA YB)) fun d a=>xF h2 (vf (fH (a2 h).1)) (a fx rfl rfl rfl) fun X=>ha (fx.mo X) _ rfl rfl h3
 | forM js=>
  exact E4 (C:=fun x=>ExB fx (exec x fx.env) _) h fun T it body p h=>a2e h fun h2 h=>a2e h fun h3 h=>sN (C:=fun T=>ExB fx (exec (.For T it body [] p) fx.env) _) h fun es j q h=>(hk _ (a2 h).2).n1 (C:=fun ds=>ExB fx _ (dC _ (.forM js) ds YA YB)) fun d a=>xF h2 (ve (iH (a2 h).1)) (a fx rfl rfl rfl) fun X=>ha (fx.mo X) _ rfl rfl h3
 | raise=>exact wm
 | mkO j f=>exact kS (C:=fun x=>ExB fx (exec x fx.env) _) h fun t v p h=>bP (C:=fun t=>ExB fx (exec (.Assign [t] v p) fx.env) _) h fun m q h=>a2e h fun h1 h=>q9 (C:=fun v=>ExB fx (exec (.Assign [_] v p) fx.env) _) h fun n q xs r hf hx h=>mQ (C:=fun Y=>ExB fx _ (fun G K=>getSlot G j=.unset/\Y G K)) (W:=fun xs G K=>(aj fx.g.P fx.d).m f xs fun o=>K none (G.set j (.obj o))) h hk fun qs e1 e2=>C2 (fH h1) e1 hx (H.fns▸hf) (H.keep _ _ hf) e2
 | oCall i c f=>
  refine E3 (C:=fun x=>ExB fx (exec x fx.env) _) h fun y nm q xs r p hl h=>a2e h fun hy h=>a2e h fun hm h=>a2e h fun hf h=>zE (C:=fun y=>ExB fx (exec (.Expr (.Call (.Attribute y nm q) xs [] r) p) fx.env) _) hy fun m pm hx hn=>?_;obtain ⟨qs,e1,e2⟩:=(hk _ h).items rfl rfl (few hf).1;have z:=wq (fx:=fx) (k:=i) (np:=pm) (spos:=p) (H.met hm).1 (H.met hm).2 hx hn hl (fun G=>(e1 G).1) (few hf).2 e2;simp only [(e1 _).2,<- dX] at z;exact z
 | oPopM i c j ks=>
  refine kS (C:=fun x=>ExB fx (exec x fx.env) _) h fun t v p h=>sN (C:=fun t=>ExB fx (exec (.Assign [t] v p) fx.env) _) h fun es kk q h=>a2e h fun hT h=>a2e h fun h0 h=>dM (C:=fun v=>ExB fx (exec (.Assign [_] v p) fx.env) _) h fun u n' q' zs r' hl h=>a2e h fun e h=>a2e h fun ht hh=>?_;obtain rfl:n'="pop":=Id e;exact A9 (C:=fun u=>ExB fx (exec (.Assign [_] (.Call (.Attribute u _ q') zs [] r') p) fx.env) _) H ht fun m' pm' fm qf F3 Gk hx hn=>ln (C:=fun zs=>ExB fx (exec (.Assign [_] (.Call _ zs [] r') p) fx.env) _) hh (wn F3 hx hn hl Gk (iH hT))
 | oApp i c j=>
  refine E3 (C:=fun x=>ExB fx (exec x fx.env) _) h fun y nm q xs r p hl h=>a2e h fun e h=>a2e h fun ht hh=>?_;obtain rfl:nm="append":=Id e;exact A9 (C:=fun y=>ExB fx (exec (.Expr (.Call (.Attribute y _ q) xs [] r) p) fx.env) _) H ht fun m pm fm qf F3 Gk hx hn=>l1 (C:=fun xs=>ExB fx (exec (.Expr (.Call _ xs [] r) p) fx.env) _) hh fun z h=>(hk _ (a2 h).2).n1 (C:=fun ds=>ExB fx _ (dC _ (.oApp i c j) ds YA YB)) fun d a=>Ah F3 hx hn Gk (a2 h).1 hl (a fx rfl rfl rfl)
 | oSet i c j=>exact kS (C:=fun x=>ExB fx (exec x fx.env) _) h fun t v p h=>xt (C:=fun t=>ExB fx (exec (.Assign [t] v p) fx.env) _) h fun u e sp h=>a2e h fun ht h=>a2e h fun hs h=>A9 (C:=fun u=>ExB fx (exec (.Assign [.Subscript u e sp] v p) fx.env) _) H ht fun m pm fm qf F3 Gk hx hn=>(hk _ h).n2 (C:=fun ds=>ExB fx _ (dC _ (.oSet i c j) ds YA YB)) fun d e a b=>Ag F3 hx hn Gk hs (a fx rfl rfl rfl) (b fx rfl rfl rfl)
 | oSetF i c j f ms=>
  refine kS (C:=fun x=>ExB fx (exec x fx.env) _) h fun t v p h=>xt (C:=fun t=>ExB fx (exec (.Assign [t] v p) fx.env) _) h fun u e sp h=>a2e h fun ht h=>sN (C:=fun e=>ExB fx (exec (.Assign [.Subscript u e sp] v p) fx.env) _) h fun xs kk tp h=>dM (C:=fun v=>ExB fx (exec (.Assign [_] v p) fx.env) _) h fun y nm q zs r hl h=>a2e h fun hy h=>a2e h fun hm h=>l1 (C:=fun zs=>ExB fx (exec (.Assign [_] (.Call _ zs [] r) p) fx.env) _) h fun e1 h=>a2e h fun hp h=>?_;obtain ⟨es,hk1,sp'⟩:=jF (fx:=fx) (n:=fx.d) H rfl h;refine A9 (C:=fun u=>ExB fx (exec (.Assign [.Subscript u _ sp] _ p) fx.env) _) H ht fun m pm fm qf F3 Gk hx hn=>zE (C:=fun y=>ExB fx (exec (.Assign [_] (.Call (.Attribute y nm q) [e1] [] r) p) fx.env) _) hy fun m' pm' Iy HE=>?_;exact (hk _ hk1).nc (C:=fun ds=>ExB fx _ (dC _ (.oSetF i c j f ms) ds YA YB)) fun d IL a b=>Ab F3 hx hn Gk rfl (EvX.num (H.met hm).1 (H.met hm).2 Iy HE hl hp (a fx rfl rfl rfl)) (sp' IL b)
 | popS j i=>
  refine kS (C:=fun x=>ExB fx (exec x fx.env) _) h fun t v p h=>bP (C:=fun t=>ExB fx (exec (.Assign [t] v p) fx.env) _) h fun m q h=>a2e h fun hT h=>xt (C:=fun v=>ExB fx (exec (.Assign [_] v p) fx.env) _) h fun u e sp h=>sN (C:=fun e=>ExB fx (exec (.Assign [_] (.Subscript u e sp) p) fx.env) _) h fun xs kk tp h=>?_;rcases xs with _ | ⟨a1,_ | ⟨a2',_ | ⟨a3,_ | ⟨a4,_ | _⟩⟩⟩⟩ <;> first | exact nB h | skip
  refine a2e h fun Mv h=>a2e h fun hpl h=>dM (C:=fun a3=>ExB fx (exec (.Assign [_] (.Subscript u (.Tuple [a1,a2',a3,a4] kk tp) sp) p) fx.env) _) Mv fun y nm q' zs r hl h'=>a2e h' fun e h'=>a2e h' fun hy hz=>?_;obtain rfl:nm="pop":=Id e;refine ln (C:=fun zs=>ExB fx (exec (.Assign [_] (.Subscript u (.Tuple [a1,a2',.Call _ zs [] r,a4] kk tp) sp) p) fx.env) _) hz (zE (C:=fun y=>ExB fx (exec (.Assign [_] (.Subscript u (.Tuple [a1,a2',.Call (.Attribute y _ q') [] [] r,a4] kk tp) sp) p) fx.env) _) hy fun m' pm hx hn=>?_);have pl:=fun x (mx:x∈[a1,a2',a4])=>Q6.mp hpl x mx;exact (hk _ h).nc (C:=fun ds=>ExB fx _ (dC _ (.popS j i) ds YA YB)) fun d IL a b=>b.n3 (C:=fun IL=>ExB fx _ (dC _ (.popS j i) (d :: IL) YA YB)) fun d1 d2 d3 b1 b2 b3=>Aa (fH hT) (a fx rfl rfl rfl) (.cons (pl _ (.head _)) (.of (b1 fx rfl rfl rfl)) (.cons (pl _ (.tail _ (.head _))) (.of (b2 fx rfl rfl rfl)) (.cons rfl (.pop hx hn hl) (.cons (pl _ (.tail _ (.tail _ (.head _)))) (.of (b3 fx rfl rfl rfl)) .nil))))
 | _=>(injection h; done)
def zt (H:GOk g Z) (hk:∀ ts,k ts=true->Kids g n ts ds) (ha:SOk g n ca YA) (hb:SOk g n cb YB):MOk g n (yt Z o k ca cb) (dC (aj g.P n) o ds YA YB):=fun fx F7 FT Y hg hn hr h=>by
 subst hg hn;have go:∀ {o:SOp},EX (yq Z o k ca cb (bG fx)) FT F7=true->ExB fx (execs F7 fx.env) (xY (dC (aj fx.g.P fx.d) o ds YA YB) Y):=fun {o} h=>by
  cases F7 with
  | nil=>(injection h; done)
  | cons x r=>exact ex_cons (yT H hk ha hb (a2 h).1) (hr r (a2 h).2)
 cases o with
 | freeze j=>exact ul (hr F7 h)
 | freezeD j=>exact qJ (hr F7 h)
 | freezeO j=>exact qI (hr F7 h)
 | _=>exact go h
def xi:SOk g n (fun U F7=>F7.isEmpty) (fun G K=>K none G):=fun fx F7 U U h=>ln (C:=fun F7=>ExB fx (execs F7 fx.env) _) h C1
def wY (h1:MOk g n c W) (h2:SOk g n is Y):SOk g n (fun X F7=>c X F7 (is X)) (xY W Y):=fun fx F7 hg hn h=>h1 fx F7 (is (bG fx)) Y hg hn (fun r q=>h2 fx r hg hn q) h
def Fs (H:GOk g Z) (s:S):MOk g n (DH Z s) (ex (aj g.P n) s):=
 S.rec (motive_1:=fun s=>MOk g n (DH Z s) (ex (aj g.P n) s))
  (motive_2:=fun l=>SOk g n (S.rec_1 (motive_1:=fun U=>CkM) (motive_2:=fun U=>CkS) (fun o es U U a b X F7 FT=>yt Z o (qx (es.map (Av Z))) a b X F7 FT) (fun U F7=>F7.isEmpty) (fun U U i is X F7=>i X F7 (is X)) l)
   (S.rec_1 (motive_1:=fun U=>B) (motive_2:=fun U=>B) (fun o es U U x y=>dC (aj g.P n) o (es.map (ev (aj g.P n))) x y) (fun G K=>K none G) (fun U U i is G K=>i G fun fl G'=>match fl with | none=>is G' K | some x=>K (some x) G') l))
  (fun o es a b ha hb=>zt H (AQ H es) ha hb) xi (fun s l i is=>wY i is) s
theorem AP (H:GOk g Z):∀ l:List S,SOk g n (yr Z l) (exs (aj g.P n) l)
 | []=>xi
 | s :: r=>wY (Fs H s) (AP H r)
end
theorem dD:∀ (names:List (Str×NameKind)) (n:Nat) (acc:List (Str×Addr)) (x:Str),((x,NameKind.cell)∈names\/(acc.lookup x).isSome=true)->((cellsFrom n names acc).lookup x).isSome=true
 | [],_,_,_,h=>by
  rcases h with h | h
  ·cases h
  ·exact h
 | (y,k) :: r,n,acc,x,h=>by
  unfold cellsFrom;have more:∀ q:Str×Addr,(acc.lookup x).isSome=true->((q :: acc).lookup x).isSome=true:=fun q e=>by
   rw [lookup_cons]; split
   ·rfl
   ·exact e
  split
  ·refine dD r _ _ x ?_;rcases h with h | h
   ·rcases mem_cons.mp h with e | e
    ·(injection e with e; subst e); right; rw [lookup_cons]; simp
    ·exact .inl e
   ·exact .inr (more _ h)
  ·rename_i hk;refine dD r _ _ x ?_;rcases h with h | h
   ·rcases mem_cons.mp h with e | e
    ·cases e; exact absurd rfl hk
    ·exact .inl e
   ·exact .inr h
theorem lx {kindOf:Str->Option NameKind} (hx:kindOf x=some .local):∀ (ps:List Str) (vs:List Value) (m:Str->Option Value),ps.Nodup->ps.length=vs.length ->
  (∀ i:Nat,ps[i]?=some x->bindL kindOf (ps.zip vs) m x=vs[i]?)/\(x∉ps->bindL kindOf (ps.zip vs) m x=m x)
 | [],_,m,_,_=>⟨fun i e=>by simp at e,fun U=>by simp [bindL]⟩
 | p :: ps,[],m,_,e=>by simp at e
 | p :: ps,v :: vs,m,hn,e=>by
  obtain ⟨hp,HE⟩:=nodup_cons.mp hn;have ih:=fun m=>lx hx ps vs m HE (Nat.succ.inj e);refine ⟨fun i ei=>?_,fun nx=>?_⟩
  ·refine (?_:bindL kindOf (ps.zip vs) _ x=_);cases i with
   | zero=>
    (injection ei with ei; subst ei);rw [(ih _).2 hp,NP hx]; exact NP rfl
   | succ i=>exact (ih _).1 i ei
  ·refine (?_:bindL kindOf (ps.zip vs) _ x=_);rw [(ih _).2 fun q=>nx (.tail _ q)];split
   ·exact NQ fun q:x=p=>nx (q▸.head _)
   ·rfl
theorem ly {kindOf:Str->Option NameKind} (hx:kindOf x≠some .local):∀ (ps:List Str) (vs:List Value) (m:Str->Option Value),ps.Nodup->ps.length=vs.length ->
  (∀ i:Nat,ps[i]?=some x->bindC kindOf (ps.zip vs) m x=vs[i]?)/\(x∉ps->bindC kindOf (ps.zip vs) m x=m x)
 | [],_,m,_,_=>⟨fun i e=>by simp at e,fun U=>by simp [bindC]⟩
 | p :: ps,[],m,_,e=>by simp at e
 | p :: ps,v :: vs,m,hn,e=>by
  obtain ⟨hp,HE⟩:=nodup_cons.mp hn;have ih:=fun m=>ly hx ps vs m HE (Nat.succ.inj e);refine ⟨fun i ei=>?_,fun nx=>?_⟩
  ·refine (?_:bindC kindOf (ps.zip vs) _ x=_);cases i with
   | zero=>
    (injection ei with ei; subst ei);rw [(ih _).2 hp,NQ hx]; exact NP rfl
   | succ i=>exact (ih _).1 i ei
  ·refine (?_:bindC kindOf (ps.zip vs) _ x=_);rw [(ih _).2 fun q=>nx (.tail _ q)];split
   ·rfl
   ·exact NQ fun q:x=p=>nx (q▸.head _)
theorem eJ:∀ (l:List Str) (n:Nat) (x:Str) (k:Nat),(l.zipIdx n).lookup x=some k->∃ j,k=n+j/\l[j]?=some x
 | [],_,_,_,e=>nN e.symm
 | y :: r,n,x,k,e=>by
  rw [zipIdx_cons,lookup_cons] at e;cases hb:x==y with
  | true=>replace e:=hb▸e; (injection e with e; subst e); rw [beq_iff_eq.mp hb]; exact ⟨0,rfl,rfl⟩
  | false=>
   rw [hb] at e;obtain ⟨j,h1,h2⟩:=eJ r (n+1) x k e;exact ⟨j+1,by rw [h1,add_assoc,add_comm 1],h2⟩
structure FnAt (g:Gl) (a:Addr) (fn:Fn) (fd:FuncData) (body:List Stmt) (nms:List Str):Prop where
 at':∃ o:Obj,g.h0.get? a=some o/\o.data=.func fd
 bd:fd.body=.stmts body
 code:g.h0.CodeRec fd.code fd.qualname
 glo:fd.globals=mainGlobals
 blt:fd.builtins=builtinsNs
 clo:fd.closure=[]
 co:fd.scope.isCoroutine=false
 gen:fd.scope.isGenerator=false
 kind:fd.scope.kind=.function
 bind:∀ vals:List Value,vals.length=fn.npar->bindArgs fd ⟨vals,[]⟩=pure ((nms.take fn.npar).zip vals)
 nodup:nms.Nodup
 npar:fn.npar<=nms.length
 nslots:nms.length<=fn.nslots
 kinds:∀ x∈nms,fd.scope.names.lookup x=some .local\/fd.scope.names.lookup x=some .cell
def j6 (nms:List Str) (sc:List (Str×NameKind)) (L:Addr) (cs:List (Str×Addr)) (k:Nat):Pl:=match nms[k]? with
 | none=>.off
 | some x=>if sc.lookup x=some .local then .ns L x else match cs.lookup x with | some c=>.cell c | none=>.off
def zW (g:Gl) (A:Around) (fd:FuncData) (nms:List Str) (ns:Nat) (a L:Addr) (bad:Addr->Prop) (d:Nat) (nw:Bool):Fx:=
 { g:=g,A:=A.deeper (callEnvC fd L a),env:=callEnvC fd L a,ρ:=nms.zipIdx,pl:=j6 nms fd.scope.names L (cellsFrom (L+1) fd.scope.names []),Mo:=bad,nf:=nms.length,ns:=ns,d:=d,nw:=nw }
section
variable {g:Gl} {a:Addr} {fn:Fn} {fd:FuncData} {body:List Stmt} {nms:List Str}
def pl_cases (F:FnAt g a fn fd body nms) (L n:Nat) (k:Nat):(nms[k]?=none/\j6 nms fd.scope.names L (cellsFrom n fd.scope.names []) k=.off)\/∃ x,nms[k]?=some x/\((fd.scope.names.lookup x=some .local/\j6 nms fd.scope.names L (cellsFrom n fd.scope.names []) k=.ns L x) \/
  (fd.scope.names.lookup x=some .cell/\∃ c,(cellsFrom n fd.scope.names []).lookup x=some c/\j6 nms fd.scope.names L (cellsFrom n fd.scope.names []) k=.cell c)):=by
 unfold j6;cases hk:nms[k]? with
 | none=>exact .inl ⟨rfl,rfl⟩
 | some x=>
  refine .inr ⟨x,rfl,(F.kinds x (mem_of_getElem? hk)).imp (fun h=>⟨h,NP h⟩) fun h=>⟨h,?_⟩⟩;obtain ⟨c,hc⟩:=isSome_iff_exists.mp (dD fd.scope.names n [] x (.inl (mem_of_lookup h)));refine ⟨c,hc,(NQ fun q=>?_).trans ?_⟩
  ·replace q:=h▸q; cases q
  ·rw [hc]
def D6 (F:FnAt g a fn fd body nms) (gr:Ground g) (ih:CallOk g (aj g.P d) d) (hand:A.handled=none) (GU:A.depth+(1+2 * d) < 990) (GF:A.units+(3+4 * d)+100 < cLine)
  (HB:∀ x c,(cellsFrom (L+1) fd.scope.names []).lookup x=some c->L < c) (apart:(cellsFrom (L+1) fd.scope.names []).Pairwise fun x y=>x.2≠y.2) (K3:∀ b,bad b->g.h0.get? b=none) :
  FxOk (zW g A fd nms fn.nslots a L bad d nw) where
 gr:=gr
 hand:=hand
 kind:=F.kind
 globals:=F.glo
 builtins:=F.blt
 vis:=fun x k hx=>by
  obtain ⟨j,rfl,hj⟩:=eJ nms 0 x k hx;rw [zero_add];rcases pl_cases F L (L+1) j with ⟨q,_⟩ | ⟨y,q,z⟩ <;> rw [hj] at q <;> cases q
  exact z.imp (fun z=>⟨z.1,z.2⟩) (by rintro ⟨z,c,hc,zp⟩; exact ⟨.inl z,c,hc,zp⟩)
 inj:=fun k j e Gc=>by
  rcases pl_cases F L (L+1) k with ⟨_,q⟩ | ⟨x,qk,zk⟩
  ·exact absurd q Gc
  rcases pl_cases F L (L+1) j with ⟨_,q⟩ | ⟨y,qj,zj⟩
  ·exact absurd (e.trans q) Gc
  have e:j6 nms fd.scope.names L (cellsFrom (L+1) fd.scope.names []) k=j6 nms fd.scope.names L (cellsFrom (L+1) fd.scope.names []) j:=e;have:x=y:=by
   rcases zk with ⟨_,q⟩ | ⟨_,c,q1,q⟩ <;> rcases zj with ⟨_,q'⟩ | ⟨_,c',q1',q'⟩ <;> rw [q,q'] at e <;> cases e
   ·rfl
   ·exact name_of_addr apart (mem_of_lookup q1) (mem_of_lookup q1')
  subst this;exact (getElem?_inj (List.getElem?_eq_some_iff.mp qk).1 F.nodup).mp (qk.trans qj.symm)
 apart:=fun k j b x c e1 e2=>by
  have e1:j6 nms fd.scope.names L (cellsFrom (L+1) fd.scope.names []) k=.ns b x:=e1;have e2:j6 nms fd.scope.names L (cellsFrom (L+1) fd.scope.names []) j=.cell c:=e2;rcases pl_cases F L (L+1) k with ⟨_,q⟩ | ⟨y,_,⟨_,q⟩ | ⟨_,_,_,q⟩⟩ <;> rw [q] at e1 <;> cases e1
  rcases pl_cases F L (L+1) j with ⟨_,q⟩ | ⟨y,_,⟨_,q⟩ | ⟨_,c',q1,q⟩⟩ <;> rw [q] at e2 <;> cases e2
  exact ne_of_lt (HB y _ q1)
 offs:=fun k hk=>by
  rcases pl_cases F L (L+1) k with ⟨_,q⟩ | ⟨y,q,_⟩
  ·exact q
  ·exact absurd (List.getElem?_eq_some_iff.mp q).1 (not_lt.mpr hk)
 nfs:=F.nslots
 room:=by refine (?_:A.depth+1+2 * d < 990); rw [add_assoc]; exact GU
 units:=by refine (?_:A.units+3+4 * d+100 < cLine); rw [add_assoc A.units]; exact GF
 call:=ih
 mo0:=K3
end
section
variable {g:Gl} {a:Addr} {fn:Fn} {fd:FuncData} {body:List Stmt} {nms:List Str}
structure Ran (g:Gl) (bad:Addr->Prop) (nw:Bool) (oa0:Nat->List (List Addr)) (G0:Gs) (vals:List Value) (s:Shared) (Φ':Ct) (s':Shared):Prop where
 inv:Inv Φ' s'
 hg:Φ'.fx.g=g
 mo:Φ'.fx.Mo=bad
 hnw:Φ'.fx.nw=nw
 keep:∀ b o,s.heap.get? b=some o->b∉(oa0 0).flatten->s'.heap.get? b=some o
 inst:∀ a F,Φ'.oa 0=[a] :: F->isI (getSlot Φ'.G 0)->∃ GO,oa0 0=[a] :: GO
 objs:∀ o' u,getSlot Φ'.G 0=.obj o'->getSlot G0 0≠.unset->vals[0]?=some u->Φ'.oa 0=oa0 0/\ay s'.heap (Φ'.fx.pl 0) (some u)
 news:∀ a∈(Φ'.oa 0).flatten,a∈(oa0 0).flatten\/s.heap.get? a=none
def Ce {bad:Addr->Prop} {oa0:Nat->List (List Addr)} {K:GT} {R:Result->Shared->Prop} (F:FnAt g a fn fd body nms) (gr:Ground g) (ih:CallOk g (aj g.P d) d)
  (hand:A.handled=none) (GU:A.depth+(1+2 * d) < 990) (GF:A.units+(3+4 * d)+100 < cLine) (B:Base g s) (IH:∀ b,bad b->aL s.heap b) (K3:∀ b,bad b->g.h0.get? b=none) (F2:vals.length=fn.npar) (hG:G0.length=fn.nslots)
  (Hz:∀ k b,b∈(oa0 k).flatten->k=0/\aL s.heap b/\g.h0.get? b=none/\¬ bad b)
  (hsl:∀ k,k < fn.npar->bz g (fun b=>bad b\/b∈(oa0 0).flatten) s.heap (oa0 k) vals[k]? (getSlot G0 k)) (hun:∀ k,¬ k < fn.npar->getSlot G0 k=.unset/\oa0 k=[]) (Kg:∀ L,ExB (zW g A fd nms fn.nslots a L bad d nw) (execs body (callEnvC fd L a)) (exs (aj g.P d) fn.body)) (hb:exs (aj g.P d) fn.body G0 K)
  (hR:∀ s' (Φ':Ct) f fl,Ran g bad nw oa0 G0 vals s Φ' s'->xU Φ' s s'.heap f fl->K fl Φ'.G->R (.ok (.ret (match f with | .ret v=>v | _=>.none))) s'):codeAny (model g.prog g.w) A (.call (.ref a) ⟨vals,[]⟩) R s:=by
 obtain ⟨o,ho,hd⟩:=F.at';have Lg:∀ a,s.heap.objs.size<=a->s.heap.get? a=none:=fun a ha=>by
  cases e:s.heap.get? a with
  | none=>rfl
  | some o=>exact absurd (lt_size e) (not_lt.mpr ha)
 have M5:=cellsFrom_ok fd.scope.names (s.heap.push { cls:=.type "frame",data:=.dict #[] }) (s.heap.objs.size+1) [] ⟨fun U U hm=>(nM hm),Pairwise.nil⟩ (by rw [size_push]; exact le_refl _);rw [size_push] at M5;have HB:∀ x c,(cellsFrom (s.heap.objs.size+1) fd.scope.names []).lookup x=some c->s.heap.objs.size < c:=fun x c hx=>(M5.empty x c (mem_of_lookup hx)).2;have ok:=D6 (bad:=bad) (nw:=nw) F gr ih hand GU GF HB M5.apart K3;have hkc:∀ x∈nms,fd.scope.names.lookup x=some .local\/(fd.scope.names.lookup x=some .cell/\((cellsFrom (s.heap.objs.size+1) fd.scope.names []).lookup x).isSome=true):=fun x hx=>(F.kinds x hx).imp id fun h=>⟨h,dD _ _ _ _ (.inl (mem_of_lookup h))⟩;refine codeAny_call_cells (o:=o) (fd:=fd) (body:=body) (binds:=(nms.take fn.npar).zip vals) (show A.depth < 1000 from lt_trans (Q0 (Q3 _ _) GU) (by decide)) (B.stays _ _ ho) hd (gr.nolim.keeps fun b o e=>B.stays b o e) (F.code.keeps fun b o e=>B.stays b o e) F.bd (F.bind vals F2) F.clo
  (fun x hx=>hkc x.1 (mem_of_mem_take (List.of_mem_zip hx).1)) (fun s₁ ic=>?_) F.co F.gen F.kind
 let fx:Fx:=zW g A fd nms fn.nslots a s.heap.objs.size bad d nw
 have Kg:ExB fx (execs body fx.env) (exs (aj g.P d) fn.body):=Kg s.heap.objs.size;have Hl:∀ k b,(fx.pl k).addr=some b->s.heap.get? b=none:=fun k b e=>by
  have e:(j6 nms fd.scope.names s.heap.objs.size (cellsFrom (s.heap.objs.size+1) fd.scope.names []) k).addr=some b:=e;rcases pl_cases F s.heap.objs.size (s.heap.objs.size+1) k with ⟨_,q⟩ | ⟨y,_,⟨_,q⟩ | ⟨_,c,q1,q⟩⟩ <;> rw [q] at e <;> (first | (injection e; done) | (injection e with e; subst e))
  ·exact Lg _ (le_refl _)
  ·exact Lg _ (le_of_lt (HB y _ q1))
 have kp:ao s.heap s₁.heap:=ic.toInCall.keep;obtain ⟨Gg,Kc,Jc⟩:=ic.toInCall.same;have Hm:∀ b,aL s.heap b->b∉(oa0 0).flatten->¬ (Ct.mk fx oa0 G0).own b:=fun b l n q=>by
  rcases q with ⟨k,q⟩ | ⟨k,q⟩
  ·obtain ⟨o,e⟩:=l; exact al (Hl k b q) e
  ·obtain rfl:=(Hz k b q).1; exact n q
 have mk:bK (fun b=>bad b\/b∈(oa0 0).flatten) (Ct.mk fx oa0 G0).bad s.heap s₁.heap:=fun b o e n=>⟨fun q=>q.elim (fun q=>n (.inl q)) (Hm b ⟨o,e⟩ fun q=>n (.inr q)),kp b o e⟩;have KH:(nms.take fn.npar).length=vals.length:=by rw [length_take,F2]; exact min_eq_left F.npar
 have KF:(nms.take fn.npar).Nodup:=F.nodup.sublist (take_sublist _ _);have IV:∀ k x,nms[k]?=some x->k < fn.npar->(nms.take fn.npar)[k]?=some x:=fun k x hk F8=>by rw [List.getElem?_take_of_lt F8]; exact hk
 have HX:∀ k x,nms[k]?=some x->¬ k < fn.npar->x∉nms.take fn.npar:=fun k x hk KU hm=>by
  obtain ⟨j,hj⟩:=getElem?_of_mem hm;have hjl:j < fn.npar:=Q1 (List.getElem?_eq_some_iff.mp hj).1 (length_take_le _ _);rw [List.getElem?_take_of_lt hjl] at hj;exact KU ((getElem?_inj (List.getElem?_eq_some_iff.mp hj).1 F.nodup).mp (hj.trans hk.symm)▸hjl)
 have slot:∀ k,∃ v,ay s₁.heap (fx.pl k) v/\(k < fn.npar->v=vals[k]?)/\(¬ k < fn.npar->v=none):=fun k=>by
  rcases pl_cases F s.heap.objs.size (s.heap.objs.size+1) k with ⟨e,q⟩ | ⟨x,hk,⟨h1,q⟩ | ⟨h1,c,h2,q⟩⟩
  ·exact ⟨none,by refine (?_:ay _ (j6 _ _ _ _ _) _); rw [q]; rfl,fun F8=>absurd F8 (not_lt.mpr (zB1 F.npar (List.getElem?_eq_none_iff.mp e))),fun U=>rfl⟩
  ·have bl:=lx (kindOf:=(callEnvC fd s.heap.objs.size a).kindOf) (x:=x) h1 (nms.take fn.npar) vals (fun U=>none) KF KH;exact ⟨_,by refine (?_:ay _ (j6 _ _ _ _ _) _); rw [q]; exact ⟨_,ic.toInCall.ns,rfl⟩,fun F8=>bl.1 k (IV k x hk F8),fun KU=>bl.2 (HX k x hk KU)⟩
  ·have bc:=ly (kindOf:=(callEnvC fd s.heap.objs.size a).kindOf) (x:=x) (fun z=>by have z:fd.scope.names.lookup x=some .local:=z; rw [h1] at z; cases z) (nms.take fn.npar) vals (fun U=>none) KF KH;exact ⟨_,by refine (?_:ay _ (j6 _ _ _ _ _) _); rw [q]; exact ic.cell x c h2,fun F8=>bc.1 k (IV k x hk F8),fun KU=>bc.2 (HX k x hk KU)⟩
 have FM:Inv ⟨fx,oa0,G0⟩ s₁:=by
  refine ⟨ok,⟨fun b o e=>kp b o (B.stays b o e),by rw [Jc]; exact B.os,by rw [Jc]; exact B.gens⟩,fun k=>?_,fun b q=>?_,fun k j b e1 e2=>(Hz k b e1).1.trans (Hz j b e2).1.symm,fun k b e j q=>?_,hG,fun b q=>kp.live (IH b q)⟩
  ·obtain ⟨v,r,h1,h2⟩:=slot k;refine ⟨v,r,?_⟩;by_cases F8:k < fn.npar
   ·rw [h1 F8]; exact (hsl k F8).map mk fun b U o e=>kp b o e
   ·rw [h2 F8,(hun k F8).1]; exact ⟨(hun k F8).2,rfl⟩
  ·rcases q with ⟨k,q⟩ | ⟨k,q⟩
   ·have hn:=Hl k b q;refine ⟨?_,aK (fun l=>B.stays.live l) hn,fun z=>(IH b z).elim fun o e=>al hn e⟩;obtain ⟨v,r,_⟩:=slot k;have q:(fx.pl k).addr=some b:=q;generalize fx.pl k=pl at r q;cases pl with
    | ns a' x=>(injection q with q; subst q); obtain ⟨m,⟨o',_,_,Gj,_⟩,_⟩:=r; exact ⟨o',Gj⟩
    | cell c=>(injection q with q; subst q); obtain ⟨o',Gj,_⟩:=r; exact ⟨o',Gj⟩
    | off=>(injection q; done)
   ·obtain ⟨_,l,h0,nb⟩:=Hz k b q;exact ⟨kp.live l,h0,nb⟩
  ·obtain ⟨o,e⟩:=(Hz k b e).2.1;exact al (Hl j b q) e
 refine LT (Kg oa0 G0 K s₁ hb FM _) (fun f s' ⟨FX,G',fl,I',t,hf,hk⟩=>hR s' ⟨fx,FX,G'⟩ f fl ⟨I',rfl,rfl,rfl,fun b o e n=>t.keep b o (kp b o e) (Hm b ⟨o,e⟩ n),fun a F e q=>((t.sl 0).inst a F e q).elim fun GO z=>⟨GO,z.1⟩,fun o' u e n hu=>?_,fun b m=>?_⟩ (hf.lift fun b l=>kp.live l) hk) fun U U z=>z
 ·obtain ⟨o,_,gw,p⟩:=(t.sl 0).objs o' e n;obtain ⟨v,r,h1,_⟩:=slot 0;have h0:0 < fn.npar:=by rw [<- F2]; exact (List.getElem?_eq_some_iff.mp hu).1
  rw [h1 h0,hu] at r;exact ⟨gw,p u r⟩
 ·cases e:s.heap.get? b with
  | none=>exact .inr rfl
  | some o=>
   refine .inl (byContradiction fun n=>Hm b ⟨o,e⟩ n (t.grow b (kp.live ⟨o,e⟩) (.inr ⟨0,m⟩)))
end
section
variable {g:Gl}
def Br {fn:Fn} {hd:List Slot} {args:List V} {k:Nat} {sl:Slot} (h:hd[k]?=some sl):getSlot (fr0 fn hd args) k=sl:=by
 have hl:=(List.getElem?_eq_some_iff.mp h).1;unfold getSlot fr0;rw [getD_eq_getElem?_getD,Qa,getElem?_append_left hl,h]; rfl
def CY {fn:Fn} {hd:List Slot} {args:List V} {k:Nat} {x:V} (h:args[k]?=some x):getSlot (fr0 fn hd args) (hd.length+k)=.v x:=by
 have hl:=(List.getElem?_eq_some_iff.mp h).1;unfold getSlot fr0;rw [getD_eq_getElem?_getD,Qa,getElem?_append_right (Q3 _ _),add_sub_cancel_left,getElem?_append_left (by rw [zA4]; exact hl),getElem?_map,h]; rfl
def D7 {fn:Fn} {hd:List Slot} {args:List V} {k:Nat} (h:¬ k < hd.length+args.length):getSlot (fr0 fn hd args) k=.unset:=by
 unfold getSlot fr0;rw [getD_eq_getElem?_getD,getElem?_append_right (by rw [zB5,zA4]; exact not_lt.mp h),List.getElem?_replicate]; split <;> rfl
def xS (g:Gl) (d:Nat) (a:Addr) (fn:Fn) (fd:FuncData) (body:List Stmt) (nms:List Str) (nw:Bool):Prop:=∀ A L bad,ExB (zW g A fd nms fn.nslots a L bad d nw) (execs body (callEnvC fd L a)) (exs (aj g.P d) fn.body)
structure FnOk (g:Gl) (d:Nat) (fn:Fn) (a:Addr) (nw:Bool):Prop where
 it:∃ fd body nms,FnAt g a fn fd body nms/\xS g d a fn fd body nms nw
structure InitAt (g:Gl) (d c:Nat) (fn:Fn):Prop where
 c3:c < 2
 it:∃ fI,findIn g.K (.ref (g.C c)) "__init__"=some (some (.ref fI))/\typeIn g.K (.ref fI)=some (.type "function")/\FnOk g d fn fI false
def iu (g:Gl) (d f:Nat) (fn:Fn):Prop:=match fn.kind with
 | .cls c n=>g.fn f=g.C c/\n≠0/\InitAt g d c fn
 | .ocls c=>g.fn f=g.C c/\InitAt g d c fn
 | _=>FnOk g d fn (g.fn f) (g.newf f)
def w7 {a d:Nat} (h:a+2 * (d+1) < 990):a+(1+2 * d) < 990:=add_comm (2 * d) 1▸lt_of_succ_lt h
def Cg {a d:Nat} (h:a+2 * (d+1) < 990):a+1+(1+2 * d) < 990:=add_comm (2 * d) 1▸(add_right_comm a (2 * d) 1▸h:a+1+2 * d+1 < 990)
def w6 {a d c:Nat} (h:a+4 * (d+1)+100 < c):a+(3+4 * d)+100 < c:=add_comm (4 * d) 3▸lt_of_succ_lt (h:a+4 * d+103+1 < c)
def Cf {a d c:Nat} (h:a+4 * (d+1)+100 < c):a+1+(3+4 * d)+100 < c:=add_comm (4 * d) 3▸(add_right_comm a (4 * d) 1▸h:a+1+4 * d+3+100 < c)
noncomputable def oaF (F:List (List Addr)) (k:Nat):List (List Addr):=if k=0 then F else []
def su {F:List (List Addr)} (m:b∈(oaF F k).flatten):k=0/\b∈F.flatten:=by
 unfold oaF at m;by_cases q:k=0
 ·rw [NP q] at m; exact ⟨q,m⟩
 ·rw [NQ q] at m; exact nM m
def qW {fn:Fn} {a:Addr} {bad:Addr->Prop} {F:List (List Addr)} {hd:List Slot} {hv:List Value} {K:GT} {R:Result->Shared->Prop} (ok:FnOk g d fn a nw) (gr:Ground g) (ih:CallOk g (aj g.P d) d)
  (hand:A.handled=none) (GU:A.depth+(1+2 * d) < 990) (GF:A.units+(3+4 * d)+100 < cLine) (B:Base g s) (IH:∀ b,bad b->aL s.heap b) (K3:∀ b,bad b->g.h0.get? b=none) (hh:hd.length=hv.length) (F2:hd.length+args.length=fn.npar) (h1:hd=[]->F=[])
  (hF:∀ b∈F.flatten,aL s.heap b/\g.h0.get? b=none/\¬ bad b)
  (hs:∀ k sl,hd[k]?=some sl->bz g (fun b=>bad b\/b∈F.flatten) s.heap (oaF F k) hv[k]? sl) (rs:RpAll g (fun b=>bad b\/b∈F.flatten) s.heap vals args) (hb:exs (aj g.P d) fn.body (fr0 fn hd args) K)
  (hR:∀ s' (Φ':Ct) f fl,Ran g bad nw (oaF F) (fr0 fn hd args) (hv++vals) s Φ' s'->xU Φ' s s'.heap f fl->K fl Φ'.G->R (.ok (.ret (match f with | .ret v=>v | _=>.none))) s'):codeAny (model g.prog g.w) A (.call (.ref a) ⟨hv++vals,[]⟩) R s:=by
 obtain ⟨fd,body,nms,Fn,Kg⟩:=ok.it;have hva:=rs.length;refine Ce (oa0:=oaF F) (nw:=nw) Fn gr ih hand GU GF B IH K3 (by rw [zB5,<- hh,hva]; exact F2) ?_ (fun k b m=>⟨(su m).1,hF b (su m).2⟩) (fun k hk=>?_) (fun k hk=>⟨?_,?_⟩) (fun L=>Kg A L bad) hb hR
 ·unfold fr0;rw [zB5,zB5,zA4,List.length_replicate,F2]; exact Q9 (zB1 Fn.npar Fn.nslots)
 ·refine (?_:bz g (fun b=>bad b\/b∈F.flatten) _ _ _ _);by_cases q:k < hd.length
  ·rw [Br (Q8 q),getElem?_append_left (hh▸q)];exact hs k _ (Q8 q)
  ·obtain ⟨j,rfl⟩:=Nat.exists_eq_add_of_le (not_lt.mp q);have hj:j < args.length:=by rw [<- F2] at hk; exact Nat.lt_of_add_lt_add_left hk
   obtain ⟨v,Jp,rv⟩:=rs.get (Q8 hj);rw [CY (Q8 hj),getElem?_append_right (by rw [<- hh]; exact Q3 _ _),<- hh,add_sub_cancel_left,Jp];refine ⟨?_,v,rfl,rv⟩;unfold oaF;by_cases z:hd.length+j=0
   ·rw [NP z]; exact h1 (length_eq_zero_iff.mp (Nat.eq_zero_of_add_eq_zero_right z))
   ·rw [NQ z]
 ·exact D7 (by rw [F2]; exact hk)
 ·unfold oaF;by_cases z:k=0
  ·rw [NP z];subst z;have:hd.length+args.length=0:=by rw [F2]; exact le_zero.mp (not_lt.mp hk)
   exact h1 (length_eq_zero_iff.mp (Nat.eq_zero_of_add_eq_zero_right this))
  ·rw [NQ z]
theorem Ran.rp (r:Ran g bad nw oa0 G0 vals s Φ' s') (x:Φ'.rp s'.heap v y):Rp g (mP bad (Φ'.oa 0)) s'.heap v y:=by
 have hg:=r.hg;subst hg;exact x.map fun b o e n=>⟨fun q=>q.elim (fun q=>n (.inl (r.mo▸q))) fun q=>n (.inr (.inr ⟨0,q⟩)),e⟩
theorem FldsAt.vals {h:Heap}:∀ {l:List V} {ws:List Value} {F:List (List Addr)},FldsAt g bad h ws (l.map .val) F->RpAll g bad h ws l
 | [],_,_,r=>by cases r; exact .nil
 | x :: l,_,_,r=>by
  cases r with
  | cons a b=>cases a with
   | val a=>exact .cons a (FldsAt.vals b)
def oL {bad:Addr->Prop} {K:GT} {Q:GE} {E:GE} {fn:Fn} (hC:g.fn f=g.C c) (it:InitAt g d c fn) (gr:Ground g) (ih:CallOk g (aj g.P d) d) (cc:CallC g (d+1) bad A s) (rs:RpAll g bad s.heap vals args) (F2:args.length+1=fn.npar) (hb:exs (aj g.P d) fn.body (fr0 fn [.ownI ⟨c,[]⟩] args) K)
  (hk:∀ fl G,K fl G->fl=none/\∃ o,getSlot G 0=.ownI o/\o.c=c)
  (hQ:∀ s' (Φ':Ct) o F D X od ws,K none Φ'.G->getSlot Φ'.G 0=.ownI o->o.c=c->Φ'.fx.g=g->Φ'.fx.Mo=bad->Base g s'->ao s.heap s'.heap->s.heap.get? D=none->s.heap.get? X=none->lB s.heap (.ref X)->D≠X->s'.heap.get? X=some (instObj (g.C c) D)->s'.heap.get? D=some od->bZ g c od ws->FldsAt g Φ'.bad s'.heap ws o.fs F->(D :: F.flatten).Nodup->Φ'.oa 0=[D] :: F->(∀ a∈F.flatten,s.heap.get? a=none/\a≠X/\aL s'.heap a)->Q (.ref X) s') :
  wpAny (model g.prog g.w) A (call (.ref (g.fn f)) vals) Q E s:=by
 obtain ⟨c3,fI,h1,h2,ok⟩:=it;rw [hC];have X:=gr.frag.keeps cc.base.stays;have kp:ao s.heap ((s.heap.push emptyDict).push (instObj (g.C c) s.heap.objs.size)):=(am _ _).trans (am _ _);have hD:((s.heap.push emptyDict).push (instObj (g.C c) s.heap.objs.size)).get? s.heap.objs.size=some emptyDict:=Q4 _ (Q2 _ rfl);have hX:((s.heap.push emptyDict).push (instObj (g.C c) s.heap.objs.size)).get? (s.heap.objs.size+1)=some (instObj (g.C c) s.heap.objs.size):=by rw [<- size_push s.heap emptyDict]; exact Q2 _ rfl
 have nb:∀ b,bad b->b < s.heap.objs.size:=fun b q=>(cc.live b q).elim fun o e=>lt_size e;have nd:¬ bad s.heap.objs.size:=fun q=>lt_irrefl _ (nb _ q);have nx:¬ bad (s.heap.objs.size+1):=fun q=>not_lt.mpr (le_succ _) (nb _ q);have x0:s.heap.get? (s.heap.objs.size+1)=none:=by
  cases e:s.heap.get? (s.heap.objs.size+1) with
  | none=>rfl
  | some o=>exact absurd (lt_size e) (not_lt.mpr (le_succ _))
 refine wpAny_call (make_core (makes_of X (gr.cls c c3).makes) (looks_findIn X h1) (fun self=>bind_fn X self h2) (.inl rfl) ?_);refine qW (F:=[[s.heap.objs.size]]) (hd:=[.ownI ⟨c,[]⟩]) (hv:=[.ref (s.heap.objs.size+1)]) (nw:=false) ok gr ih cc.hand (Cg cc.room) (Cf cc.units) ⟨cc.base.stays.trans kp,cc.base.os,cc.base.gens⟩ (fun b q=>kp.live (cc.live b q)) cc.zero rfl (by rw [add_comm]; exact F2) nofun (fun b m=>?_) (fun k sl e=>?_) (rs.map fun b o e n=>⟨fun q=>q.elim n fun q=>?_,kp b o e⟩) hb fun s' Φ' f' fl R G9 hkk=>?_
 ·obtain rfl:=zA6 m;exact ⟨⟨_,hD⟩,aK (fun l=>cc.base.stays.live l) (ak s.heap),nd⟩
 ·cases k with
  | zero=>
   obtain rfl:=LE e;exact ⟨_,[],.ref (s.heap.objs.size+1),rfl,rfl,_,_,[],rfl,(fun q=>q.elim nx fun q=>succ_ne_self _ (zA6 q)),hX,hD,⟨⟨rfl,rfl,rfl⟩,#[],0,rfl,rfl,fun j e h=>by simp at h⟩,.nil,pairwise_singleton _ _⟩
  | succ k=>exact nN e.symm
 ·exact ne_of_lt (lt_size e) (zA6 q)
 ·obtain ⟨rfl,o,sl,ec⟩:=hk _ _ hkk;subst G9;refine ⟨rfl,?_⟩;obtain ⟨v,pr,so⟩:=R.inv.slot 0;rw [sl] at so;obtain ⟨a',F,u,ha,rfl,b,od,ws,hu,hnb,hbo,ho,hF,hl,KM⟩:=so;obtain ⟨GO,e0⟩:=R.inst a' F ha (by rw [sl]; trivial);obtain rfl:s.heap.objs.size=a':=(zA5 (zA5 e0).1).1;have hg:=R.hg;subst hg;have Ko:ao s.heap s'.heap:=fun b o e=>R.keep b o (kp b o e) fun q=>ne_of_lt (lt_size e) (zA6 q);refine hQ s' Φ' o F s.heap.objs.size (s.heap.objs.size+1) od ws hkk sl ec rfl R.mo R.inv.base Ko (ak _) x0 (eB (le_succ _)) (succ_ne_self _).symm (R.keep _ _ hX fun q=>succ_ne_self _ (zA6 q)) ho (ec▸hF) hl KM ha fun b m=>?_;have mb:b∈(Φ'.oa 0).flatten:=by rw [ha]; exact .tail _ m
  have nD:b≠s.heap.objs.size:=fun q=>(nodup_cons.mp KM).1 (q▸m);have n0:((s.heap.push emptyDict).push (instObj (Φ'.fx.g.C c) s.heap.objs.size)).get? b=none:=(R.news b mb).elim (fun q=>absurd (zA6 q) nD) id;exact ⟨aK kp.live n0,fun q=>al n0 (q▸hX),(R.inv.new b (.inr ⟨0,mb⟩)).1⟩
def zP {c:Nat} {l:List V} (h:l.length≠0):ikO (l.map fun x=>(PyData.int c,x))=some c:=by
 cases l with
 | nil=>exact absurd rfl h
 | cons=>rfl
def ou {d:Nat} (gr:Ground g) (Hi:∀ f fn,g.P.fns[f]?=some fn->iu g d f fn) (ih:CallOk g (aj g.P d) d):CallOk g (aj g.P (d+1)) (d+1) where
 p:=fun f args K A s bad vals E hc cc rs=>by
  refine ae (hc:BG g.P (aj g.P d) f args K) fun fn hf hb=>?_;have ko:=Hi f fn hf;unfold iu at ko;cases hkd:fn.kind with
  | fn=>
   rw [hkd] at hb ko;refine wpAny_call (qW (F:=[]) (hd:=[]) (hv:=[]) (nw:=g.newf f) ko gr ih cc.hand (w7 cc.room) (w6 cc.units) cc.base cc.live cc.zero rfl (by rw [length_nil,zero_add]; exact hb.1) (fun U=>rfl) (fun b m=>nM m) (fun k sl e=>nN e.symm) (rs.map fun b o e n=>⟨fun q=>q.elim n fun q=>nM q,e⟩) hb.2 fun s' Φ' f' fl R G9 hk=>?_);have kk:ao s.heap s'.heap:=fun b o e=>R.keep b o e fun q=>nM q;cases fl with
   | none=>subst G9; exact ⟨R.hg▸R.inv.base,kk,_,hk,.none,fun U a b q=>nomatch q⟩
   | some y=>obtain ⟨v,rfl,r,nv⟩:=G9; exact ⟨R.hg▸R.inv.base,kk,_,hk,(R.rp r).map fun b o e n=>⟨fun q=>n (.inl q),e⟩,fun q=>nv (R.hnw▸q)⟩
  | cls c n=>
   rw [hkd] at hb ko;obtain ⟨hC,n0,it⟩:=ko;refine oL (bad:=bad) hC it gr ih cc rs hb.1 hb.2 (fun fl G hk=>⟨hk.1,ae hk.2 fun o eo h=>⟨o,db eo,h.1⟩⟩) fun s' Φ' o F D X od ws hk sl ec hg MB B' kk hD hX nv nDX gX gD fo fl nd eoa nw=>?_;refine ae hk.2 fun o' eo h=>?_;obtain rfl:o'=o:=by have:=db eo; rw [sl] at this; injection this with z; exact z.symm
   obtain ⟨_,l,el,ll,kl⟩:=h;rw [el] at fl;subst hg;have Kj:∀ b,s.heap.get? b=none->¬ bad b:=fun b e q=>(cc.live b q).elim fun o z=>al e z;exact ⟨B',kk,_,kl,.inst (Kj X hX) (Kj D hD) gX gD fo (zP (by rw [ll]; exact n0)) (by rw [map_map]; exact map_id l) (fl.vals.map fun b o e n=>⟨fun q=>n (.inl (MB▸q)),e⟩),fun U=>nv⟩
  | _=>rw [hkd] at hb; exact hb.elim
 m:=fun f args K A s bad vals E hc cc rs=>by
  refine ae (hc:BI g.P (aj g.P d) f args K) fun fn hf hb=>?_;have ko:=Hi f fn hf;unfold iu at ko;cases hkd:fn.kind with
  | ocls c=>
   rw [hkd] at hb ko;obtain ⟨hC,it⟩:=ko;refine oL (bad:=bad) hC it gr ih cc rs hb.1 hb.2 (fun fl G hk=>⟨hk.1,ae hk.2 fun o eo h=>⟨o,db eo,h.1⟩⟩) fun s' Φ' o F D X od ws hk sl ec hg MB B' kk hD hX nv nDX gX gD fo fl nd eoa nw=>?_;refine ae hk.2 fun o' eo h=>?_;obtain rfl:o'=o:=by have:=db eo; rw [sl] at this; injection this with z; exact z.symm
   subst hg;subst ec;have Kj:∀ b,s.heap.get? b=none->¬ bad b:=fun b e q=>(cc.live b q).elim fun o z=>al e z;have nd:=nodup_cons.mp nd;refine ⟨B',kk,o',F,h.2,⟨X,D,od,ws,rfl,fun q=>q.elim (Kj X hX) fun q=>(nw X q).2.1 rfl,fun q=>q.elim (Kj D hD) nd.1,gX,gD,fo,fl.map (fun b o e n=>⟨fun q=>q.elim (fun q=>n (.inl (MB▸q))) fun q=>n (.inr (.inr ⟨0,by rw [eoa]; exact .tail _ q⟩)),e⟩) fun U U U e=>e,nd.2⟩,fun b m=>⟨(nw b m).1,(nw b m).2.2⟩⟩
  | _=>rw [hkd] at hb; exact hb.elim
 o:=fun f o args K A s bad F vals u E hc cc nF ob rs=>by
  refine ae (hc:BH g.P (aj g.P d) f o args K) fun fn hf hb=>?_;have ko:=Hi f fn hf;unfold iu at ko;cases hkd:fn.kind with
  | met=>
   rw [hkd] at hb ko;refine wpAny_call (qW (bad:=bad) (F:=F) (hd:=[.obj o]) (hv:=[u]) (nw:=g.newf f) ko gr ih cc.hand (w7 cc.room) (w6 cc.units) cc.base (fun b q=>cc.live b (.inl q)) (fun b q=>cc.zero b (.inl q)) rfl (by rw [add_comm]; exact hb.1) nofun (fun b m=>⟨cc.live b (.inr m),cc.zero b (.inr m),nF b m⟩) (fun k sl e=>?_) rs hb.2 fun s' Φ' f' fl R G9 hk=>?_)
   ·cases k with
    | zero=>obtain rfl:=LE e; exact ⟨u,rfl,ob⟩
    | succ k=>exact nN e.symm
   ·refine ae hk fun o' eo hk=>?_;have sl:=jG eo;obtain ⟨gw,pr⟩:Φ'.oa 0=F/\_:=R.objs o' u sl (by rw [Br (sl:=.obj o) rfl]; nofun) rfl;obtain ⟨u',L7,Lw⟩:=nj R.inv sl;obtain rfl:=LE (r8 L7 pr);have hg:=R.hg;have mk:bK Φ'.bad (mP bad (Φ'.oa 0)) s'.heap s'.heap:=fun b o e n=>⟨fun q=>q.elim (fun q=>n (.inl (R.mo▸q))) fun q=>n (.inr (.inr ⟨0,q⟩)),e⟩;have fin:∀ v,Rp g (mP bad (Φ'.oa 0)) s'.heap v (fl.getD .none)->CallO g bad F u' s K v s':=fun v r=>⟨hg▸R.inv.base,fun b o e n=>R.keep b o e n,fl.getD .none,o',hk,gw▸r,gw▸(hg▸Lw.map mk fun U U U e=>e),fun b m=>(R.inv.new b (.inr ⟨0,gw▸m⟩)).1⟩;cases fl with
    | none=>subst G9; exact fin _ .none
    | some y=>obtain ⟨v,rfl,r,nv⟩:=G9; exact fin v (R.rp r)
  | _=>rw [hkd] at hb; exact hb.elim
end
def cV {α:Type} {o:Option α} {p:α->Bool} (h:o.any p=true):∃ x,o=some x/\p x=true:=by
 cases o with
 | none=>exact nB h
 | some x=>exact ⟨x,rfl,h⟩
def l4 {K:Frag} {h:Heap} {a:Addr} {m:Str->Option Value} {x:Str} {r:Option Value} (X:K.In h) (n:h.Ns a m) (e:nsIn K a x=some r):m x=r:=by
 obtain ⟨o,es,ep,ho,hd,hs,hf⟩:=n
 delta nsIn at e
 cases q:K.lookup a with
 | none=>rw [q] at e; exact nN e.symm
 | some o'=>
  obtain rfl:=LE (ho.symm.trans (X _ _ q));obtain ⟨c,d,dt,sl⟩:=o;subst hd;rw [q] at e;refine (hf x).symm.trans ?_;unfold nsFind findBy;rw [<- Array.find?_toList];have e:(match es.toList.find? (·.key.isStr x) with | some e=>some (some e.val) | none=>if es.toList.any (·.refKey) then none else some none)=some r:=e;cases z:es.toList.find? (·.key.isStr x) with
  | some en=>rw [z] at e; exact LE e
  | none=>
   rw [z] at e;refine (?_:none=r);cases w:es.toList.any (·.refKey) with
   | true=>rw [w] at e; exact nN e.symm
   | false=>rw [w] at e; exact LE e
def pM {ps:List Str}:∀ {vals:List Value},ps.length=vals.length->∀ n∈ps,((ps.zip vals).lookup n).isSome=true:=by
 induction ps with
 | nil=>intro vals _ n hn; cases hn
 | cons p ps ih=>
  intro vals h n hn;cases vals with
  | nil=>(injection h; done)
  | cons v vals=>
   rw [List.zip_cons_cons,lookup_cons];cases hb:n==p with
   | true=>rfl
   | false=>
    rcases mem_cons.mp hn with rfl | hn
    ·simp at hb
    ·exact ih (Nat.succ.inj h) n hn
theorem pj:∀ {l:List α},(∀ x∈l,f x=g x)->l.filterMap f=l.filterMap g
 | [],_=>rfl
 | a :: l,h=>by rw [filterMap_cons,filterMap_cons,h a (.head _),pj fun x hx=>h x (.tail _ hx)]
def pN {ps:List Str}:∀ {vals:List Value},ps.Nodup->ps.length=vals.length->ps.filterMap (fun n=>((ps.zip vals).lookup n).map (n,·))=ps.zip vals:=by
 induction ps with
 | nil=>intro vals _ _; rfl
 | cons p ps ih=>
  intro vals hn h;cases vals with
  | nil=>(injection h; done)
  | cons v vals=>
   obtain ⟨h1,h2⟩:=nodup_cons.mp hn;refine List.zip_cons_cons.symm▸filterMap_cons.symm▸?_;simp only [lookup_cons,NJ,map_some]
   congr 1
   refine Eq.trans (pj fun n Gk=>?_) (ih h2 (Nat.succ.inj h));have:(n==p)=false:=beq_false_of_ne fun e=>h1 (e▸Gk);rw [this]
def pH {α β γ:Type} {l:List α} {b:β} {f:α->β->Sem (ForInStep β)} {g:β->Sem γ} {r:Sem γ} (h:l=[]) (k:g b=r):(forIn l b f >>= g)=r:=by subst h; exact k
def ox {fd:FuncData} {ps:List Str} {vals:List Value} (h1:fd.params.posonlyargs=[]) (h2:fd.params.args.map (·.arg)=ps) (h3:fd.params.kwonlyargs=[]) (h4:fd.params.vararg=none) (h5:fd.params.kwarg=none)
  (h6:fd.defaults=.none) (hn:ps.Nodup) (hl:vals.length=ps.length):bindArgs fd ⟨vals,[]⟩=pure (ps.zip vals):=by
 have hm:(filter (fun n=>(lookup n (ps.zip vals)).isNone) ps)=[]:=by
  rw [List.filter_eq_nil_iff];intro n hn;rw [isNone_iff_eq_none];exact Option.isSome_iff_ne_none.mp (pM hl.symm n hn)
 obtain ⟨nm,qn,⟨po,as,va,ko,kd,kw,df⟩,body,sc,gl,cl,dfs,kdf,doc,pm,an,cd,ct,bl⟩:=fd;obtain rfl:po=[]:=h1;obtain rfl:ko=[]:=h3;obtain rfl:va=none:=h4;obtain rfl:kw=none:=h5;obtain rfl:dfs=.none:=h6;have h2:as.map Arg.arg=ps:=h2;have e1:(decide (vals.length > ([]++as.map Arg.arg).length)&&true)=false:=by rw [nil_append,h2,hl,Bool.and_true]; exact NM (lt_irrefl _)
 have e2:(!(filter (fun n=>(lookup n (([]++as.map Arg.arg).zip vals)).isNone) (([]++as.map Arg.arg).take (([]++as.map Arg.arg).length - (([]:List Value).drop (([]:List Value).length - ([]++as.map Arg.arg).length)).length))).isEmpty)=false:=by
  rw [nil_append,h2,drop_nil,length_nil,sub_zero,take_length,hm]; rfl
 have e4:(([]++as.map Arg.arg).drop (([]++as.map Arg.arg).length - (([]:List Value).drop (([]:List Value).length - ([]++as.map Arg.arg).length)).length)).zip (([]:List Value).drop (([]:List Value).length - ([]++as.map Arg.arg).length))=[]:=by rw [drop_nil,List.zip_nil_right]
 have e3:(([]++as.map Arg.arg)++[]).filterMap (fun n=>(lookup n (([]++as.map Arg.arg).zip vals)).map (n,·))=ps.zip vals:=by
  rw [append_nil,nil_append,h2,pN hn hl.symm]
 exact (NQ (eq_false_iff.mp e1)).trans ((NQ (eq_false_iff.mp e2)).trans (pH e4 (pH rfl (NO pure e3))))
def w8 (h:Du v=some c):v=.ref c:=by
 cases v with
 | ref a=>rw [LE h]
 | _=>exact nN h.symm
def zY {d:Data} (h:Bs d=some vs):d=.fields vs:=by
 cases d with
 | fields a=>rw [LE h]
 | _=>exact nN h.symm
def Cc {d:Data} (h:EV d=some vs):∃ n,d=.seq vs n:=by
 cases d with
 | seq a n=>exact ⟨n,by rw [LE h]⟩
 | _=>exact nN h.symm
def zU {d:Data} (h:Bq d=some fd):d=.func fd:=by
 cases d with
 | func a=>rw [LE h]
 | _=>exact nN h.symm
def u3 {d:FuncBody} (h:jW d=some b):d=.stmts b:=by
 cases d with
 | stmts a=>rw [LE h]
 | _=>exact nN h.symm
def yR (h:rc v q=true):∃ t,v=.str q t:=by
 cases v with
 | str s t=>exact ⟨t,by rw [Id (h:(s==q)=true)]⟩
 | _=>exact nB h
def rU {α:Type} {l:List α} {y:α} (h:iw l=some y):l=[y]:=by
 cases l with
 | nil=>exact nN h.symm
 | cons a l=>cases l with
  | nil=>rw [LE h]
  | cons=>exact nN h.symm
def As {K:Frag} {h:Heap} {cd:Value} {q:Str} (X:K.In h) (e:tn K cd q=true):h.CodeRec cd q:=by
 obtain ⟨c,hc,e⟩:=cV e;obtain ⟨o,ho,e⟩:=cV e;obtain ⟨vs,hv,e⟩:=cV e;obtain ⟨u,hu,e⟩:=cV e;obtain ⟨t,rfl⟩:=yR e;exact ⟨_,_,_,_,w8 hc,X _ _ ho,zY hv,hu⟩
def B9 (H:GOk g Z) (h1:yr Z fn.body ⟨fd.scope.names,nms.zipIdx,nms.length,fn.nslots,nw⟩ body=true) :
  xS g d a fn fd body nms nw:=fun A L bad=>AP (n:=d) H fn.body (zW g A fd nms fn.nslots a L bad d nw) body rfl rfl h1
set_option tactic.hygienic true in
def zX {g:Gl} {K:Frag} {Z:Zx} {a:Addr} {fn:Fn} {nms:List Str} {nw:Bool} (H:GOk g Z) (X:K.In g.h0) (e0:xE K a=true) (e:eV Z fn nms nw (eW K a)=true):∀ d,FnOk g d fn a nw:=by
 obtain ⟨fd,hf,e0⟩:=cV e0;obtain ⟨o,ho,hd⟩:=bind_eq_some_iff.mp hf;have hd:=zU hd;unfold eW at e;rw [hf] at e;cases hb:jW fd.body with
 | none=>have e:eV Z fn nms nw ((jW fd.body).map _)=true:=e; rw [hb] at e; exact nB e
 | some body=>
   have e:eV Z fn nms nw ((jW fd.body).map _)=true:=e;rw [hb] at e;have hb:=u3 hb;obtain ⟨h1,e0⟩:=a2 e0;obtain ⟨h2,e0⟩:=a2 e0;obtain ⟨h3,e0⟩:=a2 e0;obtain ⟨h4,LS⟩:=a2 e0;obtain ⟨h5,e⟩:=a2 e;obtain ⟨h6,e⟩:=a2 e;obtain ⟨h7,e⟩:=a2 e;obtain ⟨h8,e⟩:=a2 e;obtain ⟨h9,e⟩:=a2 e;obtain ⟨Hk,e⟩:=a2 e;obtain ⟨LU,e⟩:=a2 e;obtain ⟨MQ,e⟩:=a2 e;obtain ⟨Ja,e⟩:=a2 e;obtain ⟨LR,e⟩:=a2 e;obtain ⟨h16,e⟩:=a2 e;obtain ⟨h17,h18⟩:=a2 e;have Ja:=oW Ja;have LR:=IO LR;refine fun d=>⟨fd,body,nms,⟨⟨_,X _ _ ho,hd⟩,hb,As X h1,Id h2,Id h3,isEmpty_iff.mp h4,not_eq_true' _▸h5,not_eq_true' _▸h6,Id h7,fun vals hv=>?_,Ja,LR,IO h16,fun x m=>((or_eq_true _ _).mp (Q6.mp h17 x m)).imp Id Id⟩,B9 H h18⟩;refine ox (isEmpty_iff.mp h8) (Id h9) (isEmpty_iff.mp Hk) (isNone_iff_eq_none.mp LU) (isNone_iff_eq_none.mp MQ) ?_ (Ja.sublist (take_sublist _ _)) (by rw [length_take,hv]; exact (min_eq_left LR).symm);cases hd:fd.defaults <;> rw [hd] at LS <;> first | rfl | exact nB LS
def wC (X:g.K.In g.h0) (e:pD g.K u v=true):∀ (bad:Addr->Prop) h,ao g.h0 h->(∀ a,bad a->g.h0.get? a=none)->Rp g bad h u v:=fun bad h st hb=>by
 cases v with
 | int i=>obtain ⟨t,rfl⟩:=Value.isInt_shape e; exact .int _ _
 | str l=>obtain ⟨t,rfl⟩:=Value.isStrOf_shape e; exact .str _ _
 | tuple l=>
  obtain ⟨a,ha,e⟩:=cV e;obtain ⟨o,ho,e⟩:=cV e;obtain ⟨e1,e⟩:=a2 e;obtain ⟨vs,hv,e⟩:=cV e;obtain ⟨w,hw,e⟩:=cV e;obtain ⟨y,hy,e⟩:=cV e;obtain ⟨n,hd⟩:=Cc hv;have hx:=X _ _ ho;rw [w8 ha];refine .tuple (fun q=>al (hb _ q) hx) (st _ _ hx) (Id e1) hd ?_;rw [rU hw,rU hy];cases y with
  | int i=>obtain ⟨t,rfl⟩:=Value.isInt_shape e; exact .cons (.int _ _) .nil
  | _=>exact nB e
 | _=>exact nB e
def EQ:bD.all (fun p=>bootBuiltins p.1==some p.2&&p.1 != ("__name__" : Str))=true:=by decide +kernel
def Dh (e:rB g.K (g.C c) (g.flds c)=true):ClsOk g c:=by
 refine (a2 e).elim fun h1 e=>?_;obtain ⟨h2,e⟩:=a2 e;obtain ⟨h3,e⟩:=a2 e;obtain ⟨h4,e⟩:=a2 e;obtain ⟨h5,e⟩:=a2 e;obtain ⟨h6,e⟩:=a2 e;obtain ⟨h7,e⟩:=a2 e;exact ⟨Id h1,Id h2,Id h3,h4,h5,fun x m=>Id (Q6.mp h6 x m),h7,IO (a2 e).1,IO (a2 e).2⟩
def CV (gr:Ground g) (e1:g.fns=Z.fns) (e2:g.cons=Z.cons) (e3:∀ c,g.flds c=Z.flds.getD c []) (e4:Z.flds.length=2) (e8:g.newf=Z.newf) (h1:Z.fns.all (fun p=>keepIn g.K (.ref (g.fn p.2)))=true) (h2:Z.meths.all (fun m=>decide (m.1 < 2)&&xl g.K (g.C m.1) (g.flds m.1) g.fn m.2)=true):GOk g Z where
 fns:=e1
 cons:=e2
 newf:=e8
 flds:=fun c l e=>⟨by rw [e3,getD_eq_getElem?_getD,e]; rfl,gr.cls c (by rw [<- e4]; exact (List.getElem?_eq_some_iff.mp e).1)⟩
 keep:=fun x f e=>Q6.mp h1 _ (PySem.mem_of_lookup e)
 meths:=fun c nm f m=>by
  obtain ⟨q0,q⟩:=a2 (Q6.mp h2 _ m);obtain ⟨q1,q⟩:=a2 q;obtain ⟨q2,q⟩:=a2 q;exact ⟨gr.cls c (IO q0),⟨fun m=>by have q1:(!(g.flds c).elem nm)=true:=q1; rw [elem_iff.mpr m] at q1; exact (nB q1),Id q2,Id (a2 q).1,(a2 q).2⟩⟩
set_option tactic.hygienic true in
def uf (X:g.K.In g.h0) (hm:g.h0.Ns mainGlobals g.mg) (hb:g.h0.Ns builtinsNs g.mb) (hl:g.h0.NoLimit) (MI:∀ x:Str,x≠"__name__"->g.mb x=bootBuiltins x) (h0:(g.K.lookup sysModules).isSome=true) (hc:∀ c,c < 2->rB g.K (g.C c) (g.flds c)=true)
  (h1:g.fns.all (fun p=>nsIn g.K mainGlobals p.1==some (some (.ref (g.fn p.2))))=true) (h3:g.cons.all (xM g.K)=true) (h4:bD.all (fun p=>nsIn g.K mainGlobals p.1==some none)=true):Ground g where
 main:=hm
 blt:=hb
 nolim:=hl
 sysm:=(isSome_iff_exists.mp h0).elim fun o e=>⟨o,X _ _ e⟩
 frag:=X
 cls:=fun c h=>Dh (hc c h)
 fns:=fun x f e=>l4 X hm (Id (Q6.mp h1 _ (PySem.mem_of_lookup e)))
 cons:=fun x v e=>by
  have q:=Q6.mp h3 _ (PySem.mem_of_lookup e);obtain ⟨u,hu,q⟩:=cV q;obtain ⟨u',hu,e⟩:=bind_eq_some_iff.mp hu;have e:u'=some u:=e;subst e;exact ⟨u,l4 X hm ((xh ..).symm.trans hu),wC X q⟩
 blts:=fun x v e=>by
  have q:=a2 (Q6.mp EQ _ (PySem.mem_of_lookup e));exact ⟨l4 X hm (Id (Q6.mp h4 _ (PySem.mem_of_lookup e))),(MI x (bne_iff_ne.mp q.2)).trans (Id q.1)⟩
theorem jr (gr:Ground g) (Hi:∀ f fn,g.P.fns[f]?=some fn->∀ d,iu g d f fn):∀ d,CallOk g (aj g.P d) d
 | 0=>⟨fun U U U U U U U U h=>h.elim,fun U U U U U U U U h=>h.elim,fun U U U U U U U U U U U h=>h.elim⟩
 | d+1=>ou gr (fun f fn h=>Hi f fn h d) (jr gr Hi d)
def qy (xs:List WData):WShape.hasItems [] xs .int=true->∃ is:List Int,xs=is.map .int:=by
 induction xs with
 | nil=>exact fun U=>⟨[],rfl⟩
 | cons x xs ih=>
  intro h;have h:=a2 (b:=WShape.hasItems [] xs .int) h;have h1:=h.1;cases x with
  | int i=>exact (ih h.2).elim fun is e=>⟨i :: is,NO _ e⟩
  | _=>(injection h1; done)
noncomputable def De (v:Option WData):Bool:=match (match (match v with | some (.bool b)=>some (WData.bool (!b)) | _=>none) with | some (.bool false)=>some (WData.bool false) | some (.bool true)=>some (WData.bool true) | _=>none) with | some (.bool true)=>true | _=>false
noncomputable def EJ (b:Bool):Bool:=match some (WData.bool b) with | some (.bool true)=>true | _=>false
def tP:same (.bool true) (.bool true)=true:=by simp only [same,NJ]
def CH (h:(WTm.and (.not (.lt (.lit (.int (63:Nat))) (.len (.arg 0)))) (.lit (.bool true))).holds [] { args:=[.list xs] }=true):xs.length<=63:=by
 have h:De (some (.bool (decide (((63:Nat):Int) < (xs.length:Int)))))=true:=h;by_cases hq:((63:Nat):Int) < (xs.length:Int)
 ·rw [NL hq] at h; (injection h; done)
 ·lia
def Ci {l:OpenLaw} (hm:l.most=some 63) (hb:l.bound=none):l.pre=.and (.not (.lt (.lit (.int (63:Nat))) (.len (.arg 0)))) (.lit (.bool true)):=by
 unfold OpenLaw.pre; rw [hm,hb]
def tN {l:OpenLaw} (hm:l.most=some 63) (hb:l.bound=none) {args:List WData} (h:l.row.claim.pre args=true):∃ is:List Int,args=[.list (is.map .int)]/\is.length<=63:=by
 have h:=a2 (a:=WShape.hasAll [] args [.list .int]) (b:=l.pre.holds [] { args:=args }) h;rw [Ci hm hb] at h;cases args with
 | nil=>(injection h.1; done)
 | cons x r=>
  have h1:=a2 (a:=WShape.has [] x (.list .int)) h.1;cases r with
  | cons y r=>(injection h1.2; done)
  | nil=>
   have h2:=h1.1;cases x with
   | list xs=>
    have h2:(WShape.hasItems [] xs .int||false)=true:=h2;rw [Bool.or_false] at h2;refine (qy xs h2).elim fun is e=>⟨is,NO (fun xs=>[WData.list xs]) e,?_⟩;have:=CH h.2;rw [e,zA4] at this;exact this
   | _=>(injection h2; done)
set_option tactic.hygienic true in
def tQ (is:List Int):∀ vs:List Value,WellAll P g.h0 vs (is.map .int)->RpAll g (fun U=>False) g.h0 vs (is.map .int):=by
 induction is with
 | nil=>intro vs w; cases w; exact .nil
 | cons i is ih=>
  intro vs w;cases w with
  | cons w ws=>cases w with
   | int _ t=>exact .cons (.int i t) (ih _ ws)
set_option tactic.hygienic true in
def vX {l:OpenLaw} (hm:l.most=some 63) (hb:l.bound=none) {g:Gl} {f d:Nat} {cl:Str->Option Addr} {Jl:ExcName->Option Value} {s₁:Shared} {args:List WData} {vals:List Value} {Pm:Params}
  (call:CallOk g (aj g.P d) d) (hg:g.prog=l.row.prog) (h0:g.h0=s₁.heap) (ho:g.os=s₁.os) (hgn:s₁.gens=#[]) (hd:d<=40)
  (Js:l.row.claim.pre args=true) (Mr:WellAll Pm s₁.heap vals args)
  (plain:∀ FS:List Int,FS.length<=63->(aj g.P d).p f [.list (FS.map .int)] fun y=>y=.bool true) :
  wpAny (model l.row.prog g.w) callerA (PySem.call (.ref (g.fn f)) vals) (fun v s'=>GoodWG l.row.claim cl Jl args s₁ (.ok (.ret v)) s') (fun e s'=>GoodWG l.row.claim cl Jl args s₁ (.error e) s') s₁:=by
 obtain ⟨is,rfl,F2⟩:=tN hm hb Js;cases Mr with
 | cons w ws=>
 cases ws
 cases w with
 | list ha hws=>
 rename_i a vs;have rp:RpAll g (fun U=>False) s₁.heap [.ref a] [.list (is.map .int)]:=by
  rw [<- h0] at hws ha ⊢;exact .cons (.list id ha ⟨rfl,rfl⟩ rfl (by rw [List.toList_toArray]; exact tQ _ _ hws)) .nil
 have B:Base g s₁:=⟨by rw [h0]; exact fun b o e=>e,ho.symm,hgn⟩;have w:=call.p f [.list (is.map .int)] _ callerA s₁ (fun U=>False) [.ref a] (fun e s'=>GoodWG l.row.claim cl Jl [.list (is.map .int)] s₁ (.error e) s') (plain is F2) ⟨rfl,(by refine (?_:1+claimMargin+2 * d < 990); exact Q0 (Q7 (mul_le_mul_left 2 hd) _) (by decide)),
  (by refine (?_:4+4 * d+100 < cLine); have:(1000:Nat)<=cLine:=(by decide +kernel); exact Q1 (Q0 (add_le_add_right (Q7 (mul_le_mul_left 4 hd) 4) 100) (by decide)) this),B,fun a q=>q.elim,fun a q=>q.elim⟩ rp
 rw [hg] at w;refine LT w (fun v s' p=>?_) fun U U z=>z;obtain ⟨B',_,y,rfl,r,_⟩:=p;refine r.bool_elim ?_;refine GoodW.toG ⟨.inl ⟨_,.bool true,[],rfl,fun cls=>rfl,ReadsW.bool true,(by
  refine (?_:(WShape.has [] (.bool true) .bool&&(WTm.eq .res (.lit (.bool true))).holds [] _)=true);refine zA3 ⟨rfl,?_⟩;exact NO EJ tP),fun U=>⟨nodup_nil,fun a ha=>(nM ha)⟩⟩,?_,B'.os.trans ho,B'.gens⟩
 have:=B'.stays;rw [h0] at this;exact fun b o e=>this b o e
end Mine
end
noncomputable section
namespace Mine.L05
open PySem PySem.Calls PyProof.Rows PySem.W
def uv:@ju mG 0 fns nms yM=true:=by kernel_rfl
def FL:ju 0 fns nms yM=true:=sX▸uv
theorem xD {K:Frag}:∀ {i:Nat} {fns:List Fn} {n:List (List Str)} {A:List Addr} {b:List (Option gy)},ju i fns n b=true->A.map (eW K)=b->∀ {f:Nat} {fn:Fn},fns[f]?=some fn->A.getD f 0∈A/\∃ m,eV Z fn m (newf (i+f)) (eW K (A.getD f 0))=true
 | _,[],_,_,_,_,_,_,_,h=>nN h.symm
 | _,_ :: _,[],_,_,e,_,_,_,_=>nB e
 | _,_ :: _,_ :: _,_,[],e,_,_,_,_=>nB e
 | _,_ :: _,_ :: _,[],_ :: _,_,q,_,_,_=>nomatch q
 | i,fn :: r,n :: m,a :: A,b :: B,e,q,0,_,h=>by
  (injection h with h; subst h);obtain ⟨q1,q2⟩:=zA5 q;refine ⟨.head _,n,?_⟩;refine (?_:eV Z fn n _ (eW K a)=true);rw [q1]; exact (a2 e).1
 | i,fn :: r,n :: m,a :: A,b :: B,e,q,f+1,_,h=>by
  obtain ⟨q1,q2⟩:=zA5 q;rw [show i+(f+1)=i+1+f from (succ_add i f).symm];exact (xD (a2 e).2 q2 (f:=f) h).imp (.tail _) id
def DF (f c:Nat):Bool:=fnA.getD f 0==xN.getD c 0&&(fnB.getD f 0==Bk.getD c 0&&(decide (c < 2)&&newf f==false))
def yd (f:Nat) (fn:Fn):Bool:=match fn.kind with
 | .cls c n=>n != 0&&DF f c
 | .ocls c=>DF f c
 | _=>fnB.getD f 0==fnA.getD f 0
def zH:(List.range 43).all (fun f=>(fns[f]?).all (yd f))=true:=rfl
def zJ (h:fns[f]?=some fn):yd f fn=true:=by
 have:=Q6.mp zH f (mem_range.mpr (List.getElem?_eq_some_iff.mp h).1);rw [h] at this;exact this
def Ax (KX:g.K.In g.h0) (e:chk g.K=true) (MJ:fnB.map (eW g.K)=yM) (hf:g.fn=fun f=>fnA.getD f 0) (hC:g.C=fun c=>xN.getD c 0) (G9:g.flds=fun c=>fldN.getD c []) (Hi:g.fns=fnN) (hcn:g.cons=conN) (hP:g.P=prog) (hnw:g.newf=newf) (hm:g.h0.Ns mainGlobals g.mg) (hb:g.h0.Ns builtinsNs g.mb) (hl:g.h0.NoLimit) (MI:∀ x:Str,x≠"__name__"->g.mb x=bootBuiltins x) (d:Nat):Ground g/\CallOk g (aj g.P d) d:=by
 obtain ⟨e1,e⟩:=a2 e;obtain ⟨c0,e⟩:=a2 e;obtain ⟨c1,e⟩:=a2 e;obtain ⟨e3,e⟩:=a2 e;obtain ⟨e4,e⟩:=a2 e;obtain ⟨e5,e⟩:=a2 e;obtain ⟨e6,e⟩:=a2 e;obtain ⟨e7,e10⟩:=a2 e;simp only [xh] at e3 e5;have cls:∀ c,c < 2->rA g.K c=true:=fun c h=>match c,h with
  | 0,_=>c0
  | 1,_=>c1
  | _+2,h=>absurd h (not_lt.mpr (le_add_left _ _))
 have gr:Mine.Ground g:=uf KX hm hb hl MI e1 (fun c h=>by rw [hC,G9]; exact (a2 (cls c h)).1) (by rw [Hi,hf]; exact e3) (by rw [hcn]; exact e4) e5;have ok:GOk g Z:=CV gr Hi hcn (fun c=>by rw [G9]; rfl) rfl hnw (by rw [hf]; exact e6) (by rw [hC,G9,hf]; exact e7);refine ⟨gr,jr gr (fun f fn h d=>?_) d⟩;rw [hP] at h;obtain ⟨mb,m,q⟩:=xD FL MJ h;have mb:=Q6.mp e10 _ mb;rw [zero_add] at q;have i:=zJ h;have fo:=fun d=>zX (g:=g) ok KX mb q d;have Mn:∀ c,DF f c=true->g.fn f=g.C c/\InitAt g d c fn:=fun c i=>by
  obtain ⟨i1,i⟩:=a2 i;obtain ⟨i2,i⟩:=a2 i;obtain ⟨i3,i4⟩:=a2 i;have i3:=IO i3;obtain ⟨_,k⟩:=a2 (cls c i3);have fo:=fo d;rw [Id i4,Id i2] at fo;exact ⟨by rw [hf,hC]; exact Id i1,⟨i3,Bk.getD c 0,by rw [hC]; exact Id (a2 k).1,Id (a2 k).2,fo⟩⟩
 unfold yd at i;unfold iu;cases hk:fn.kind with
 | cls c n=>rw [hk] at i; exact ⟨(Mn c (a2 i).2).1,bne_iff_ne.mp (a2 i).1,(Mn c (a2 i).2).2⟩
 | ocls c=>rw [hk] at i; exact Mn c i
 | _=>rw [hk] at i; have fo:=fo d; rw [Id i] at fo; rw [hf,hnw]; exact fo
end Mine.L05
end
noncomputable section
namespace Mine
open PySem
noncomputable def evs (cf:CallF) (es:List E):List D:=E.rec_1 (motive_1:=fun U=>D) (motive_2:=fun U=>List D) (fun o U ih=>bx cf o ih) [] (fun U U i is=>i :: is) es
def exi (cf:CallF) (l:List S):B:=S.rec_1 (motive_1:=fun U=>B) (motive_2:=fun U=>B) (fun o es U U x y=>dC cf o (es.map (ev cf)) x y) (fun G K=>K none G) (fun U U i is G K=>i G fun fl G'=>match fl with | none=>is G' K | some x=>K (some x) G') l
section
variable {cf:CallF} {G:Gs} {K:GT} {e a b c:E} {es:List E} {r:List S} {v x y z:V} {o:Op} {k:Nat} {t u:Bool}
def Val (cf:CallF) (G:Gs) (e:E) (v:V):Prop:=∀ K,K v->ev cf e G K
def dR (cf:CallF) (G:Gs) (es:List E) (vs:List V):Prop:=∀ K,K vs->bj (evs cf es) G K
def bm (cf:CallF) (b:Bool) (G:Gs) (es:List E) (t:Bool):Prop:=∀ K,K t->cp b (evs cf es) G K
def ag {α:Type} {o:Option α} {z:α} {K:α->Prop} (e:o=some z) (h:K z):okK o K:=by rw [e]; exact h
def ix {α:Type} {v:α} (K:α->Prop) (h:K v):K v:=h
theorem dR.nil:dR cf G [] []:=ix
noncomputable def pO (o:Op):Bool:=match o with
 | .bin _ | .tuple | .list | .sub | .slice _ _ | .attr _ _ | .isinst _ | .len | .listOf | .lenSet | .neg | .tupleOf | .range | .zip=>true
 | _=>false
def EH (h:pO o=true) {K:V->Prop} (q:bj ds G fun xs=>okK (opN o xs) K):bx cf o ds G K:=by
 cases o <;> first | exact q | exact nB h
theorem dR.cons (h:Val cf G e v) (hs:dR cf G es vs):dR cf G (e :: es) (v :: vs):=fun K k=>h _ (hs _ k)
theorem dR.one (h:Val cf G e v):dR cf G [e] [v]:=.cons h .nil
theorem dR.two (h:Val cf G a x) (h':Val cf G b y):dR cf G [a,b] [x,y]:=.cons h (.cons h' .nil)
def aa {vs:List V} (hv:dR cf G es vs) (e:opN o vs=some z) (ho:pO o=true:=by exact rfl):Val cf G (.nd o es) z:=fun K k=>EH ho (hv _ (ag e k))
def ab {o:CmpOp} (h:Val cf G a x) (h':Val cf G b y) (e:aO o x y=some t):Val cf G (.nd (.cmp o) [a,b]) (.bool t):=fun K k=>h _ (h' _ (ag e k))
def aG (hv:dR cf G es vs) (h:∀ K,K v->cf.p f vs K):Val cf G (.nd (.call f) es) v:=fun K k=>hv _ (h _ k)
def bN {c:Nat} (hv:Val cf G e x) (hi:nC c x=true) (hs:dR cf G es vs) (h:∀ K,K v->cf.p f (x :: vs) K):Val cf G (.nd (.meth c f) (e :: es)) v:=fun K k=>hv _ ⟨hi,hs _ (h _ k)⟩
def oB (hv:Val cf G e x) (hi:rd x=true) (hs:dR cf G es vs) (h:opN .getD (x :: vs)=some v):Val cf G (.nd .getD (e :: es)) v:=fun K k=>hv _ ⟨hi,hs _ (ag h k)⟩
def bn (h:Val cf (fv G) a v) (hf:gi v=true):Val cf G (.nd .peek [a]) v:=fun K k=>h _ ⟨hf,k⟩
def tC (h:Val cf (fv G) a v) (hf:yi v=true):Val cf G (.nd .peekN [a]) v:=fun K k=>h _ ⟨hf,k⟩
def lP (h:Val cf G c (.bool t)) (h1:t=true->Val cf G a v) (h2:t=false->Val cf G b v):Val cf G (.nd .ite [c,a,b]) v:=fun K n=>h _ (by
 refine (?_:if t=true then ev cf a G K else ev cf b G K);cases t
 ·exact h2 rfl K n
 ·exact h1 rfl K n)
def aD (h:Val cf G a (.bool t)):Val cf G (.nd .not [a]) (.bool (!t)):=fun K k=>h _ k
theorem bm.nil {b:Bool}:bm cf b G [] b:=fun U h=>h
theorem bm.go {b:Bool} (h:Val cf G a (.bool b)) (hs:bm cf b G es t):bm cf b G (a :: es) t:=fun K k=>h _ (by refine (?_:if b=b then _ else _); rw [NP rfl]; exact hs _ k)
theorem bm.stop {b:Bool} (h:Val cf G a (.bool (!b))):bm cf b G (a :: es) (!b):=fun K k=>h _ (by refine (?_:if (!b)=b then _ else _); rw [NQ (by cases b <;> decide)]; exact k)
theorem bm.and {t u:Bool} (h:Val cf G a (.bool t)) (hs:t=true->bm cf true G es u):bm cf true G (a :: es) (t&&u):=by
 cases t
 ·exact .stop (b:=true) h
 ·exact .go h (hs rfl)
theorem bm.or {t u:Bool} (h:Val cf G a (.bool t)) (hs:t=false->bm cf false G es u):bm cf false G (a :: es) (t||u):=by
 cases t
 ·exact .go h (hs rfl)
 ·exact .stop (b:=false) h
theorem bm.one (h:Val cf G a (.bool t)):bm cf true G [a] t:=by
 have:=bm.and (es:=[]) h fun U=>.nil;rwa [Bool.and_true] at this
theorem bm.one' (h:Val cf G a (.bool t)):bm cf false G [a] t:=by
 have:=bm.or (es:=[]) h fun U=>.nil;rwa [Bool.or_false] at this
def aE (h:bm cf true G es t):Val cf G (.nd .and es) (.bool t):=fun K k=>h _ k
def bH (h:bm cf false G es t):Val cf G (.nd .or es) (.bool t):=fun K k=>h _ k
def pE {α:Type} {e:E} {ts:List E} {b:Gs->V->Option Gs} {g:α->V} {H:α->Gs} {p:α->Bool} {f:α->V} {ws:List α}:∀ (ys:List V),(∀ w∈ws,b G (g w)=some (H w))->(∀ w∈ws,bm cf true (H w) ts (p w))->(∀ w∈ws,p w=true->Val cf (H w) e (f w))->∀ K:List V->Prop,K (ys++(ws.filter p).map f)->jk (ev cf e) (evs cf ts) b G (ws.map g) fun zs=>K (ys++zs):=by
 induction ws with
 | nil=>exact fun ys U U U K h=>h
 | cons x xs ih=>
  intro ys hb ht he K h;refine ag (hb x (.head _)) (ht x (.head _) _ ?_);have ih:=fun ys=>ih ys (fun x m=>hb x (.tail _ m)) (fun x m=>ht x (.tail _ m)) fun x m=>he x (.tail _ m);cases hp:p x with
  | false=>
   rw [filter_cons_of_neg (by rw [hp]; exact NK)] at h;exact ih ys K h
  | true=>
   rw [filter_cons_of_pos hp] at h;refine he x (.head _) hp _ ?_;have e1:(fun zs=>K (ys++(f x :: zs)))=fun zs=>K ((ys++[f x])++zs):=funext fun zs=>by rw [Qa]; rfl
   refine (?_:jk (ev cf e) (evs cf ts) b G (xs.map g) fun zs=>K (ys++(f x :: zs)));rw [e1];exact ih (ys++[f x]) K (by rw [Qa]; exact h)
def jB {α:Type} {s e:E} {ts:List E} {g:α->V} {p:α->Bool} {f:α->V} {ws:List α} (hs:Val cf G s x) (hq:a9 x=some (ws.map g)) (ht:∀ w∈ws,bm cf true (G.set k (.v (g w))) ts (p w)) (he:∀ w∈ws,p w=true->Val cf (G.set k (.v (g w))) e (f w)) :
  Val cf G (.nd (.comp k) (s :: e :: ts)) (.list ((ws.filter p).map f)):=fun K h=>hs _ (ag hq (pE [] (fun U U=>rfl) ht he (fun ys=>K (.list ys)) h))
def kD {α:Type} {s e:E} {ts:List E} {g:α->V} {H:α->Gs} {p:α->Bool} {f:α->V} {ws:List α} (hs:Val cf G s x) (hq:a9 x=some (ws.map g)) (hb:∀ w∈ws,aJ ks G (g w)=some (H w)) (ht:∀ w∈ws,bm cf true (H w) ts (p w)) (he:∀ w∈ws,p w=true->Val cf (H w) e (f w)) :
  Val cf G (.nd (.compM ks) (s :: e :: ts)) (.list ((ws.filter p).map f)):=fun K h=>hs _ (ag hq (pE [] hb ht he (fun ys=>K (.list ys)) h))
def Dp (ws:List α):ws.filter (fun U=>true)=ws:=List.filter_eq_self.mpr fun U U=>rfl
def d9 {α:Type} {g f:α->V} {ws:List α} (hs:Val cf G s x) (hq:a9 x=some (ws.map g)) (he:∀ w∈ws,Val cf (G.set k (.v (g w))) e (f w)) :
  Val cf G (.nd (.comp k) [s,e]) (.list (ws.map f)):=by
 have q:=jB (ts:=[]) (p:=fun U=>true) (f:=f) hs hq (fun U U=>.nil) fun x m U=>he x m;rw [Dp] at q;exact q
theorem exi_eq:∀ l:List S,exi cf l=exs cf l
 | []=>rfl
 | s :: r=>funext fun G=>funext fun K=>by
  refine (?_:ex cf s G (fun fl G'=>match fl with | none=>exi cf r G' K | some x=>K (some x) G')=_);rw [exi_eq r]; rfl
theorem mI:∀ l:List S,exs cf (l++r)=fun G K=>exs cf l G (fun fl G'=>match fl with | none=>exs cf r G' K | some x=>K (some x) G')
 | []=>rfl
 | s :: l=>by
  funext G K
  refine (?_:ex cf s G (fun fl G'=>match fl with | none=>exs cf (l++r) G' K | some x=>K (some x) G')=_);rw [mI l]; rfl
def av (h:K none G):exs cf [] G K:=h
def ai (h:Val cf G e v) (n:exs cf r (G.set k (.v v)) K):exs cf (.mk (.assign k) [e] [] [] :: r) G K:=h _ n
def d8 {ks:List Nat} {G':Gs} (h:Val cf G e v) (hs:aJ ks G v=some G') (n:exs cf r G' K):exs cf (.mk (.assignM ks) [e] [] [] :: r) G K:=h _ (ag hs n)
def aB (h:Val cf G e v) (n:K (some v) G):exs cf (.mk .ret [e] [] [] :: r) G K:=h _ n
def bS {A B:List S} (h:Val cf G c (.bool t)) (h1:t=true->exs cf (A++r) G K) (h2:t=false->exs cf (B++r) G K):exs cf (.mk .ite [c] A B :: r) G K:=h _ (by
 refine (?_:if t=true then exi cf A G _ else exi cf B G _);rw [exi_eq,exi_eq];cases t
 ·have:=h2 rfl; rw [mI] at this; exact this
 ·have:=h1 rfl; rw [mI] at this; exact this)
def fb {A B:List S} (h:Val cf G c (.bool true)) (h1:exs cf (A++r) G K):exs cf (.mk .ite [c] A B :: r) G K:=bS h (fun U=>h1) fun q=>nB q.symm
def aM (h:Val cf G c (.bool false)) (h1:exs cf r G K):exs cf (.mk .ite [c] A [] :: r) G K:=bS h (fun q=>nB q) fun U=>h1
def jT (n:exs cf r (G.set k (.ownL [])) K):exs cf (.mk (.ownL k) [] [] [] :: r) G K:=⟨zero_le _,n⟩
def dS {l:List V} (hl:dJ G k=some l) (h:Val cf G e v) (hz:l.length < af) (n:exs cf r (G.set k (.ownL (l++[v]))) K):exs cf (.mk (.append k) [e] [] [] :: r) G K:=ag hl (h _ ⟨hz,n⟩)
def fO {l:List V} (hl:dJ G k=some l) (n:exs cf r (G.set k (.v (.list l))) K):exs cf (.mk (.freeze k) [] [] [] :: r) G K:=ag hl n
theorem eT:∀ es:List E,es.map (ev cf)=evs cf es
 | []=>rfl
 | e :: es=>NO (ev cf e :: ·) (eT es)
def yI (hv:dR cf G es vs) (h:cf.p f vs fun y=>isNone y=true/\exs cf r G K):exs cf (.mk (.call f) es [] [] :: r) G K:=by
 refine (?_:bj (es.map (ev cf)) G fun xs=>cf.p f xs fun y=>isNone y=true/\exs cf r G K);rw [eT];exact hv _ h
def ib (n:exs cf r (G.set k (.ownD [])) K):exs cf (.mk (.ownD k) [] [] [] :: r) G K:=n
def eK {l:List (V×V)} (hl:iT G k=some l) (h:Val cf G a v) (h':Val cf G b x) (hk:aZ x=true) (hz:l.length < af) (n:exs cf r (G.set k (.ownD (cX l x v))) K):exs cf (.mk (.setD k) [a,b] [] [] :: r) G K:=
 ag hl (h _ (h' _ (ag (NP (zA3 ⟨hk,NL hz⟩)) n)))
def cu {l:List (V×V)} (hl:iT G k=some l) (n:exs cf r (G.set k (.v (.dict l))) K):exs cf (.mk (.freezeD k) [] [] [] :: r) G K:=ag hl n
def tz {ob:Ob} (ho:qp G k=some ob) (n:exs cf r (G.set k ob.sl) K):exs cf (.mk (.freezeO k) [] [] [] :: r) G K:=ag ho n
def d7 {c j:Nat} {ob:Ob} (h:Val cf G e v) (ho:fZ G k c=some ob) (hj:ob.fs.length=j) (n:exs cf r (G.set k (.ownI ⟨ob.c,ob.fs++[.val v]⟩)) K):exs cf (.mk (.setAttr k c j) [e] [] [] :: r) G K:=h _ (ag ho ⟨hj,n⟩)
def dy {c j:Nat} {ob:Ob} {fd:Fld} (ho:fZ G k c=some ob) (hj:ob.fs.length=j) (n:exs cf r (G.set k (.ownI ⟨ob.c,ob.fs++[fd]⟩)) K):exs cf (.mk (.setAttrO k c j fd) [] [] [] :: r) G K:=ag ho ⟨hj,n⟩
def DM (hv:dR cf G es vs) (hu:getSlot G k=.unset) (h:cf.m f vs fun o=>exs cf r (G.set k (.obj o)) K):exs cf (.mk (.mkO k f) es [] [] :: r) G K:=by
 refine (?_:getSlot G k=.unset/\bj (es.map (ev cf)) G fun xs=>cf.m f xs fun o=>exs cf r (G.set k (.obj o)) K);rw [eT];exact ⟨hu,hv _ h⟩
def eL {c:Nat} {ob:Ob} (ho:c6 G k c=some ob) (hv:dR cf G es vs) (h:cf.o f ob vs fun U o'=>exs cf r (G.set k (.obj o')) K):exs cf (.mk (.oCall k c f) es [] [] :: r) G K:=by
 refine (?_:okK (c6 G k c) fun o=>bj (es.map (ev cf)) G fun xs=>cf.o f o xs fun U o'=>exs cf r (G.set k (.obj o')) K);rw [eT];exact ag ho (hv _ h)
def yH {c j:Nat} {ob:Ob} {l:List V} (ho:c6 G k c=some ob) (hl:qC ob j=some (l++[y])) (hz:l.length < af) (h:okK (aJ ks (G.set k (.obj (ob.set j (.L l)))) y) fun G'=>exs cf r G' K):exs cf (.mk (.oPopM k c j ks) [] [] [] :: r) G K:=
 ag ho (ag hl ⟨by rw [zB5]; exact hz,ag List.getLast?_concat (by rw [dropLast_concat]; exact h)⟩)
def BS {l:List V} {d a b c:E} {D u x y z w:V} (hd:Val cf G d D) (ha:Val cf G a x) (hb:Val cf G b y) (hl:dJ G k=some (l++[z])) (hz:l.length < af) (hc:Val cf (G.set k (.ownL l)) c w) (hs:g9 D (.tuple [x,y,z,w])=some u) (h:exs cf r ((G.set k (.ownL l)).set j (.v u)) K):exs cf (.mk (.popS j k) [d,a,b,c] [] [] :: r) G K:=
 hd _ (ha _ (hb _ (ag hl ⟨by rw [zB5]; exact hz,ag List.getLast?_concat (by rw [dropLast_concat]; exact hc _ ⟨by refine (?_:4<=af); decide,ag hs h⟩)⟩)))
def yG {c j:Nat} {ms:List Bool} (h:x1 cf k c j f ms (evs cf es) G fun fl G'=>match fl with | none=>exs cf r G' K | some x=>K (some x) G'):exs cf (.mk (.oSetF k c j f ms) es [] [] :: r) G K:=by
 refine (?_:x1 cf k c j f ms (es.map (ev cf)) G fun fl G'=>match fl with | none=>exs cf r G' K | some x=>K (some x) G');rw [eT];exact h
def DX {c:Nat} {ob:Ob} {K:V->Gs->Prop} (ho:c6 G k c=some ob) (h:Val cf G e x) (n:cf.o f ob [x] fun y o'=>K y (G.set k (.obj o'))):sB cf k c f (ev cf e) G K:=ag ho (h _ n)
def BT {c j:Nat} {ob:Ob} {l:List V} (ho:c6 G k c=some ob) (hl:qC ob j=some l) (h:Val cf G e v) (hz:l.length < af) (n:exs cf r (G.set k (.obj (ob.set j (.L (l++[v]))))) K):exs cf (.mk (.oApp k c j) [e] [] [] :: r) G K:=ag ho (ag hl (h _ ⟨hz,n⟩))
def wJ {c j:Nat} {ob:Ob} {l:List (V×V)} (ho:c6 G k c=some ob) (hl:mE ob j=some l) (h:Val cf G a v) (h':Val cf G b x) (hk:aZ x=true) (hz:l.length < af) (n:exs cf r (G.set k (.obj (ob.set j (.D (cX l x v))))) K):exs cf (.mk (.oSet k c j) [a,b] [] [] :: r) G K:=
 ag ho (ag hl (h _ (h' _ (ag (NP (zA3 ⟨hk,NL hz⟩)) n))))
def yF {A:List S} (P:Nat->Gs->Prop) (h0:P m G) (turn:∀ n G,P n G->∃ t,Val cf G c (.bool t)/\(t=true->∀ Kt:GT,(∀ G' m,m < n->P m G'->Kt none G')->(∀ y G',K (some y) G'->Kt (some y) G')->exs cf A G Kt)/\(t=false->exs cf r G K)):exs cf (.mk .while [c] A [] :: r) G K:=by
 refine ⟨P,⟨m,h0⟩,fun n G hP=>?_⟩;obtain ⟨t,ht,h1,h2⟩:=turn n G hP;refine ht _ ?_;refine (?_:if t=true then exi cf A G _ else _);rw [exi_eq];cases t with
 | true=>exact h1 rfl _ (fun G' m lt p=>⟨m,lt,p⟩) fun y G' k=>k
 | false=>exact h2 rfl
theorem sV {b:Gs->V->Option Gs} {P:List V->Gs->Prop} (done:∀ G,P [] G->K none G) (turn:∀ x l G,P (x :: l) G->(∀ G',P l G'->jc b A l G' K)->okK (b G x) fun G'=>A G' fun fl Hb=>match fl with | none=>jc b A l Hb K | some y=>K (some y) Hb):∀ xs G,P xs G->jc b A xs G K
 | [],G,h=>done G h
 | x :: l,G,h=>turn x l G h (sV done turn l)
def qT {op:SOp} {b:Gs->V->Option Gs} {s:E} {body:List S} {xs:List V} {P:List V->Gs->Prop} (Jt:∀ ds X Y G K,(gC ds G fun x=>okK (a9 x) fun xs=>jc b X xs G K)->dC cf op ds X Y G K) (hs:Val cf G s v) (hq:a9 v=some xs) (h0:P xs G) (done:∀ G,P [] G->exs cf r G K)
  (turn:∀ x l G Kt,P (x :: l) G->(∀ G',P l G'->Kt none G')->(∀ y G',K (some y) G'->Kt (some y) G')->okK (b G x) fun G'=>exs cf body G' Kt):exs cf (.mk op [s] body [] :: r) G K:=by
 have q:=Jt [ev cf s] (exi cf body) (exi cf []) G (fun fl G'=>match fl with | none=>exs cf r G' K | some x=>K (some x) G') (hs _ (ag hq (by
  rw [exi_eq];exact sV (P:=P) (K:=fun fl G'=>match fl with | none=>exs cf r G' K | some x=>K (some x) G') done (fun x l G h n=>turn x l G (fun fl Hb=>match fl with | none=>jc b (exs cf body) l Hb (fun fl G'=>match fl with | none=>exs cf r G' K | some x=>K (some x) G') | some y=>K (some y) Hb) h n fun U U h=>h) xs G h0)))
 exact q
def kg {P:List V->Gs->Prop} (hs:Val cf G s v) (hq:a9 v=some xs) (h0:P xs G) (done:∀ G,P [] G->exs cf r G K)
  (turn:∀ x l G Kt,P (x :: l) G->(∀ G',P l G'->Kt none G')->(∀ y G',K (some y) G'->Kt (some y) G')->exs cf body (G.set k (.v x)) Kt):exs cf (.mk (.forS k) [s] body [] :: r) G K:=qT (P:=P) (fun U U U U U h=>h) hs hq h0 done turn
def wK {P:List V->Gs->Prop} (hs:Val cf G s v) (hq:a9 v=some xs) (h0:P xs G) (done:∀ G,P [] G->exs cf r G K)
  (turn:∀ x l G Kt,P (x :: l) G->(∀ G',P l G'->Kt none G')->(∀ y G',K (some y) G'->Kt (some y) G')->okK (aJ ks G x) fun G'=>exs cf body G' Kt):exs cf (.mk (.forM ks) [s] body [] :: r) G K:=qT (P:=P) (fun U U U U U h=>h) hs hq h0 done turn
end
end Mine
end
noncomputable section
namespace Mine.L05
open PySem
noncomputable abbrev step (cf:CallF):CallF:=AM prog cf
def run (hf:fns[f]?=some fn) (hi:fn.kind=.fn) (hl:args.length=fn.npar) (h:exs cf fn.body (args.map .v++replicate (fn.nslots - fn.npar) .unset) fun fl U=>K (fl.getD .none)):(step cf).p f args K:=by
 refine ag (o:=fns[f]?) hf ?_;rw [hi];exact ⟨hl,h⟩
def bT (h:n<=5000):n<=af:=zB1 h (by decide)
def aT (h:l.length<=5000):a9 (.list l)=some l:=NP (bT h)
def dW (h:l.length<=5000):a9 (text l)=some (bM l):=NP (bT h)
def iY (h:l.length<=5000):opN .len [.list l]=some (.int l.length):=by
 refine (?_:(a9 (.list l)).map _=_); rw [aT h]; rfl
def Cw (h:s.cps.toList.length<=5000):opN .len [.str s]=some (.int s.cps.toList.length):=by
 refine (?_:(cq s.cps.toList (bM s.cps.toList)).map _=_);rw [show cq s.cps.toList (bM s.cps.toList)=some (bM s.cps.toList) from NP (bT h)];refine (?_:some (PyData.int ((s.cps.toList.map _).length:Nat))=_); rw [zA4]
def FK (h:a < b):aO .Lt (.int a) (.int b)=some true:=NO some (NL h)
def BJ (h:¬ a < b):aO .Lt (.int a) (.int b)=some false:=NO some (NM h)
def yu (h:¬ b < a):aO .Gt (.int a) (.int b)=some false:=NO some (NM h)
def tr:aO .Eq (.int a) (.int b)=some (a==b):=rfl
def BN:aO .NotEq (.int a) (.int b)=some (!(a==b)):=rfl
def mB (hz:l.length<=5000) (h0:0<=i) (e:l[i.toNat]?=some x):nz l f (.int i)=some (f x):=by
 refine (?_:(if l.length<=af then _ else none)=_);rw [NP (bT hz),NP h0,e]; rfl
def fL (hz:l.length<=5000) (h0:0<=i) (e:l[i.toNat]?=some x):opN .sub [.list l,.int i]=some x:=mB hz h0 e
def Cu (hz:l.length<=5000) (h0:0<=i) (e:l[i.toNat]?=some c):opN .sub [text l,.int i]=some (text [c]):=mB (f:=fun c=>text [c]) hz h0 e
def ba (a:Int) (h:0 < b):0<=a.fmod b:=Int.fmod_nonneg_of_pos a h
def cj (a:Int) (h:0 < b):a.fmod b < b:=Int.fmod_lt_of_pos a h
def eC (h:0 < b):opN (.bin .Mod) [.int a,.int b]=some (.int (a.fmod b)):=NQ (Int.ne_of_gt h)
def uD (h:0 < b) (h':b<=1000000):opN (.bin .FloorDiv) [.int a,.int b]=some (.int (a.fdiv b)):=NQ fun z=>z.elim (fun e=>absurd h (e▸Int.lt_irrefl 0)) fun e=>absurd e (not_lt.mpr (ofNat_le.mp ((Int.natAbs_of_nonneg (Int.le_of_lt h)).symm▸h')))
def iX (h:b.natAbs<=1000000\/a.natAbs<=1000000):opN (.bin .Mult) [.int a,.int b]=some (.int (a * b)):=NP h
noncomputable def lS (FS:List Int):V:=.list (FS.map .int)
noncomputable def bC (FS:List Int) (k:Int):Int:=if k < FS.length then FS.getD k.toNat 0 else 0
def S20 (cf:CallF):Prop:=∀ FS k K,FS.length<=63->0<=k->K (.int (bC FS k))->cf.p 20 [lS FS,.int k] K
def p20 (cf:CallF):S20 (step cf):=fun FS k K hs h0 h=>by
 refine run (fn:=f20) rfl rfl rfl ?_;have hl:(FS.map PyData.int).length<=5000:=by exact zB1 (zB2 (length_map _)) (zB1 hs (by decide))
 have hv:Val cf [.v (lS FS),.v (.int k)] (lnE (vv 0)) (.int FS.length):=aa (.one ix) (by exact (length_map (f:=PyData.int) (as:=FS))▸iY hl);by_cases hk:k < FS.length
 ·refine fb (ab ix hv (FK hk)) (aB (aa (.two ix ix) (fL (x:=.int (bC FS k)) hl h0 ?_)) h);have Hp:k.toNat < FS.length:=by exact (toNat_lt ‹_›).mpr hk
  rw [getElem?_map,Q8 Hp];unfold bC;rw [NP hk,getD_eq_getElem?_getD,Q8 Hp]; rfl
 ·refine aM (ab ix hv (BJ hk)) (aB (v:=.int (bC FS k)) ?_ h);unfold bC;exact (NQ hk).symm▸ix
noncomputable def A0 (c k:Int):Int:=(c * 48271+7919 * k).fmod 1000003
def S21 (cf:CallF):Prop:=∀ c k K,K (.int (A0 c k))->cf.p 21 [.int c,.int k] K
def p21 (cf:CallF):S21 (step cf):=fun c k K h=>run (fn:=f21) rfl rfl rfl (aB (aa (.two (aa (.two (aa (.two ix ix) (iX (.inl (by decide)))) (aa (.two ix ix) (iX (.inr (by decide))))) rfl) ix) (eC (by decide))) h)
def low (c:Nat):Bool:=abc.cps.toList.elem c
def il (h:l.length<=5000):opN .len [text l]=some (.int l.length):=Cw (s:=⟨l.toArray⟩) h
def qO (h:a=b):aO .Eq (.int a) (.int b)=some true:=h▸NO some (NJ a)
def mW {K:GT} {I:Gs->Prop} (hs:Val cf G s v) (hq:a9 v=some xs) (h0:I G) (hI:∀ G x,I G->I (G.set k (.v x))) (hc:∀ x∈xs,∀ G,I G->Val cf (G.set k (.v x)) c (.bool false)) (n:∀ G,I G->exs cf r G K):exs cf (.mk (.forS k) [s] [.mk .ite [c] A []] [] :: r) G K:=
 kg (P:=fun l G=>I G/\∀ x∈l,x∈xs) hs hq ⟨h0,fun U m=>m⟩ (fun G h=>n G h.1) fun x l G Kt h nx rt=>aM (hc x (h.2 x (.head _)) G h.1) (av (nx _ ⟨hI G x h.1,fun y z=>h.2 y (.tail _ z)⟩))
structure SgOk (a b c:List Nat):Prop where
 la:a.length<=4
 lb:b.length<=4
 lc:c.length<=4
 lows:∀ x∈a++b++c,low x=true
 nodup:(a++b++c).Nodup
section
variable {a b c:List Nat} {x:Nat} (ok:SgOk a b c)
include ok
theorem SgOk.inC (h:x∈c):x∉a/\x∉b:=by
 have:=(nodup_append.mp ok.nodup).2.2;exact ⟨fun q=>this x (Qc _ q) x h rfl,fun q=>this x (mem_append_right _ q) x h rfl⟩
theorem SgOk.inB (h:x∈b):x∉a:=fun q=>(nodup_append.mp (nodup_append.mp ok.nodup).1).2.2 x q x h rfl
theorem SgOk.lowA (h:x∈a):low x=true:=ok.lows x (Qc _ (Qc _ h))
theorem SgOk.lowB (h:x∈b):low x=true:=ok.lows x (Qc _ (mem_append_right _ h))
theorem SgOk.lowC (h:x∈c):low x=true:=ok.lows x (mem_append_right _ h)
end
def sg (a b c:List Nat):V:=.tuple [text a,text b,text c]
def S0 (cf:CallF):Prop:=∀ l K,l.length<=4->(∀ c∈l,low c=true)->K (.bool true)->cf.p 0 [text l] K
def p0 (cf:CallF):S0 (step cf):=fun l K hl lo h=>run (fn:=f0) rfl rfl rfl (aM (bH (.go (b:=false) (aD (t:=true) ix) (.one' (ab (aa (.one ix) (il (zB1 hl (by decide)))) ix (yu (Int.not_lt.mpr (ofNat_le.mpr hl))))))) (mW (xs:=bM l) (v:=text l) (I:=fun G=>∃ t,G=[.v (text l),t]) ix (dW (zB1 hl (by decide))) ⟨_,rfl⟩ (fun G x h=>h.elim fun U e=>⟨.v x,e▸rfl⟩) (fun x m G h=>by
 obtain ⟨t,rfl⟩:=h;obtain ⟨c,mc,rfl⟩:=zA7 m;exact ab ix ix (NO (fun b=>some (!b)) (lo c mc))) fun G U=>aB (v:=.bool true) ix h))
def Cv (nd:l.Nodup) (hz:l.length<=1000):opN .lenSet [text l]=some (.int l.length):=by
 refine (?_:(if l.Nodup/\l.toArray.size < 4000 then some l.toArray.size else none).map _=_);rw [NP ⟨nd,Q0 hz (by decide)⟩]; rfl
def CA (h:(a.cps.toList++b.cps.toList).length<=5000):opN (.bin .Add) [.str a,.str b]=some (text (a.cps.toList++b.cps.toList)):=NP (bT h)
def dL (h:(l++m).length<=5000):opN (.bin .Add) [text l,text m]=some (text (l++m)):=CA (a:=⟨l.toArray⟩) (b:=⟨m.toArray⟩) h
def S1 (cf:CallF):Prop:=∀ a b c K,SgOk a b c->K (.bool true)->cf.p 1 [sg a b c] K
def p1 (cf:CallF) (h0:S0 cf):S1 (step cf):=fun a b c K sk h=>by
 refine run (fn:=f1) rfl rfl rfl (aM (bH (.go (b:=false) (aD (t:=true) ix) (.one' (ab (x:=.int 3) ix ix rfl)))) ?_);have go:∀ {l:List Nat},l.length<=4->(∀ c∈l,low c=true)->∀ G,(∃ t,G=[.v (sg a b c),t,.unset])->Val cf (G.set 1 (.v (text l))) (.nd .not [.nd (.call 0) [vv 1]]) (.bool false):=fun hl lo G h=>by
  obtain ⟨t,rfl⟩:=h;exact aD (t:=true) (aG (.one ix) fun K h=>h0 _ K hl lo h)
 refine mW (xs:=[text a,text b,text c]) (v:=sg a b c) (I:=fun G=>∃ t,G=[.v (sg a b c),t,.unset]) ix rfl ⟨_,rfl⟩ (fun G x h=>h.elim fun U e=>⟨.v x,e▸rfl⟩) (zA1 ⟨go sk.la fun U m=>sk.lowA m,zA1 ⟨go sk.lb fun U m=>sk.lowB m,forall_mem_singleton.mpr (go sk.lc fun U m=>sk.lowC m)⟩⟩) fun G hG=>?_;obtain ⟨t,rfl⟩:=hG;have e1:(a++b).length<=8:=by rw [zB5]; exact add_le_add sk.la sk.lb
 have e2:(a++b++c).length<=12:=by rw [zB5]; exact add_le_add e1 sk.lc
 refine ai (v:=text (a++b++c)) (aa (vs:=[text (a++b),text c]) (.two (aa (vs:=[text a,text b]) (.two ix ix) (dL (zB1 e1 (by decide)))) ix) (dL (zB1 e2 (by decide)))) ?_;exact aB (ab (aa (.one ix) (Cv sk.nodup (zB1 e2 (by decide)))) (aa (.one ix) (il (zB1 e2 (by decide)))) (qO rfl)) h
def S2 (cf:CallF):Prop:=∀ a b c K,SgOk a b c->K .none->cf.p 2 [sg a b c] K
def p2 (cf:CallF) (h1:S1 cf):S2 (step cf):=fun a b c K sk h=>run (fn:=f2) rfl rfl rfl (aM (aD (t:=true) (aG (.one ix) fun K h=>h1 a b c K sk h)) (av h))
def dU (x:Str):strOk x=x.cps.toList.all (· < 0x110000):=by unfold strOk; rw [all_toList]
def okS (h:strOk s=true):fj (.str s)=true:=by
 refine (?_:(strOk s&&_)=true);rw [h]; rfl
def bk (hs:strOk s=true) (ht:strOk t=true):aO .Eq (.str s) (.str t)=some (s==t):=NP (by rw [okS hs,okS ht]; rfl)
def BK (hs:strOk s=true) (ht:strOk t=true):aO .NotEq (.str s) (.str t)=some (!(s==t)):=NO (Option.map (!·)) (bk hs ht)
def ok_on:strOk kOn=true:=by rw [dU]; rfl
def ok_open:strOk a6=true:=by rw [dU]; rfl
def ok_close:strOk aC=true:=by rw [dU]; rfl
def Fw:strOk k0=true:=by rw [dU]; rfl
def CF (h:low c=true):c < 0x110000:=by
 have:∀ x∈abc.cps.toList,x < 0x110000:=by decide
 exact this c (elem_iff.mp h)
def cZ {l:List Nat} (h:∀ c∈l,low c=true):strOk ⟨l.toArray⟩=true:=by
 rw [dU];exact Q6.mpr fun c m=>NL (CF (h c m))
def AW (h:(!b)=true):b=false:=by cases b with | false=>rfl | true=>(injection h; done)
def fk (h:(!b)=false):b=true:=by cases b with | true=>rfl | false=>(injection h; done)
def nu (a b c:List Nat) (x:Nat):Str:=if a.elem x=true then a6 else if b.elem x=true then aC else if c.elem x=true then kOn else k0
section
variable {a b c:List Nat} {x:Nat} (ok:SgOk a b c)
include ok
theorem zF (h:x∈a):nu a b c x=a6:=NP (elem_iff.mpr h)
theorem zI (h:x∈b):nu a b c x=aC:=(NQ fun q=>ok.inB h (elem_iff.mp q)).trans (NP (elem_iff.mpr h))
theorem zG (h:x∈c):nu a b c x=kOn:=(NQ fun q=>(ok.inC h).1 (elem_iff.mp q)).trans ((NQ fun q=>(ok.inC h).2 (elem_iff.mp q)).trans (NP (elem_iff.mpr h)))
end
def xO:aO .In (text [c]) (text l)=some (l.elem c):=rfl
def fG (h:Val cf G e (.str s)) (hs:strOk s=true) (ht:strOk t=true) (hu:(s==t)=u):Val cf G (eqE e (ss t)) (.bool u):=ab h ix ((bk hs ht).trans (NO some hu))
def S3 (cf:CallF):Prop:=∀ a b c x K,K (.str (nu a b c x))->cf.p 3 [sg a b c,text [x]] K
def xX (h1:l.elem x=true->∀ G,K (some (.str k)) G) (h2:l.elem x=false->∀ s t,jc (aJ [2,3]) (exs cf z0) xs [.v v,.v (text [x]),s,t] K):jc (aJ [2,3]) (exs cf z0) (.tuple [text l,.str k] :: xs) [.v v,.v (text [x]),s,t] K:=by
 refine (?_:exs cf z0 [.v v,.v (text [x]),.v (text l),.v (.str k)] fun fl G=>match fl with | none=>jc (aJ [2,3]) (exs cf z0) xs G K | some y=>K (some y) G);exact bS (ab (x:=text [x]) ix ix xO) (fun q=>aB (v:=.str k) ix (h1 q _)) fun q=>av (h2 q _ _)
def BU (hs:Val cf G s v) (hq:a9 v=some xs) (h:jc (aJ ks) (exs cf body) xs G fun fl G'=>match fl with | none=>exs cf r G' K | some x=>K (some x) G'):exs cf (.mk (.forM ks) [s] body [] :: r) G K:=by
 rw [<- exi_eq] at h;exact hs _ (ag hq h)
def p3 (cf:CallF):S3 (step cf):=fun a b c x K h=>by
 refine run (fn:=f3) rfl rfl rfl (aM (bH (.go (b:=false) (aD (t:=true) ix) (.one' (ab (x:=.int 1) ix ix rfl)))) (BU (v:=.list [.tuple [text a,.str a6],.tuple [text b,.str aC],.tuple [text c,.str kOn]]) ix rfl ?_));unfold nu at h;refine xX (fun q U=>?_) fun q U U=>xX (fun q' U=>?_) fun q' U U=>xX (fun L6 U=>?_) fun L6 s t=>(?_:exs cf [.mk .ret [ss k0] [] []] [.v (sg a b c),.v (text [x]),s,t] fun fl U=>K (fl.getD .none))
 ·rw [NP q] at h; exact h
 ·rw [q,NQ NK,NP q'] at h; exact h
 ·replace h:=(NP L6)▸(NQ NK)▸q'▸(NQ NK)▸q▸h; exact h
 ·rw [q,NQ NK,q',NQ NK,L6,NQ NK] at h;exact aB (v:=.str k0) ix h
def In (R i:Int):Prop:=0<=i/\i < R
def S10 (cf:CallF):Prop:=∀ i R K,In R i->K (.bool true)->cf.p 10 [.int i,.int R] K
def p10 (cf:CallF):S10 (step cf):=fun i R K hi h=>run (fn:=f10) rfl rfl rfl (aB (v:=.bool true) (aE (.go (b:=true) ix (.go (b:=true) (aD (t:=false) ix) (.one fun K h=>by
 refine (?_:if decide (0<=i)=true then K (.bool (decide (i < R))) else K (.bool false));exact (NL hi.1).symm▸(NL hi.2).symm▸h)))) h)
def ge (Hk:S10 cf) (ha:Val cf G a (.int i)) (hb:Val cf G b (.int R)) (hi:In R i):Val cf G (.nd (.call 10) [a,b]) (.bool true):=aG (.two ha hb) fun K h=>Hk i R K hi h
noncomputable def ar (is:List Int):V:=.list (is.map .int)
structure RoomsOk (R:Int) (is:List Int):Prop where
 len:is.length<=40
 nodup:is.Nodup
 rooms:∀ i∈is,In R i
theorem mC:∀ is:List Int,eE (is.map .int)=some is
 | []=>rfl
 | i :: r=>by unfold eE; rw [map_cons,mapM_cons]; refine (?_:(eE (r.map .int)).bind _=_); rw [mC r]; rfl
open Classical in
def len_list (l:List V):j2 (.list l)=(eE l).bind fun is=>if is.Nodup/\is.length < 4000 then some is.length else none:=rfl
def vV (e:eE l=some is) (nd:is.Nodup) (hz:is.length < 4000):j2 (.list l)=some is.length:=by rw [len_list,e,bind_some,NP ⟨nd,hz⟩]
def S11 (cf:CallF):Prop:=∀ is R K,RoomsOk R is->K (.bool true)->cf.p 11 [ar is,.int R] K
def p11 (cf:CallF) (Hk:S10 cf):S11 (step cf):=fun is R K ok h=>by
 have hl:(is.map PyData.int).length<=5000:=by rw [zA4]; exact zB1 ok.len (by decide)
 refine run (fn:=f11) rfl rfl rfl (aM (aD (t:=true) ix) (mW (xs:=is.map .int) (v:=ar is) (I:=fun G=>∃ t,G=[.v (ar is),.v (.int R),t]) ix (aT hl) ⟨_,rfl⟩ (fun G x h=>h.elim fun U e=>⟨.v x,e▸rfl⟩) (fun x m G h=>?_) fun G h'=>?_))
 ·obtain ⟨t,rfl⟩:=h;obtain ⟨i,mi,rfl⟩:=zA7 m;exact aD (t:=true) (ge Hk ix ix (ok.rooms i mi))
 ·obtain ⟨t,rfl⟩:=h';have e:opN .lenSet [ar is]=some (.int is.length):=by
   have q:j2 (ar is)=some is.length:=vV (mC _) ok.nodup (Q0 ok.len (by decide));exact NO (Option.map fun (n:Nat)=>PyData.int n) q
  exact aB (ab (aa (.one ix) e) (aa (.one ix) (iY hl)) (qO (by rw [zA4]))) h
inductive W where
 | on (a:Int) (c:Nat) (b:Int)
 | op (a:Int) (c:Nat) (b t:Int)
 | cl (a b:Int) (c:Nat) (t:Int)
noncomputable def W.l:W->List V
 | .on a c b=>[.str kOn,.int a,text [c],.int b]
 | .op a c b t=>[.str a6,.int a,text [c],.int b,.int t]
 | .cl a b c t=>[.str aC,.int a,.int b,text [c],.int t]
noncomputable def W.v (w:W):V:=.tuple w.l
noncomputable def W.ok (s0 s1 s2:List Nat) (R:Int):W->Prop
 | .on a c b=>In R a/\c∈s2/\In R b
 | .op a c b t=>In R a/\c∈s0/\In R b/\In R t
 | .cl a b c t=>In R a/\In R b/\c∈s1/\In R t
def S12 (cf:CallF):Prop:=∀ s0 s1 s2 R w K,SgOk s0 s1 s2->W.ok s0 s1 s2 R w->K (.bool true)->cf.p 12 [w.v,sg s0 s1 s2,.int R] K
def yg (h3:S3 cf) (ha:Val cf G a (sg s0 s1 s2)) (hb:Val cf G b (text [x])) (e:nu s0 s1 s2 x=k) (hk:strOk k=true):Val cf G (eqE (.nd (.call 3) [a,b]) (ss k)) (.bool true):=fG (s:=k) (aG (.two ha hb) fun K h=>h3 s0 s1 s2 x K (e▸h)) hk hk (NJ k)
def p12 (cf:CallF) (h3:S3 cf) (Hk:S10 cf):S12 (step cf):=fun s0 s1 s2 R w K sk ok h=>by
 refine run (fn:=f12) rfl rfl rfl ?_;cases w with
 | on a c b=>exact aM (bH (.go (b:=false) (aD (t:=true) ix) (.go (b:=false) (ab (x:=.int 4) ix ix rfl) (.one' (aD (t:=true) (ge Hk ix ix ok.1)))))) (aM (aD (t:=true) ix) (fb (fG (s:=kOn) ix ok_on ok_on rfl) (aB (v:=.bool true) (aE (.go (b:=true) (ab (x:=.int 4) ix ix rfl) (.go (b:=true) (yg h3 ix ix (zG sk ok.2.1) ok_on) (.one (ge Hk ix ix ok.2.2))))) h)))
 | op a c b t=>exact aM (bH (.go (b:=false) (aD (t:=true) ix) (.go (b:=false) (ab (x:=.int 5) ix ix rfl) (.one' (aD (t:=true) (ge Hk ix ix ok.1)))))) (aM (aD (t:=true) ix) (aM (fG (s:=a6) ix ok_open ok_on rfl) (aM (bH (.go (b:=false) (ab (x:=.int 5) ix ix rfl) (.one' (aD (t:=true) (ge Hk ix ix ok.2.2.2))))) (fb (fG (s:=a6) ix ok_open ok_open rfl) (aB (v:=.bool true) (aE (.go (b:=true) (yg h3 ix ix (zF sk ok.2.1) ok_open) (.one (ge Hk ix ix ok.2.2.1)))) h)))))
 | cl a b c t=>exact aM (bH (.go (b:=false) (aD (t:=true) ix) (.go (b:=false) (ab (x:=.int 5) ix ix rfl) (.one' (aD (t:=true) (ge Hk ix ix ok.1)))))) (aM (aD (t:=true) ix) (aM (fG (s:=aC) ix ok_close ok_on rfl) (aM (bH (.go (b:=false) (ab (x:=.int 5) ix ix rfl) (.one' (aD (t:=true) (ge Hk ix ix ok.2.2.2))))) (aM (fG (s:=aC) ix ok_close ok_open rfl) (aB (v:=.bool true) (aE (.go (b:=true) (fG (s:=aC) ix ok_close ok_close rfl) (.go (b:=true) (ge Hk ix ix ok.2.1) (.one (yg h3 ix ix (zI sk ok.2.2.1) ok_close))))) h)))))
noncomputable def bi (ws:List W):V:=.list (ws.map W.v)
def S13 (cf:CallF):Prop:=∀ s0 s1 s2 R ws K,SgOk s0 s1 s2->ws.length<=4000->(∀ w∈ws,W.ok s0 s1 s2 R w)->K (.bool true)->cf.p 13 [bi ws,sg s0 s1 s2,.int R] K
def p13 (cf:CallF) (MQ:S12 cf):S13 (step cf):=fun s0 s1 s2 R ws K sk hl ok h=>by
 have G4:(ws.map W.v).length<=4000:=by rw [zA4]; exact hl
 refine run (fn:=f13) rfl rfl rfl (aM (bH (.go (b:=false) (aD (t:=true) ix) (.one' (ab (aa (.one ix) (iY (zB1 G4 (by decide)))) ix (yu (Int.not_lt.mpr (ofNat_le.mpr G4))))))) (mW (xs:=ws.map W.v) (v:=bi ws) (I:=fun G=>∃ t,G=[.v (bi ws),.v (sg s0 s1 s2),.v (.int R),t]) ix (aT (zB1 G4 (by decide))) ⟨_,rfl⟩ (fun G x h=>h.elim fun U e=>⟨.v x,e▸rfl⟩) (fun x m G h=>?_) fun G U=>aB (v:=.bool true) ix h));obtain ⟨t,rfl⟩:=h;obtain ⟨w,mw,rfl⟩:=zA7 m;exact aD (t:=true) (aG (.cons ix (.two ix ix)) fun K h=>MQ s0 s1 s2 R w K sk (ok w mw) h)
def dT (sk:SgOk s0 s1 s2) (ok:W.ok s0 s1 s2 R w):∀ x∈w.l,aA x=true:=by
 have t:∀ {c:Nat},low c=true->aA (text [c])=true:=fun {c} h=>cZ (l:=[c]) fun x m=>by obtain rfl:=zA6 m; exact h
 have i:∀ {i:Int},aA (.int i)=true:=rfl;have n:∀ x∈([]:List V),aA x=true:=fun U m=>nM m;cases w with
 | on a c b=>exact zA1 ⟨ok_on,zA1 ⟨i,zA1 ⟨t (sk.lowC ok.2.1),zA1 ⟨i,n⟩⟩⟩⟩
 | op a c b t'=>exact zA1 ⟨ok_open,zA1 ⟨i,zA1 ⟨t (sk.lowA ok.2.1),zA1 ⟨i,zA1 ⟨i,n⟩⟩⟩⟩⟩
 | cl a b c t'=>exact zA1 ⟨ok_close,zA1 ⟨i,zA1 ⟨i,zA1 ⟨t (sk.lowB ok.2.2.1),zA1 ⟨i,n⟩⟩⟩⟩⟩
section
variable {cf:CallF} {G:Gs} {e:E} {k j:Nat} {l:List V} {r:List S} {K:GT}
def eZ (ho:fZ G k c=some ob) (h:ev cf e G fun v=>ob.fs.length=j/\exs cf r (G.set k (.ownI ⟨ob.c,ob.fs++[.val v]⟩)) K):exs cf (.mk (.setAttr k c j) [e] [] [] :: r) G K:=by
 refine (?_:ev cf e G fun x=>okK (fZ G k c) fun o=>o.fs.length=j/\exs cf r (G.set k (.ownI ⟨o.c,o.fs++[.val x]⟩)) K);exact ho.symm▸h
end
def a7 (sv:V) (R:Int) (st en:List Int) (r:List V):V:=uE 0 [sv,.int R,ar st,ar en,.list r]
def sY (h:Val cf G a (ar is)) (hz:is.length<=40) (k:∀ r:List Int,r.Perm is->r.Pairwise (·<=·)->K (ar r)):ev cf (.nd .sorted [a]) G K:=h _ (ag (z:=is) (mC is) ⟨by exact Q0 hz (by decide),k⟩)
def qN (h:Val cf G a (.list l)) (k:(l.all pQ&&decide (l.length<=af))=true/\(∀ x∈l,∀ y∈l,ltK (aH x) (aH y)=true)/\(∃ m:List V,m.length < 4500/\∀ x∈l,x∈m)/\∀ r:List V,r.Nodup->(∀ y,y∈r ↔ y∈l)->(l.length < 64->kr r)->K (.list r)):ev cf (.nd .sortedSet [a]) G K:=h _ (ag rfl k)
def BX (sk:SgOk s0 s1 s2) (ok:W.ok s0 s1 s2 R w):pQ w.v=true:=by
 have h:=Q6.mpr fun x m=>dT sk ok x m;cases w <;> exact h
def aI (h:k.isLeft=m.isLeft) (h':k=m->ltK ks ms=true):ltK (k :: ks) (m :: ms)=true:=by
 refine (?_:(if k=m then ltK ks ms else k.isLeft==m.isLeft)=true);by_cases e:k=m
 ·rw [NP e]; exact h' e
 ·rw [NQ e,h]; exact NJ _
def BY (w u:W):ltK (aH w.v) (aH u.v)=true:=by
 have ne:∀ {s t:Str} {ks ms:List Sc},s≠t->ltK (.inr s :: ks) (.inr t :: ms)=true:=fun h=>aI rfl fun e=>absurd (Sum.inr.inj e) h;cases w with
 | on a c b=>cases u with
  | on a' c' b'=>exact aI rfl fun U=>aI rfl fun U=>aI rfl fun U=>aI rfl fun U=>rfl
  | op a' c' b' t'=>exact ne (by decide)
  | cl a' b' c' t'=>exact ne (by decide)
 | op a c b t=>cases u with
  | on a' c' b'=>exact ne (by decide)
  | op a' c' b' t'=>exact aI rfl fun U=>aI rfl fun U=>aI rfl fun U=>aI rfl fun U=>aI rfl fun U=>rfl
  | cl a' b' c' t'=>exact ne (by decide)
 | cl a b c t=>cases u with
  | on a' c' b'=>exact ne (by decide)
  | op a' c' b' t'=>exact ne (by decide)
  | cl a' b' c' t'=>exact aI rfl fun U=>aI rfl fun U=>aI rfl fun U=>aI rfl fun U=>aI rfl fun U=>rfl
structure Held (st:List Int) (en:List Int) (ws:List V) (C' F1:List Int) (r:List V):Prop where
 p1:C'.Perm st
 o1:C'.Pairwise (·<=·)
 p2:F1.Perm en
 o2:F1.Pairwise (·<=·)
 nd:r.Nodup
 mem:∀ y,y∈r ↔ y∈ws
 up:ws.length < 64->kr r
structure ah (s0 s1 s2:List Nat) (R:Int) (st en:List Int) (ws:List W):Prop where
 sk:SgOk s0 s1 s2
 r1:1<=R
 r2:R<=40
 st:RoomsOk R st
 en:RoomsOk R en
 len:ws.length<=4000
 ok:∀ w∈ws,W.ok s0 s1 s2 R w
def S14 (cf:CallF):Prop:=∀ s0 s1 s2 R st en ws K,ah s0 s1 s2 R st en ws->(∀ C' F1 r,Held st en (ws.map W.v) C' F1 r->K (a7 (sg s0 s1 s2) R C' F1 r))->cf.p 14 [sg s0 s1 s2,.int R,ar st,ar en,bi ws] K
def p14 (cf:CallF) (h2:S2 cf) (Hk:S10 cf) (LU:S11 cf) (LS:S13 cf):S14 (step cf):=fun s0 s1 s2 R st en ws K g h=>by
 refine (?_:_/\exs cf f14.body [.ownI ⟨0,[]⟩,.v (sg s0 s1 s2),.v (.int R),.v (ar st),.v (ar en),.v (bi ws)] fun fl G=>fl=none/\okK (km G 0) fun o=>o.c=0/\∃ l:List V,o.fs=l.map .val/\l.length=5/\K (uE 0 l));refine ⟨rfl,yI (.one ix) (h2 _ _ _ _ g.sk ⟨rfl,?_⟩)⟩;refine aM (bH (.go (b:=false) (aD (t:=true) (ge Hk ix (aa (.two ix ix) rfl) ⟨le_trans (by decide) g.r1,Int.lt_of_le_of_lt g.r2 (by decide)⟩)) (.one' (ab ix ix (BJ (Int.not_lt.mpr g.r1)))))) ?_;refine aM (bH (.go (b:=false) (aD (t:=true) (aG (.two ix ix) fun K h=>LU _ _ K g.st h)) (.go (b:=false) (aD (t:=true) (aG (.two ix ix) fun K h=>LU _ _ K g.en h)) (.one' (aD (t:=true) (aG (.cons ix (.two ix ix)) fun K h=>LS _ _ _ _ _ K g.sk (zB1 g.len (by decide)) g.ok h)))))) ?_;refine d7 (ob:=⟨0,[]⟩) (v:=sg s0 s1 s2) ix rfl rfl (d7 (ob:=⟨0,[_]⟩) (v:=.int R) ix rfl rfl (eZ (ob:=⟨0,[_,_]⟩) rfl ?_));refine sY (show Val cf _ (vv 3) (ar st) from ix) g.st.len fun C' p3 o3=>⟨rfl,eZ (ob:=⟨0,[_,_,_]⟩) rfl ?_⟩;refine sY (show Val cf _ (vv 4) (ar en) from ix) g.en.len fun F1 p10 o4=>⟨rfl,eZ (ob:=⟨0,[_,_,_,_]⟩) rfl ?_⟩;refine qN (l:=ws.map W.v) ix ⟨zA3 ⟨Q6.mpr fun x m=>?_,NL (bT (by rw [zA4]; exact zB1 g.len (by decide)))⟩,fun x mx y my=>?_,⟨_,(by rw [zA4]; exact Q0 g.len (by decide)),fun U m=>m⟩,fun r hn hm hr=>⟨rfl,rfl,rfl,[_,_,_,_,_],rfl,rfl,h C' F1 r ⟨p3,o3,p10,o4,hn,hm,hr⟩⟩⟩
 ·obtain ⟨w,m',rfl⟩:=zA7 m;exact BX g.sk (g.ok w m')
 ·obtain ⟨w,_,rfl⟩:=zA7 mx;obtain ⟨u,_,rfl⟩:=zA7 my;exact BY w u
section
variable {cf:CallF} {sv:V} {R:Int} {st en:List Int} {r:List V} {K:V->Prop}
def fe (h:Val cf G e (.list l)) (hz:l.length<=5000):Val cf G (.nd .listOf [e]) (.list l):=aa (.one h) (show (cq l l).map _=_ by rw [show cq l l=some l from NP (bT hz)]; rfl)
def p15 (h:K sv):(step cf).p 15 [a7 sv R st en r] K:=run (fn:=f15) rfl rfl rfl (aB ix h)
def p16 (h:K (.int R)):(step cf).p 16 [a7 sv R st en r] K:=run (fn:=f16) rfl rfl rfl (aB ix h)
def p17 (hz:st.length<=5000) (h:K (ar st)):(step cf).p 17 [a7 sv R st en r] K:=run (fn:=f17) rfl rfl rfl (aB (v:=ar st) (fe ix (by rw [zA4]; exact hz)) h)
def p18 (hz:en.length<=5000) (h:K (ar en)):(step cf).p 18 [a7 sv R st en r] K:=run (fn:=f18) rfl rfl rfl (aB (v:=ar en) (fe ix (by rw [zA4]; exact hz)) h)
def p19 (hz:r.length<=5000) (h:K (.list r)):(step cf).p 19 [a7 sv R st en r] K:=run (fn:=f19) rfl rfl rfl (aB (v:=.list r) (fe ix hz) h)
end
noncomputable def p5V (a b c d e:V):V:=.tuple [a,b,c,d,e]
section
variable {cf:CallF} {sv a b c d:V} {K:V->Prop}
def cP (sv:V) (R:Int) (st en:List Int) (ws:List W):V:=p5V sv (.int R) (ar st) (ar en) (bi ws)
end
def fF (n:Nat) (x:V):Prop:=x.canLay0=true/\x.depth<=n
def ck (h:fF n x) (hn:n<=64):fj x=true:=zA3 ⟨h.1,NL (zB1 h.2 hn)⟩
theorem nO:∀ {n:Nat} {l:List V},(∀ x∈l,fF n x)->canLayAll0 l=true/\depthAll l<=n
 | n,[],_=>⟨rfl,zero_le _⟩
 | n,x :: l,h=>⟨zA3 ⟨(h x (.head _)).1,(nO fun y m=>h y (.tail _ m)).1⟩,max_le.mpr ⟨(h x (.head _)).2,(nO fun y m=>h y (.tail _ m)).2⟩⟩
def cB (h:∀ x∈l,fF n x):fF (n+1) (.list l):=⟨(nO h).1,succ_le_succ (nO h).2⟩
def bX (h:∀ x∈l,fF n x):fF (n+1) (.tuple l):=⟨(nO h).1,succ_le_succ (nO h).2⟩
def cG (h:aA x=true):fF 0 x:=by
 cases x with
 | int i=>exact ⟨rfl,le_refl _⟩
 | str s=>exact ⟨h,le_refl _⟩
 | _=>(injection h; done)
def pn (sk:SgOk s0 s1 s2) (ok:W.ok s0 s1 s2 R w):fF 1 w.v:=bX fun x m=>cG (dT sk ok x m)
def BL (h:fj x=true):aO .NotEq x x=some false:=by
 refine (?_:(eqO x x).map _=_);rw [show eqO x x=some (PyData.eqv x x) from NP (by rw [h]; rfl),PySem.SeqAt.eqv_refl x (zA2 h).1]; rfl
def y7 (h:dQ k m=false) (h':dQ m k=false):k=m:=by
 cases k with
 | inl a=>cases m with
  | inl b=>have h:=of_decide_eq_false h; have h':=of_decide_eq_false h'; exact NO _ (by exact Int.le_antisymm (Int.not_lt.mp h') (Int.not_lt.mp h))
  | inr y=>(injection h; done)
 | inr x=>cases m with
  | inl b=>(injection h'; done)
  | inr y=>
   have h:=of_decide_eq_false h;have h':=of_decide_eq_false h';have e:x.cps.toList=y.cps.toList:=List.le_antisymm h' h;cases x; cases y
   exact NO _ (NO Str.mk (toList_inj.mp e))
theorem jI:∀ {a b:List Sc},aW a b=false->aW b a=false->a=b
 | [],[],_,_=>rfl
 | [],_ :: _,h,_=>nB h.symm
 | _ :: _,[],_,h=>nB h.symm
 | k :: ks,m :: ms,h,h'=>by
  have h:(if k=m then aW ks ms else dQ k m)=false:=h;have h':(if m=k then aW ms ks else dQ m k)=false:=h';by_cases e:k=m
  ·subst e;rw [NP rfl] at h h';rw [jI h h']
  ·rw [NQ e] at h;rw [NQ fun q=>e q.symm] at h';exact absurd (y7 h h') e
noncomputable def unK (k:Sc):V:=k.elim .int .str
def Fq (h:aA x=true):unK (kOf x)=x:=by cases x <;> first | rfl | exact nB h
def AH {l:List V} (h:∀ x∈l,aA x=true):(l.map kOf).map unK=l:=by
 rw [map_map];exact (map_congr_left fun x m=>Fq (h x m)).trans (map_id l)
def keys_inj {l m:List V} (h:∀ x∈l,aA x=true) (h':∀ x∈m,aA x=true) (e:l.map kOf=m.map kOf):l=m:=(AH h).symm.trans ((NO _ e).trans (AH h'))
section
variable {s0 s1 s2:List Nat} {R:Int} {ws:List W} (sk:SgOk s0 s1 s2) (ok:∀ w∈ws,W.ok s0 s1 s2 R w)
include sk ok
theorem uU (hx:x∈ws.map W.v) (hy:y∈ws.map W.v) (h:aW (aH y) (aH x)=false) (h':aW (aH x) (aH y)=false):x=y:=by
 obtain ⟨w,mw,rfl⟩:=zA7 hx;obtain ⟨u,mu,rfl⟩:=zA7 hy;exact NO PyData.tuple (keys_inj (fun x m=>dT sk (ok w mw) x m) (fun x m=>dT sk (ok u mu) x m) (jI h' h))
theorem tR (hn:r.Nodup) (hm:∀ y,y∈r ↔ y∈ws.map W.v) (hr:kr r) (HE:r'.Nodup) (HF:∀ y,y∈r' ↔ y∈ws.map W.v) (hr':kr r'):r=r':=
 Perm.eq_of_pairwise (le:=fun x y=>aW (aH y) (aH x)=false) (fun x y mx my h h'=>uU sk ok ((hm x).mp mx) ((HF y).mp my) h h') hr hr' ((List.perm_ext_iff_of_nodup hn HE).mpr fun y=>(hm y).trans (HF y).symm)
theorem ui {l:List V} (h:∀ x∈l,x∈ws.map W.v):∀ x∈l,fF 1 x:=fun x m=>by
 obtain ⟨w,mw,rfl⟩:=zA7 (h x m);exact pn sk (ok w mw)
end
def wG (hx:fj x=true) (hl:fj (.list l)=true):aO .NotIn x (.list l)=some (!(l.any fun z=>PyData.eqv z x)):=NO (Option.map (!·)) (NP (by rw [hx,hl]; rfl))
def zZ (sk:SgOk s0 s1 s2):fF 1 (sg s0 s1 s2):=bX fun x m=>by
 have t:∀ {l:List Nat},(∀ c∈l,low c=true)->fF 0 (text l):=fun h=>cG (x:=text _) (cZ h);rcases mem_cons.mp m with rfl | m
 ·exact t fun c q=>sk.lowA q
 rcases mem_cons.mp m with rfl | m
 ·exact t fun c q=>sk.lowB q
 ·obtain rfl:=zA6 m; exact t fun c q=>sk.lowC q
structure MethOk (cf:CallF):Prop where
 m9:∀ sv R st en r (K:V->Prop),K sv->cf.p 15 [a7 sv R st en r] K
 m10:∀ sv R st en r (K:V->Prop),K (.int R)->cf.p 16 [a7 sv R st en r] K
 m11:∀ sv R st en r (K:V->Prop),st.length<=5000->K (ar st)->cf.p 17 [a7 sv R st en r] K
 m12:∀ sv R st en r (K:V->Prop),en.length<=5000->K (ar en)->cf.p 18 [a7 sv R st en r] K
 m13:∀ sv R st en (r:List V) (K:V->Prop),r.length<=5000->K (.list r)->cf.p 19 [a7 sv R st en r] K
open Classical in
theorem cK:∀ {l m:List α},l.Nodup->(∀ x∈l,x∈m)->l.length<=m.length
 | [],_,_,_=>zero_le _
 | x :: l,m,nd,h=>by
  have nd:=nodup_cons.mp nd;have mx:=h x (.head _);have q:=cK (m:=m.erase x) nd.2 fun y my=>(List.mem_erase_of_ne (a:=y) (b:=x) fun e=>nd.1 (by exact e▸my)).mpr (h y (.tail _ my));rw [List.length_erase_of_mem mx] at q;have:=List.length_pos_of_mem mx;exact zB1 (succ_le_succ q) (zB2 (sub_add_cancel this))
section
variable {cf:CallF} {s0 s1 s2:List Nat}
def wO (me:MethOk cf) (h:Val cf G e (a7 (sg s0 s1 s2) R st en r)):Val cf G (.nd (.meth 0 15) [e]) (sg s0 s1 s2):=bN h rfl .nil (me.m9 _ _ _ _ _)
def BZ (me:MethOk cf) (h:Val cf G e (a7 (sg s0 s1 s2) R st en r)):Val cf G (.nd (.meth 0 16) [e]) (.int R):=bN h rfl .nil (me.m10 _ _ _ _ _)
def wN (me:MethOk cf) (h:Val cf G e (a7 (sg s0 s1 s2) R st en r)) (hz:st.length<=40):Val cf G (.nd (.meth 0 17) [e]) (ar st):=bN h rfl .nil (me.m11 _ _ _ _ _ · (zB1 hz (by decide)))
def wP (me:MethOk cf) (h:Val cf G e (a7 (sg s0 s1 s2) R st en r)) (hz:en.length<=40):Val cf G (.nd (.meth 0 18) [e]) (ar en):=bN h rfl .nil (me.m12 _ _ _ _ _ · (zB1 hz (by decide)))
def wM (me:MethOk cf) (h:Val cf G e (a7 (sg s0 s1 s2) R st en r)) (hz:r.length<=4000):Val cf G (.nd (.meth 0 19) [e]) (.list r):=bN h rfl .nil (me.m13 _ _ _ _ _ · (zB1 hz (by decide)))
end
def S27 (cf:CallF):Prop:=∀ s0 s1 s2 R st en ws K,ah s0 s1 s2 R st en ws->(∀ C' F1 r,Held st en (ws.map W.v) C' F1 r->K (a7 (sg s0 s1 s2) R C' F1 r))->cf.p 27 [cP (sg s0 s1 s2) R st en ws] K
def l5 (h:l.length<=5000):opN .listOf [.list l]=some (.list l):=by
 refine (?_:(cq l l).map _=_);rw [show cq l l=some l from NP (bT h)]; rfl
def p27 (cf:CallF) (Ja:S14 cf):S27 (step cf):=fun s0 s1 s2 R st en ws K g h=>by
 refine run (fn:=f27) rfl rfl rfl ?_;have ln:∀ {α:Type} {f:α->V} {l:List α} {n:Nat},l.length<=n->n<=5000->(l.map f).length<=5000:=fun h h'=>by rw [zA4]; exact zB1 h h'
 have hv:dR cf [.v (cP (sg s0 s1 s2) R st en ws)] [sbE (vv 0) (ii 0),sbE (vv 0) (ii 1),.nd .listOf [(sbE (vv 0) (ii 2))],.nd .listOf [(sbE (vv 0) (ii 3))],.nd .listOf [(sbE (vv 0) (ii 4))]] [sg s0 s1 s2,.int R,ar st,ar en,bi ws]:=
  .cons ix (.cons ix (.cons (aa (.one ix) (l5 (ln g.st.len (by decide)))) (.two (aa (.one ix) (l5 (ln g.en.len (by decide)))) (aa (.one ix) (l5 (ln g.len (by decide)))))))
 exact hv (fun xs=>cf.p 14 xs fun y=>K y) (Ja s0 s1 s2 R st en ws _ g h)
noncomputable def eF (l:List V) (k:Nat):Int:=match l.getD k .none with
 | .int i=>i
 | _=>0
noncomputable def nP (l:List V) (k:Nat):Nat:=match l.getD k .none with
 | .str s=>s.cps.toList.headD 0
 | _=>0
noncomputable def ny (l:List V):Nat:=match l.getD 0 .none with
 | .str s=>s.cps.size
 | _=>0
def unW (v:V):W:=match v with
 | .tuple l=>if ny l=2 then .on (eF l 1) (nP l 2) (eF l 3) else if ny l=4 then .op (eF l 1) (nP l 2) (eF l 3) (eF l 4) else .cl (eF l 1) (eF l 2) (nP l 3) (eF l 4)
 | _=>.on 0 0 0
def ES (w:W):unW w.v=w:=by cases w <;> rfl
def xW {w u:W} (h:w.v=u.v):w=u:=(ES w).symm.trans ((NO unW h).trans (ES u))
def ofV (s0 s1 s2:List Nat) (R:Int) (st en:List Int) (r:List V):V:=p5V (sg s0 s1 s2) (.int R) (ar st) (ar en) (.list r)
def S37 (cf:CallF):Prop:=∀ s0 s1 s2 R st en r (K:V->Prop),st.length<=40->en.length<=40->r.length<=4000->K (ofV s0 s1 s2 R st en r)->cf.p 37 [a7 (sg s0 s1 s2) R st en r] K
def p37 (cf:CallF) (me:MethOk cf):S37 (step cf):=fun s0 s1 s2 R st en r K l1 l2 l3 h=>run (fn:=f37) rfl rfl rfl (aB (v:=ofV s0 s1 s2 R st en r) (aa (.cons (wO me ix) (.cons (BZ me ix) (.cons (wN me ix l1) (.two (wP me ix l2) (wM me ix l3))))) rfl) h)
noncomputable def mOf (c s:Int) (i:Nat):Nat:=((c+s * (0+(i:Int))).fmod 26).toNat
def r5 (c s:Int) (n:Nat):List Nat:=(List.range n).map fun i=>97+mOf c s i
def xo (c s:Int) (i:Nat):mOf c s i < 26:=by
 have h1:=ba (c+s * (0+(i:Int))) (b:=26) (by decide);have h2:=cj (c+s * (0+(i:Int))) (b:=26) (by decide);unfold mOf; exact (toNat_lt h1).mpr (Int.lt_of_lt_of_le h2 (by decide))
def xR:∀ m,m < 26->abc.cps.toList[m]?=some (97+m)/\low (97+m)=true:=by decide
noncomputable def hJ (c:Int):Int:=1+2 * ((c.fdiv 26).fmod 5)
def yV:∀ q,q < 5->∀ d,d < 12->d≠0->((1+2 * q) * d) % 26≠0:=by decide
def u4 (c:Int) (q i d:Nat):(c+(1+2 * (q:Int)) * (0+((i+d:Nat):Int))) - (c+(1+2 * (q:Int)) * (0+(i:Int)))=(((1+2 * q) * d:Nat):Int):=by
 rw [Int.zero_add,Int.zero_add,natCast_add,Int.mul_add,natCast_mul,natCast_add,natCast_mul];refine (?_:_=(1+2 * (q:Int)) * (d:Int));generalize (1+2 * (q:Int)) * (i:Int)=x;generalize (1+2 * (q:Int)) * (d:Int)=y;lia
def tS (c:Int) (hn:n<=12):(r5 c (hJ c) n).Nodup:=by
 refine (Int.eq_ofNat_of_zero_le (ba (c.fdiv 26) (b:=5) (by decide))).elim fun q hq=>?_;have h2:=cj (c.fdiv 26) (b:=5) (by decide)
 skip
 refine pairwise_map.mpr (Pairwise.imp_of_mem (fun {i j} mi mj F8 e=>?_) (List.pairwise_lt_range (n:=n)));obtain ⟨d,rfl⟩:=Nat.exists_eq_add_of_lt F8;have hj:=mem_range.mp mj;have e:mOf c (hJ c) i=mOf c (hJ c) (i+(d+1)):=Nat.add_left_cancel e;unfold mOf hJ at e;rw [hq] at e h2;have e:(c+(1+2 * (q:Int)) * (0+((i+(d+1):Nat):Int))).fmod 26=(c+(1+2 * (q:Int)) * (0+(i:Int))).fmod 26:=by
  rw [<- toNat_of_nonneg (ba (c+(1+2 * (q:Int)) * (0+((i+(d+1):Nat):Int))) (b:=26) (by decide)),<- e,toNat_of_nonneg (ba _ (by decide))]
 rw [Int.fmod_eq_emod_of_nonneg _ (by decide),Int.fmod_eq_emod_of_nonneg _ (by decide),Int.emod_eq_emod_iff_emod_sub_eq_zero,u4] at e;exact yV q (ofNat_lt.mp h2) (d+1) (Q0 (le_add_left (d+1) i) (Q1 hj hn)) (Nat.succ_ne_zero d) (by exact_mod_cast e)
def za (c s:Int) (n:Nat):∀ x∈r5 c s n,low x=true:=fun x m=>by
 obtain ⟨i,_,rfl⟩:=zA7 m;exact (xR _ (xo c s i)).2
def Cb {l:List Nat} {i j k:Nat} (hn:l.Nodup) (hl:∀ x∈l,low x=true) (h1:i<=4) (h2:i<=j) (h3:j<=k) (h4:j - i<=4) (h5:k - j<=4):SgOk (l.take i) ((l.drop i).take (j - i)) ((l.drop j).take (k - j)):=by
 have e:l.take i++(l.drop i).take (j - i)++(l.drop j).take (k - j)=l.take k:=by
  rw [<- take_add,show i+(j - i)=j by exact Q9 h2,<- take_add,show j+(k - j)=k by exact Q9 h3]
 refine ⟨zB1 (length_take_le _ _) h1,zB1 (length_take_le _ _) h4,zB1 (length_take_le _ _) h5,?_,?_⟩
 ·exact e.symm▸fun x m=>hl x (mem_of_mem_take m)
 ·rw [e]; exact hn.sublist (take_sublist _ _)
theorem rQ:∀ l:List Nat,fT (l.map fun c=>text [c])=some (l.map fun c=>[c])
 | []=>rfl
 | c :: r=>by unfold fT; rw [map_cons,mapM_cons]; refine (?_:(fT (r.map fun c=>text [c])).bind _=_); rw [rQ r]; rfl
theorem kU:∀ l:List Nat,hU [] (l.map fun c=>[c])=l
 | []=>rfl
 | [c]=>rfl
 | c :: d :: r=>NO (c :: ·) (kU (d :: r))
theorem oE:∀ l:List Nat,((l.map fun c=>[c]).map length).sum=l.length
 | []=>rfl
 | c :: r=>by rw [map_cons,map_cons,sum_cons,oE r,zB4]; exact add_comm _ _
def uW (ha:Val cf G a (.list (l.map fun c=>text [c]))) (hz:l.length<=5000):Val cf G (.nd .join [ss k0,a]) (text l):=fun K h=>by
 refine ⟨rfl,ha _ (ag (z:=text l) ?_ h)⟩;refine (?_:(fT (l.map fun c=>text [c])).bind _=_);rw [rQ]
 show (if _ then some (text (hU [] (l.map fun c=>[c]))) else none)=_
 rw [kU];exact NP (by rw [oE]; exact bT (by refine (?_:l.length+_ * 0<=5000); rw [Nat.mul_zero]; exact hz))
def rg (h0:0<=i) (h1:i.toNat<=n):pz d n (some (.int i))=some i.toNat:=by
 refine (?_:some (if 0<=i then min i.toNat n else _)=_);rw [NP h0,min_eq_left h1]
def rj (hz:l.length<=5000) (h1:pz 0 l.length lo=some i) (h2:pz l.length l.length hi=some j) (h:i<=j):mM f l lo hi=some (f ((l.drop i).take (j - i))):=by
 unfold mM;rw [NP (bT hz),h1,h2];exact NP h
def xk {l:List Nat} {i j:Nat} (hz:l.length<=5000) (h:i<=j) (h1:j<=l.length):opN (.slice true true) [text l,.int i,.int j]=some (text ((l.drop i).take (j - i))):=rj (l:=l) (f:=text) hz (rg (i:=i) (natCast_nonneg i) (zB1 h h1)) (rg (i:=j) (natCast_nonneg j) h1) h
def zq {l:List Nat} {j:Nat} (hz:l.length<=5000) (h1:j<=l.length):opN (.slice false true) [text l,.int j]=some (text (l.take j)):=rj (l:=l) (f:=text) (lo:=none) hz rfl (rg (i:=j) (natCast_nonneg j) h1) (zero_le _)
structure Sg2 (a b c:List Nat):Prop where
 sk:SgOk a b c
 la:a.length<=2
 lb:b.length<=2
 lc:c.length<=2
def S23 (cf:CallF):Prop:=∀ c:Int,∃ s0 s1 s2,Sg2 s0 s1 s2/\∀ K,K (sg s0 s1 s2)->cf.p 23 [.int c] K
def FJ {l:List Nat} {i j k:Int} (hl:l.length<=12) (hn:l.Nodup) (lo:∀ x∈l,low x=true) (h0:0<=i) (h1:i<=2) (h2:0<=j) (h3:j<=2) (h4:0<=k) (h5:k<=2) (h6:i+j+k<=l.length):∃ a b c,Sg2 a b c/\opN (.slice false true) [text l,.int i]=some (text a)/\opN (.slice true true) [text l,.int i,.int (i+j)]=some (text b)/\opN (.slice true true) [text l,.int (i+j),.int (i+j+k)]=some (text c):=by
 refine (Int.eq_ofNat_of_zero_le h0).elim fun i IM=>?_;subst IM;obtain ⟨j,rfl⟩:=Int.eq_ofNat_of_zero_le h2;obtain ⟨k,rfl⟩:=Int.eq_ofNat_of_zero_le h4;have h6:i+j+k<=l.length:=ofNat_le.mp h6;have hz:l.length<=5000:=zB1 hl (by decide);have hj:i+j<=l.length:=zB1 (Q3 _ _) h6;have h1:i<=2:=ofNat_le.mp h1;have h3:i+j - i<=2:=by rw [add_sub_cancel_left]; exact ofNat_le.mp h3
 have h5:i+j+k - (i+j)<=2:=by rw [add_sub_cancel_left]; exact ofNat_le.mp h5
 refine ⟨_,_,_,⟨Cb (i:=i) (j:=i+j) (k:=i+j+k) hn lo (zB1 h1 (by decide)) (Q3 _ _) (Q3 _ _) (zB1 h3 (by decide)) (zB1 h5 (by decide)),zB1 (length_take_le _ _) h1,zB1 (length_take_le _ _) h3,zB1 (length_take_le _ _) h5⟩,zq hz (zB1 (Q3 _ _) hj),?_,?_⟩
 ·exact xk (i:=i) (j:=i+j) hz (Q3 _ _) hj
 ·exact xk (i:=i+j) (j:=i+j+k) hz (Q3 _ _) h6
def yN {c s:Int} {n:Nat} (hn:n<=12) (hr:a9 (.list (be 0 n))=some ((List.range n).map fun i:Nat=>.int (0+(i:Int)))) (h0:∀ i:Nat,Val cf (G.set 6 (.v (.int (0+(i:Int))))) (vv 0) (.int c)) (h1:∀ i:Nat,Val cf (G.set 6 (.v (.int (0+(i:Int))))) (vv 1) (.str abc)) (h2:∀ i:Nat,Val cf (G.set 6 (.v (.int (0+(i:Int))))) (vv 2) (.int s)) (h6:∀ i:Nat,Val cf (G.set 6 (.v (.int (0+(i:Int))))) (vv 6) (.int (0+(i:Int))))
  (hs:s.natAbs<=1000000) (Hh:Val cf G e (.list (be 0 n))):Val cf G (.nd .join [ss k0,.nd (.comp 6) [e,yn]]) (text (r5 c s n)):=by
 refine uW ?_ (by unfold r5; rw [zA4,length_range]; exact Nat.le_add_left_of_le hn);have q:=d9 (k:=6) (f:=fun i:Nat=>text [97+mOf c s i]) Hh hr (e:=yn) fun i m=>aa (.two (h1 i) (aa (.two (aa (.two (h0 i) (aa (.two (h2 i) (h6 i)) (iX (.inr hs)))) rfl) ix) (eC (by decide)))) (mB (f:=fun c=>text [c]) (by decide) (ba _ (by decide)) (xR _ (xo c s i)).1);unfold r5;rw [map_map];exact q
def iQ {l:List Int} {i:Int} (h0:0<=i) (h1:i < l.length):(l.map PyData.int)[i.toNat]?=some (.int (l.getD i.toNat 0)):=by
 have:i.toNat < l.length:=by exact (toNat_lt ‹_›).mpr h1
 rw [getElem?_map,getD_eq_getElem?_getD,Q8 this]; rfl
def se:(∀ i,i < 4->([1,1,2,0]:List Int).getD i 0<=2/\0<=([1,1,2,0]:List Int).getD i 0)/\∀ i,i < 5->([1,2,1,1,0]:List Int).getD i 0<=2/\0<=([1,2,1,1,0]:List Int).getD i 0:=by decide
def yW (c:Int):(hJ c).natAbs<=1000000:=by
 have h1:=ba (c.fdiv 26) (b:=5) (by decide);have h2:=cj (c.fdiv 26) (b:=5) (by decide);unfold hJ;refine ofNat_le.mp ?_;rw [Int.natAbs_of_nonneg (add_nonneg (by decide) (mul_nonneg (by decide) h1))];exact le_trans (Int.add_le_add_left (Int.mul_le_mul_of_nonneg_left (Int.le_of_lt h2) (by decide)) 1) (by decide)
def rZ (c s:Int) (n:Nat):(r5 c s n).length=n:=by unfold r5; rw [zA4,length_range]
def p23 (cf:CallF):S23 (step cf):=fun c=>by
 have a1:=ba (c.fdiv 130) (b:=4) (by decide);have a2:=cj (c.fdiv 130) (b:=4) (by decide);have b1:=ba (c.fdiv 520) (b:=5) (by decide);have b2:=cj (c.fdiv 520) (b:=5) (by decide);have o1:=se.1 _ ((toNat_lt a1).mpr a2);have o2:=se.2 _ ((toNat_lt b1).mpr b2);have e1:=fL (l:=[.int 1,.int 1,.int 2,.int 0]) (by decide) a1 (iQ (l:=[1,1,2,0]) a1 a2);have e2:=fL (l:=[.int 1,.int 2,.int 1,.int 1,.int 0]) (by decide) b1 (iQ (l:=[1,2,1,1,0]) b1 b2);clear a1 a2 b1 b2;generalize ([1,1,2,0]:List Int).getD ((c.fdiv 130).fmod 4).toNat 0=one at o1 e1;generalize ([1,2,1,1,0]:List Int).getD ((c.fdiv 520).fmod 5).toNat 0=two at o2 e2;have c2:=Int.le_of_lt_add_one (cj (c.fdiv 2600) (b:=2+1) (by decide));obtain ⟨x,y,z,ok,q1,q2,q3⟩:=FJ (l:=r5 c (hJ c) 6) (i:=one) (j:=two) (k:=(c.fdiv 2600).fmod 3) (by rw [rZ]; decide) (tS c (by decide)) (za c _ 6) o1.2 o1.1 o2.2 o2.1 (ba _ (by decide)) c2 (by rw [rZ]; exact Int.add_le_add (Int.add_le_add o1.1 o2.1) c2);refine ⟨x,y,z,ok,fun K h=>run (fn:=f23) rfl rfl rfl ?_⟩;refine ai (v:=.str abc) ix (ai (v:=.int (hJ c)) (aa (.two ix (aa (.two ix ix) (iX (.inr (by decide))))) rfl) ?_);refine ai (yN (c:=c) (s:=hJ c) (n:=6) (by decide) rfl (fun i=>ix) (fun i=>ix) (fun i=>ix) (fun i=>ix) (yW c) ix) ?_;refine ai (v:=.int one) (aa (.two ix ix) e1) (ai (v:=.int (one+two)) (aa (.two ix (aa (.two ix ix) e2)) rfl) ?_);exact aB (v:=sg x y z) (aa (.cons (aa (.two ix ix) q1) (.two (aa (.cons ix (.two ix ix)) q2) (aa (.cons ix (.two ix (aa (.two ix ix) rfl))) q3))) rfl) h
def Cq (c:Int):0<=1+c.fmod 4/\1+c.fmod 4<=4:=by
 have a1:=ba c (b:=4) (by decide);have a2:=cj c (b:=3+1) (by decide);exact ⟨add_nonneg (by decide) a1,Int.add_le_add_left (Int.le_of_lt_add_one a2) 1⟩
def yB (hl:fj (.list l)=true):aO .Eq (.list l) (.list [])=some l.isEmpty:=(NP (by rw [hl]; rfl)).trans (NO some (by cases l <;> rfl))
def sd {cell:Int} {n:Nat} (h:0 < n):(cell.fmod n).toNat < n:=(toNat_lt (ba cell (ofNat_lt.mpr h))).mpr (cj cell (ofNat_lt.mpr h))
def qV (he:Val cf G e (text s)) (hi:Val cf G ei (.int i)) (hs:s≠[]) (hl:s.length<=4):∃ x∈s,Val cf G (sbE e (mdE ei (lnE e))) (text [x]):=by
 have hp:=List.length_pos_iff.mpr hs;have hz:s.length<=5000:=zB1 hl (by decide);have lt:=sd (cell:=i) hp;exact ⟨_,getElem_mem lt,aa (.two he (aa (.two hi (aa (.one he) (il hz))) (eC (ofNat_lt.mpr hp)))) (Cu hz (ba _ (ofNat_lt.mpr hp)) (Q8 lt))⟩
def fK (h:(!s.isEmpty)=true):s≠[]:=fun e=>by subst e; (injection h; done)
def iJ (h:strOk ⟨l.toArray⟩=true):aO .NotEq (text l) (.str k0)=some (!l.isEmpty):=(BK h Fw).trans (NO (fun b=>some (!b)) (by
 cases l with
 | nil=>rfl
 | cons c r=>exact beq_eq_false_iff_ne.mpr fun e=>nomatch NO (fun s:Str=>s.cps.toList) e))
def sM (h:∀ x∈l,fF 1 x):aO .NotEq (.list l) (.list [])=some (!l.isEmpty):=NO (Option.map (!·)) (yB (ck (n:=2) (cB h) (by decide)):eqO (.list l) (.list [])=some l.isEmpty)
noncomputable def opB:W->Bool
 | .op _ _ _ _=>true
 | _=>false
def AV (h:opB w=true):∃ a c b t,w=.op a c b t:=by
 cases w with
 | op a c b t=>exact ⟨a,c,b,t,rfl⟩
 | _=>exact nB h
def S25 (cf:CallF):Prop:=∀ cell s0 s1 s2 R (os:List W) (most:Int) (K:V->Prop),SgOk s0 s1 s2->1<=R->os.length<=100->(∀ w∈os,opB w=true/\W.ok s0 s1 s2 R w)->K .none->(∀ w,(opB w=true->(os.length:Int) < most)->W.ok s0 s1 s2 R w->K w.v)->cf.p 25 [.int cell,sg s0 s1 s2,.int R,bi os,.int most] K
section
variable {cf:CallF} {cell R most a b t:Int} {s0 s1 s2:List Nat} {os:List W} {K:GT} {r:List S}
def g25 (cell:Int) (s0 s1 s2:List Nat) (R:Int) (os:List W) (most a b t:Int):Gs:=[.v (.int cell),.v (sg s0 s1 s2),.v (.int R),.v (bi os),.v (.int most),.v (.int a),.v (.int b),.v (.int t)]
def qX (k:Int) (he:Val cf (g25 cell s0 s1 s2 R os most a b t) (sbE (vv 1) (ii k)) (text s)) (hs:s≠[]) (hl:s.length<=4):∃ x∈s,Val cf (g25 cell s0 s1 s2 R os most a b t) (sbE (sbE (vv 1) (ii k)) (mdE (fdE (vv 0) (ii 256)) (lnE (sbE (vv 1) (ii k))))) (text [x]):=qV he (i:=cell.fdiv 256) ix hs hl
def vC (sk:SgOk s0 s1 s2) (ok:∀ w∈os,opB w=true/\W.ok s0 s1 s2 R w) (hl:os.length<=100) (nn:Val cf (g25 cell s0 s1 s2 R os most a b t) (neE (vv 3) (.nd .list [])) (.bool (!(os.map W.v).isEmpty))) (h0:s0≠[]) (ha:In R a) (hb:In R b) (ht:In R t) (h:∀ w G,W.ok s0 s1 s2 R w->K (some w.v) G):exs cf (BB++r) (g25 cell s0 s1 s2 R os most a b t) K:=by
 have last:exs cf (.mk .ret [.nd .tuple [ss a6,vv 5,sbE (sbE (vv 1) (ii 0)) (mdE (fdE (vv 0) (ii 256)) (lnE (sbE (vv 1) (ii 0)))),vv 6,vv 7]] [] [] :: r) (g25 cell s0 s1 s2 R os most a b t) K:=(qX 0 ix h0 sk.la).elim fun c q=>q.elim fun mc hc=>aB (v:=W.v (.op a c b t)) (aa (.cons ix (.cons ix (.cons hc (.two ix ix)))) rfl) (h _ _ ⟨ha,mc,hb,ht⟩);cases os with
 | nil=>exact aM (aE (.stop (b:=true) nn)) (aM (aE (.stop (b:=true) nn)) last)
 | cons w os=>
  obtain ⟨io,wo⟩:=ok w (.head _);obtain ⟨a',c',b',t',rfl⟩:=AV io;have w0:Val cf (g25 cell s0 s1 s2 R (.op a' c' b' t' :: os) most a b t) (sbE (vv 3) (ii 0)) (W.v (.op a' c' b' t')):=aa (.two (x:=.list ((W.op a' c' b' t' :: os).map W.v)) ix ix) (fL (by rw [zA4]; exact zB1 hl (by decide)) (Int.le_refl _) rfl);refine bS (aE (.go nn (.one ix))) (fun U=>aB (v:=W.v (.op a' c' b t)) (aa (.two (x:=.tuple [.str a6,.int a',text [c']]) (aa (.two w0 ix) rfl) ix) rfl) (h _ _ ⟨wo.1,wo.2.1,hb,ht⟩)) fun U=>bS (aE (.go nn (.one ix))) (fun U=>aB (v:=W.v (.op (R - 1 - a') c' b t)) (aa (.cons ix (.cons (aa (.two (x:=.int (R - 1)) ix (aa (.two w0 ix) rfl)) rfl) (.cons (aa (.two w0 ix) rfl) (.two ix ix)))) rfl) (h _ _ ⟨⟨sub_nonneg_of_le (Int.le_sub_one_of_lt wo.1.2),Int.lt_of_le_of_lt (Int.sub_le_self _ wo.1.1) (Int.sub_one_lt_of_le (Int.le_refl R))⟩,wo.2.1,hb,ht⟩)) fun U=>last
def t7 (sk:SgOk s0 s1 s2) (ok:∀ w∈os,opB w=true/\W.ok s0 s1 s2 R w) (hl:os.length<=100) (nn:Val cf (g25 cell s0 s1 s2 R os most a b t) (neE (vv 3) (.nd .list [])) (.bool (!(os.map W.v).isEmpty))) (h1:s1≠[]) (ha:In R a) (hb:In R b) (ht:In R t) (h:∀ w G,opB w=false->W.ok s0 s1 s2 R w->K (some w.v) G):exs cf (BA++r) (g25 cell s0 s1 s2 R os most a b t) K:=by
 have last:∀ {a b:Int},In R a->In R b->exs cf (.mk .ret [.nd .tuple [ss aC,vv 5,vv 6,sbE (sbE (vv 1) (ii 1)) (mdE (fdE (vv 0) (ii 256)) (lnE (sbE (vv 1) (ii 1)))),vv 7]] [] [] :: r) (g25 cell s0 s1 s2 R os most a b t) K:=fun {a b} ha hb=>(qX 1 ix h1 sk.lb).elim fun c q=>q.elim fun mc hc=>aB (v:=W.v (.cl a b c t)) (aa (.cons ix (.cons ix (.cons ix (.two hc ix)))) rfl) (h _ _ rfl ⟨ha,hb,mc,ht⟩);refine bS (aE (.and nn fun U=>.one (ab (x:=.int ((cell.fdiv 1024).fmod 4)) ix ix rfl))) (fun q=>?_) fun U=>last ha hb;have he:0 < (os.map W.v).length:=List.length_pos_iff.mpr (fK (zA2 q).1);have hz:(os.map W.v).length<=5000:=by rw [zA4]; exact zB1 hl (by decide)
 have lt:=sd (cell:=cell.fdiv 16) he;obtain ⟨w,mw,ew⟩:=zA7 (getElem_mem lt);obtain ⟨io,wo⟩:=ok w mw;obtain ⟨a',c',b',t',rfl⟩:=AV io;exact d8 (v:=.tuple [.int b',.int t']) (aa (vs:=[W.v (.op a' c' b' t'),.int 3]) (.two (aa (.two (x:=.list (os.map W.v)) ix (aa (.two (x:=.int (cell.fdiv 16)) ix (aa (.one (v:=.list (os.map W.v)) ix) (iY hz))) (eC (ofNat_lt.mpr he)))) (fL hz (ba _ (ofNat_lt.mpr he)) (by rw [ew]; exact Q8 lt))) ix) rfl) rfl (last wo.2.2.1 wo.2.2.2)
end
def p25 (cf:CallF):S25 (step cf):=fun cell s0 s1 s2 R os most K sk hR hl ok hn hw=>by
 have R0:0 < R:=Int.lt_of_lt_of_le (by decide) hR;have Mp:∀ x:Int,In R (x.fmod R):=fun x=>⟨ba x R0,cj x R0⟩;have fl:∀ x∈os.map W.v,fF 1 x:=fun x m=>by
  obtain ⟨w,mw,rfl⟩:=zA7 m;exact pn sk (ok w mw).2
 refine run (fn:=f25) rfl rfl rfl (ai (aa (.two ix ix) (eC R0)) (ai (aa (.two ix ix) (eC R0)) (ai (aa (.two ix ix) (eC R0)) ?_)));have ha:=Mp (cell.fdiv 4);have hb:=Mp (cell.fdiv 16);have ht:=Mp (cell.fdiv 64);generalize (cell.fdiv 4).fmod R=a at ha ⊢;generalize (cell.fdiv 16).fmod R=b at hb ⊢;generalize (cell.fdiv 64).fmod R=t at ht ⊢;refine (?_:exs cf (f25.body.drop 3) (g25 cell s0 s1 s2 R os most a b t) fun fl U=>K (fl.getD .none));have nn:Val cf (g25 cell s0 s1 s2 R os most a b t) (neE (vv 3) (.nd .list [])) (.bool (!(os.map W.v).isEmpty)):=ab (x:=.list (os.map W.v)) ix ix (sM fl);refine bS (aE (.and ix fun U=>.and (ab (aa (.one (v:=.list (os.map W.v)) ix) (iY (by rw [zA4]; exact zB1 hl (by decide)))) ix rfl) fun U=>.one (ab (x:=text s0) ix ix (iJ (cZ fun c m=>sk.lowA m))))) (fun q=>?_) fun U=>bS (aE (.and ix fun U=>.one (ab (x:=text s1) ix ix (iJ (cZ fun c m=>sk.lowB m))))) (fun q=>?_) fun U=>bS (ab (x:=text s2) ix ix (iJ (cZ fun c m=>sk.lowC m))) (fun q=>?_) fun U=>aB ix hn
 ·have q:=zA2 (zA2 q).2;exact vC sk ok hl nn (fK q.2) ha hb ht fun w U ow=>hw w (fun U=>by have:=IO q.1; rw [zA4] at this; exact this) ow
 ·exact t7 sk ok hl nn (fK (zA2 q).2) ha hb ht fun w U nw ow=>hw w (fun q=>nB (nw.symm.trans q)) ow
 ·exact (qX 2 ix (fK q) sk.lc).elim fun c q=>q.elim fun mc hc=>aB (v:=W.v (.on a c b)) (aa (.cons ix (.cons ix (.two hc ix))) rfl) (hw _ (fun q=>nB q) ⟨ha,mc,hb⟩)
def rOk_of (h0:0<=n) (h:n<=1000):rOk n=true:=Nat.ble_eq_true_of_le (ofNat_le.mp (by rw [Int.natAbs_of_nonneg h0]; exact le_trans h (by decide)))
def range_len:(be 0 n).length=n.toNat:=by unfold be; rw [zA4,length_range,Int.sub_zero]
def zn (h0:0<=n) (h:n<=1000):opN .range [.int n]=some (.list (be 0 n)):=(NP ⟨rfl,rOk_of h0 h⟩).trans (NP (bT (by rw [range_len]; exact toNat_le.mpr (le_trans h (by decide)))))
def eA (h:n<=1000):a9 (.list (be 0 n))=some (be 0 n):=aT (by rw [range_len]; exact toNat_le.mpr (le_trans h (by decide)))
def range_eq (n:Int):be 0 n=(List.range n.toNat).map fun i:Nat=>.int (0+(i:Int)):=by unfold be; rw [Int.sub_zero]
def c7 (h:Val cf G e (.int n)) (h0:0<=n) (hz:n<=1000):Val cf G (.nd .range [e]) (.list (be 0 n)):=aa (.one h) (zn h0 hz)
noncomputable def pickR (n:Nat) (p:Nat->Bool):List Int:=((List.range n).filter p).map fun i:Nat=>0+(i:Int)
def oS (h:R<=4):RoomsOk R (pickR R.toNat p) where
 len:=by
  unfold pickR;rw [zA4];have:=length_filter_le p (List.range R.toNat);rw [length_range] at this;exact zB1 this (toNat_le.mpr (le_trans h (by decide)))
 nodup:=pairwise_map.mpr ((nodup_range.filter p).imp fun h e=>h (by rw [Int.zero_add,Int.zero_add] at e; exact ofNat.inj e))
 rooms:=fun i m=>by
  obtain ⟨j,mj,rfl⟩:=zA7 m;have:=mem_range.mp (mem_filter.mp mj).1;exact ⟨add_nonneg (Int.le_refl _) (natCast_nonneg _),by rw [Int.zero_add]; exact Int.lt_toNat.mp this⟩
def kB (h:Val cf G e (.int R)) (h0:0<=R) (h1:R<=4) (ht:∀ i:Nat,(i:Int) < R->Val cf (G.set k (.v (.int (0+(i:Int))))) t (.bool (p i))) (hv:∀ i:Nat,Val cf (G.set k (.v (.int (0+(i:Int))))) (vv k) (.int (0+(i:Int)))) :
  Val cf G (.nd (.comp k) [.nd .range [e],vv k,t]) (ar (pickR R.toNat p)):=by
 have q:=jB (k:=k) (e:=vv k) (ts:=[t]) (p:=p) (f:=fun i:Nat=>.int (0+(i:Int))) (c7 h h0 (by exact le_trans h1 (by decide))) ((eA (by exact le_trans h1 (by decide))).trans (NO some (range_eq R))) (fun i m=>bm.one (ht i (Int.lt_toNat.mp (mem_range.mp m)))) fun i m U=>hv i;unfold ar pickR;rw [map_map];exact q
def Fm {i:Nat} {R:Int} (h:(i:Int) < R) (h4:R<=4):0 < 4 * (0+(i:Int))+1/\4 * (0+(i:Int))+1<=1000000:=by
 rw [Int.zero_add];exact ⟨Int.add_pos_of_nonneg_of_pos (mul_nonneg (by decide) (natCast_nonneg i)) (by decide),le_trans (Int.add_le_add_right (Int.mul_le_mul_of_nonneg_left (le_trans (Int.le_of_lt h) h4) (by decide)) 1) (by decide)⟩
def Fj {i:Nat} {R:Int} (h:(i:Int) < R) (h4:R<=4):0 < 5 * (0+(i:Int))+7/\5 * (0+(i:Int))+7<=1000000:=by
 rw [Int.zero_add];exact ⟨Int.add_pos_of_nonneg_of_pos (mul_nonneg (by decide) (natCast_nonneg i)) (by decide),le_trans (Int.add_le_add_right (Int.mul_le_mul_of_nonneg_left (le_trans (Int.le_of_lt h) h4) (by decide)) 7) (by decide)⟩
structure PartsOk (s0 s1 s2:List Nat) (R:Int) (st en:List Int) (ws:List W):Prop where
 r1:1<=R
 r4:R<=4
 st:RoomsOk R st
 en:RoomsOk R en
 len:ws.length<=10
 ok:∀ w∈ws,W.ok s0 s1 s2 R w
 ops:((ws.filter opB).length:Int) * R<=4
def S26 (cf:CallF):Prop:=∀ FS (p:Int) s0 s1 s2 K,FS.length<=63->0<=p->SgOk s0 s1 s2->(∀ R st en ws,PartsOk s0 s1 s2 R st en ws->K (cP (sg s0 s1 s2) R st en ws))->cf.p 26 [lS FS,.int p,sg s0 s1 s2,.int 4] K
def g26 (FS:List Int) (p:Int) (s0 s1 s2:List Nat) (R GX:Int) (st en:List Int) (ws:List W) (s9 Jf Hv:Slot):Gs:=[.v (lS FS),.v (.int p),.v (sg s0 s1 s2),.v (.int 4),.v (.int R),.v (.int GX),.v (ar st),.v (ar en),.ownL (ws.map W.v),s9,Jf,Hv,.unset,.unset]
inductive Ip26_1 (s0 s1 s2:List Nat) (R:Int) (FS:List Int) (p GX:Int) (st en:List Int) (xs:List V) (G:Gs):Prop
 | mk (ws:List W) (s9:Slot) (Jf:Slot) (Hv:Slot) (J':(∀ x∈xs,∃ i:Int,0<=i/\x=.int i)) (Lf:ws.length+xs.length<=10) (Le:(∀ w∈ws,W.ok s0 s1 s2 R w)) (e8_:((ws.filter opB).length:Int)<=GX) (M0:G=g26 FS p s0 s1 s2 R GX st en ws s9 Jf Hv):Ip26_1 s0 s1 s2 R FS p GX st en xs G
def cw (hv:dR cf G es vs) (h:cf.p f vs fun y=>exs cf r (G.set k (.v y)) K):exs cf (.mk (.assign k) [.nd (.call f) es] [] [] :: r) G K:=hv _ h
def zu:∀ k:Nat,k < 4->0<=([4,2,1,1]:List Int).getD k 0/\([4,2,1,1]:List Int).getD k 0 * ((k:Int)+1)<=4:=by decide
def p26 (cf:CallF) (hA:S20 cf) (hB:S21 cf) (hC:S25 cf):S26 (step cf):=fun FS p s0 s1 s2 K hs h0 sk h=>by
 have h1:0<=p+1:=add_nonneg h0 (by decide);have mR:=Cq (bC FS p);have Jm:1<=1+(bC FS p).fmod 4:=Int.add_le_add_left (ba (bC FS p) (b:=4) (by decide)) 1;have n1:0<=2+((bC FS p).fdiv 4).fmod 9:=Int.add_le_add (show 0<=(2:Int) by decide) (ba _ (by decide));have n2:2+((bC FS p).fdiv 4).fmod 9<=10:=Int.add_le_add_left (Int.le_of_lt_add_one (cj _ (b:=8+1) (by decide))) 2;have cA:∀ {G a b} {i:Int},Val cf G a (lS FS)->Val cf G b (.int i)->0<=i->Val cf G (.nd (.call 20) [a,b]) (.int (bC FS i)):=fun ha hb hi=>aG (.two ha hb) fun K h=>hA FS _ K hs hi h;have e1:=iQ (l:=[4,2,1,1]) (i:=1+(bC FS p).fmod 4 - 1) (sub_nonneg_of_le Jm) (Int.sub_lt_iff.mpr (Int.lt_add_one_of_le mR.2));refine run (fn:=f26) rfl rfl rfl ?_;have HY:=mR.2;have Ly:=mR.1;clear mR;generalize hR:1+(bC FS p).fmod 4=R at e1 Ly Jm HY;refine ai (v:=.int R) (hR▸aa (.two ix (aa (.two (cA ix ix h0) ix) (eC (by decide)))) rfl) ?_;refine ai (aa (.two (x:=.list [.int 4,.int 2,.int 1,.int 1]) ix ix) (fL (by decide) (sub_nonneg_of_le Jm) e1)) ?_;have hm:=zu (R - 1).toNat ((toNat_lt (sub_nonneg_of_le Jm)).mpr (Int.sub_lt_iff.mpr (Int.lt_add_one_of_le HY)));rw [toNat_of_nonneg (sub_nonneg_of_le Jm),Int.sub_add_cancel] at hm;generalize ([4,2,1,1]:List Int).getD (R - 1).toNat 0=GX at hm;refine ai (kB (p:=fun i=>decide (0 < ((bC FS (p+1)).fdiv (4 * (0+(i:Int))+1)).fmod 3)) ix Ly HY (fun i hi=>ab (aa (.two (aa (.two (cA (i:=p+1) ix ix h1) (aa (.two (aa (.two ix ix) (iX (.inr (by decide)))) ix) rfl)) (uD (Fm hi HY).1 (Fm hi HY).2)) ix) (eC (by decide))) ix rfl) fun i=>ix) ?_;refine ai (kB (p:=fun i=>((bC FS (p+1)).fdiv (5 * (0+(i:Int))+7)).fmod 2==0) ix Ly HY (fun i hi=>ab (aa (.two (aa (.two (cA (i:=p+1) ix ix h1) (aa (.two (aa (.two ix ix) (iX (.inr (by decide)))) ix) rfl)) (uD (Fj hi HY).1 (Fj hi HY).2)) ix) (eC (by decide))) ix rfl) fun i=>ix) (jT ?_);have ost:=oS (R:=R) (p:=fun i=>decide (0 < ((bC FS (p+1)).fdiv (4 * (0+(i:Int))+1)).fmod 3)) HY;have oen:=oS (R:=R) (p:=fun i=>((bC FS (p+1)).fdiv (5 * (0+(i:Int))+7)).fmod 2==0) HY;generalize pickR R.toNat (fun i=>decide (0 < ((bC FS (p+1)).fdiv (4 * (0+(i:Int))+1)).fmod 3))=st at ost;generalize pickR R.toNat (fun i=>((bC FS (p+1)).fdiv (5 * (0+(i:Int))+7)).fmod 2==0)=en at oen;refine kg (xs:=be 0 (2+((bC FS p).fdiv 4).fmod 9)) (P:=Ip26_1 s0 s1 s2 R FS p GX st en)
  (c7 (aa (.two ix (aa (.two (aa (.two (cA ix ix h0) ix) (uD (by decide) (by decide))) ix) (eC (by decide)))) rfl) n1 (le_trans n2 (by decide))) (eA (le_trans n2 (by decide))) ⟨[],_,_,_,fun x m=>?_,by rw [range_len,length_nil,zero_add]; exact toNat_le.mpr n2,fun w m=>(nM m),hm.1,rfl⟩ (fun G hP=>?_) fun x xs' G Kt hP nx U=>?_
 ·rw [range_eq] at m;obtain ⟨i,_,rfl⟩:=zA7 m;exact ⟨_,add_nonneg (by decide) (natCast_nonneg i),rfl⟩
 ·obtain ⟨ws,s9,Jf,Hv,_,hl,hw,ho,rfl⟩:=hP;rw [length_nil] at hl;exact fO (l:=ws.map W.v) rfl (aB ix (h R st en ws ⟨Jm,HY,ost,oen,zB1 hl (by decide),hw,le_trans (Int.mul_le_mul_of_nonneg_right ho Ly) hm.2⟩))
 ·obtain ⟨ws,s9,Jf,Hv,hx,hl,hw,ho,rfl⟩:=hP;rw [zB4,<- add_assoc] at hl;have G4:=le_of_succ_le hl;have Kz:ws.length<=10:=zB1 (Q3 _ _) G4;obtain ⟨i,hi,rfl⟩:=hx x (.head _);have hz:(ws.map W.v).length<=5000:=by rw [zA4]; exact zB1 Kz (by decide)
  refine ai (v:=bi (ws.filter opB)) (jB (g:=W.v) (p:=opB) (f:=W.v) (x:=.list (ws.map W.v)) ix (aT hz) (fun w m=>bm.one ?_) fun w m U=>ix) ?_
  ·cases w with
   | on a c b=>exact ab (x:=.str kOn) ix ix ((bk ok_on ok_open).trans (NO some (by rfl)))
   | op a c b t=>exact ab (x:=.str a6) ix ix ((bk ok_open ok_open).trans (NO some (by rfl)))
   | cl a b c t=>exact ab (x:=.str aC) ix ix ((bk ok_close ok_open).trans (NO some (by rfl)))
  have Iy:∀ x∈xs',∃ i:Int,0<=i/\x=.int i:=fun x m=>hx x (.tail _ m);refine cw (vs:=[.int (A0 (bC FS (p+2+i)) i),sg s0 s1 s2,.int R,bi (ws.filter opB),.int GX]) (.cons (aG (.two (cA (i:=p+2+i) ix ix (add_nonneg (add_nonneg h0 (by decide)) hi)) ix) fun K h=>hB _ _ K h) (.cons ix (.cons ix (.two ix ix)))) (hC (A0 (bC FS (p+2+i)) i) s0 s1 s2 R (ws.filter opB) GX _ sk Jm (zB1 (length_filter_le opB ws) (zB1 Kz (by decide))) (fun w m=>⟨(mem_filter.mp m).2,hw w (mem_filter.mp m).1⟩) ?_ fun w wl ow=>?_)
  ·exact aM ix (av (nx _ ⟨ws,_,_,_,Iy,G4,hw,ho,rfl⟩))
  ·refine fb (by cases w <;> exact ix) (dS (l:=ws.map W.v) rfl (v:=w.v) ix (Q0 hz (by decide)) (av (nx _ ⟨ws++[w],_,_,_,Iy,by rw [zB5,length_singleton,add_right_comm]; exact hl,fun u m=>?_,?_,by unfold g26; rw [map_append]; rfl⟩)));rcases mem_append.mp m with m | m
   ·exact hw u m
   ·obtain rfl:=zA6 m; exact ow
   ·rw [List.filter_append];cases ob:opB w with
    | true=>rw [filter_cons_of_pos ob,zB5]; exact wl ob
    | false=>rw [filter_cons_of_neg (by rw [ob]; exact NK),List.filter_nil,append_nil]; exact ho
noncomputable abbrev Be:=Option W
noncomputable def bL:Be->List V
 | none=>[.int (-1)]
 | some w=>w.l
def bV (b:Be):V:=.tuple (bL b)
noncomputable abbrev Pa:=Be×Int
def pV (p:Pa):V:=.tuple [bV p.1,.int p.2]
noncomputable abbrev Sh:=List Pa
def shV (s:Sh):V:=.tuple (s.map pV)
def kpV:Option Sh->V
 | none=>.none
 | some s=>shV s
def meV (m:Option Sh×Sh):V:=.tuple [kpV m.1,shV m.2]
def yC (h:bV a=bV b):a=b:=by
 have h:bL a=bL b:=PyData.tuple.inj h;cases a with
 | none=>cases b with
  | none=>rfl
  | some w=>cases w <;> (injection h with h _; injection h)
 | some u=>cases b with
  | none=>cases u <;> (injection h with h _; injection h)
  | some w=>exact NO some (xW (NO PyData.tuple h))
def p_inj (h:pV p=pV q):p=q:=by
 have h:=PyData.tuple.inj h;injection h with h0 h; injection h with h1 h
 exact Prod.ext (yC h0) (PyData.int.inj h1)
theorem l9 {α β:Type} {f:α->β} (hf:∀ a b,f a=f b->a=b):∀ {l m:List α},l.map f=m.map f->l=m
 | [],[],_=>rfl
 | [],_ :: _,h=>nomatch h
 | _ :: _,[],h=>nomatch h
 | x :: l,y :: m,h=>by
  obtain ⟨h0,h⟩:=zA5 h;rw [hf x y h0,l9 hf h]
def sh_inj (h:shV s=shV t):s=t:=l9 (fun U U=>p_inj) (PyData.tuple.inj h)
def CK (h:kpV s=kpV t):s=t:=by
 cases s with
 | none=>cases t with
  | none=>rfl
  | some t=>injection h
 | some s=>cases t with
  | none=>injection h
  | some t=>exact NO some (sh_inj h)
def xm (h:meV a=meV b):a=b:=by
 have h:=PyData.tuple.inj h;injection h with h0 h; injection h with h1 h
 exact Prod.ext (CK h0) (sh_inj h1)
structure MOk (s0 s1 s2:List Nat) (R:Int) (ws:List W):Prop where
 sk:SgOk s0 s1 s2
 r:R<=4
 len:ws.length<=100
 ok:∀ w∈ws,W.ok s0 s1 s2 R w
 ops:∃ os:List W,(os.length:Int) * R<=4/\∀ w∈ws,opB w=true->w∈os
def Bg (ws:List W) (f:Bool):Be->Prop
 | none=>f=false
 | some w=>f=true/\w∈ws/\opB w=true
structure KOk (R:Int) (ws:List W) (f:Bool) (ks:List Pa):Prop where
 nd:ks.Nodup
 ok:∀ k∈ks,Bg ws f k.1/\In R k.2
section
variable {s0 s1 s2:List Nat} {R:Int} {ws:List W} {f:Bool} (m:MOk s0 s1 s2 R ws)
include m
theorem BO (h:Bg ws f b):∀ x∈bL b,aA x=true:=fun x q=>by
 cases b with
 | none=>obtain rfl:=zA6 q; rfl
 | some w=>exact dT m.sk (m.ok w h.2.1) x q
theorem A2 (h:aA x=true):∀ n,lvV n x=true
 | 0=>h
 | n+1=>by
  cases x <;> first | exact h | exact nB h
theorem BP (h:Bg ws f b) (n:Nat):lvV (n+1) (bV b)=true:=Q6.mpr fun x q=>A2 m (BO m h x q) n
theorem EW (h:Bg ws f p.1) (n:Nat):lvV (n+2) (pV p)=true:=zA3 ⟨BP m h n,zA3 ⟨A2 m (x:=.int p.2) rfl (n+1),rfl⟩⟩
theorem kj (h:Bg ws f p.1):aZ (pV p)=true:=zA3 ⟨BP m h 2,rfl⟩
theorem AR (h:∀ p∈s,Bg ws f p.1):lvV 3 (shV s)=true:=Q6.mpr fun x q=>by
 obtain ⟨p,mp,rfl⟩:=zA7 q;exact EW m (h p mp) 0
theorem Ca (h:∀ p∈s,Bg ws f p.1):aZ (shV s)=true:=Q6.mpr fun x q=>by
 obtain ⟨p,mp,rfl⟩:=zA7 q;exact EW m (h p mp) 1
theorem CE (hk:∀ s,k=some s->∃ f,∀ p∈s,Bg ws f p.1) (h:∀ p∈s,Bg ws f p.1):aZ (meV (k,s))=true:=by
 refine zA3 ⟨?_,zA3 ⟨AR m h,rfl⟩⟩;cases k with
 | none=>rfl
 | some s=>exact (hk s rfl).elim fun f h=>AR m h
theorem Cm (h:Bg ws f p.1):hO (if f=true then 5 else 1) (pV p)=true:=by
 have sc:=Q6.mpr (BO m h);obtain ⟨b,i⟩:=p;cases b with
 | none=>obtain rfl:f=false:=h; rfl
 | some w=>
  obtain ⟨rfl,_,ho⟩:=h;cases w with
  | op a c b t=>exact zA3 ⟨sc,rfl⟩
  | _=>exact nB ho
omit m in
theorem Fv (h:Bg ws f p.1) (h':Bg ws f q.1):ltK (bQ (pV p)) (bQ (pV q))=true:=by
 obtain ⟨b,i⟩:=p;obtain ⟨d,j⟩:=q;cases b with
 | none=>cases d with
  | none=>exact aI rfl fun U=>aI rfl fun U=>rfl
  | some w=>exact nB (show false=true from (show f=false from h).symm.trans h'.1)
 | some w=>cases d with
  | none=>exact nB (show false=true from (show f=false from h').symm.trans h.1)
  | some u=>cases w with
   | op a c b t=>cases u with
    | op a' c' b' t'=>exact aI rfl fun U=>aI rfl fun U=>aI rfl fun U=>aI rfl fun U=>aI rfl fun U=>aI rfl fun U=>rfl
    | _=>exact nB h'.2.2
   | _=>exact nB h.2.2
theorem Cn (h:Bg ws f p.1) (h':Bg ws f q.1) (e:aW (bQ (pV q)) (bQ (pV p))=false) (e':aW (bQ (pV p)) (bQ (pV q))=false):p=q:=by
 have e:(bL p.1).map kOf++[Sum.inl p.2]=(bL q.1).map kOf++[Sum.inl q.2]:=jI e' e;obtain ⟨e1,e2⟩:=List.append_inj' e rfl;exact Prod.ext (yC (NO PyData.tuple (keys_inj (BO m h) (BO m h') e1))) (Sum.inl.inj (zA5 e2).1)
end
structure Srt (R:Int) (ws:List W) (f:Bool) (A:Pa->Prop) (s:Sh):Prop where
 k:KOk R ws f s
 mem:∀ p,p∈s ↔ A p
 up:ir (s.map pV)
def u6 (m:MOk s0 s1 s2 R ws) (h:Srt R ws f A s) (h':Srt R ws f' A t):s=t:=by
 have nd:∀ {l:List Pa},l.Nodup->l.Nodup:=id;have ff:∀ p∈t,Bg ws f p.1:=fun p q=>(h.k.ok p ((h.mem p).mpr ((h'.mem p).mp q))).1;refine Perm.eq_of_pairwise (le:=fun x y=>aW (bQ (pV y)) (bQ (pV x))=false) (fun x y mx my e e'=>Cn m (h.k.ok x mx).1 (ff y my) e e') (pairwise_map.mp h.up) (pairwise_map.mp h'.up) ((List.perm_ext_iff_of_nodup h.k.nd h'.k.nd).mpr fun y=>(h.mem y).trans (h'.mem y).symm)
open Classical in
def dK (ks:List Pa):List (V×V):=ks.map fun k=>(pV k,.bool true)
noncomputable def rmR (R:Int):List Int:=(List.range R.toNat).map fun n:Nat=>(n:Int)
def re (q:In R i):i∈rmR R:=by
 obtain ⟨n,rfl⟩:=Int.eq_ofNat_of_zero_le q.1;exact mem_map.mpr ⟨n,mem_range.mpr (by have:=q.2; lia),rfl⟩
section
variable {s0 s1 s2:List Nat} {R:Int} {ws:List W} {f:Bool} (m:MOk s0 s1 s2 R ws)
include m
theorem box (f:Bool):∃ B:List Pa,B.length<=4/\∀ k:Pa,Bg ws f k.1->In R k.2->k∈B:=by
 have len:∀ bs:List Be,(bs.flatMap fun b=>(rmR R).map fun i=>(b,i)).length=bs.length * R.toNat:=fun bs=>by
  rw [List.length_flatMap,show (fun b:Be=>((rmR R).map fun i=>(b,i)).length)=fun U=>R.toNat from funext fun b=>by unfold rmR; rw [zA4,zA4,length_range],List.map_const',List.sum_replicate_nat]
 cases f with
 | false=>
  refine ⟨([none]:List Be).flatMap fun b=>(rmR R).map fun i=>(b,i),by rw [len]; have:=m.r; exact (one_mul _).symm▸(by lia),fun k h h'=>?_⟩;obtain ⟨b,i⟩:=k;cases b with
  | none=>exact mem_flatMap.mpr ⟨none,.head _,mem_map.mpr ⟨i,re h',rfl⟩⟩
  | some w=>exact nB h.1
 | true=>
  obtain ⟨os,ho,hm⟩:=m.ops;refine ⟨(os.map some).flatMap fun b=>(rmR R).map fun i=>(b,i),?_,fun k h h'=>?_⟩
  ·rw [len,zA4];refine ofNat_le.mp ?_;rw [natCast_mul];by_cases q:0<=R
   ·rw [toNat_of_nonneg q]; exact ho
   ·rw [show R.toNat=0 by lia]; exact le_trans (Int.le_of_eq (Int.mul_zero _)) (by decide)
  ·obtain ⟨b,i⟩:=k;cases b with
   | none=>exact nB (show false=true from (show true=false from h).symm)
   | some w=>exact mem_flatMap.mpr ⟨some w,mem_map.mpr ⟨w,hm w h.2.1 h.2.2,rfl⟩,mem_map.mpr ⟨i,re h',rfl⟩⟩
theorem yf (o:KOk R ws f ks):ks.length<=4:=(box m f).elim fun B h=>zB1 (cK o.nd fun k mk=>h.2 k (o.ok k mk).1 (o.ok k mk).2) h.1
theorem nh (o:KOk R ws f ks) (hb:Bg ws f k.1) (hr:In R k.2):∃ F5,cX (dK ks) (pV k) (.bool true)=dK F5/\KOk R ws f F5/\∀ j,j∈F5 ↔ j∈ks\/j=k:=by
 have ek:∀ j∈ks,(PyData.eqv (pV j) (pV k)=true ↔ j=k):=fun j mj=>(cH _ _ (kj m (o.ok j mj).1) (kj m hb)).trans ⟨p_inj,fun e=>e▸rfl⟩;unfold cX;by_cases q:k∈ks
 ·refine ⟨ks,?_,o,fun j=>⟨.inl,fun h=>h.elim id fun e=>e▸q⟩⟩;rw [NP]
  ·unfold dK;rw [map_map];refine map_congr_left fun j mj=>?_;refine (?_:(if PyData.eqv (pV j) (pV k)=true then (pV j,PyData.bool true) else (pV j,PyData.bool true))=_);exact ite_self _
  ·exact any_eq_true.mpr ⟨_,mem_map.mpr ⟨k,q,rfl⟩,(ek k q).mpr rfl⟩
 ·refine ⟨ks++[k],?_,⟨?_,fun j mj=>?_⟩,fun j=>by rw [mem_append,mem_singleton]⟩
  ·rw [NQ]
   ·unfold dK; rw [map_append]; rfl
   ·intro h;obtain ⟨p,mp,hp⟩:=any_eq_true.mp h;obtain ⟨j,mj,rfl⟩:=zA7 mp;exact q ((ek j mj).mp hp▸mj)
  ·exact nodup_append.mpr ⟨o.nd,pairwise_singleton _ k,fun a ha b hb e=>q (by obtain rfl:=zA6 hb; exact e▸ha)⟩
  ·rcases mem_append.mp mj with mj | mj
   ·exact o.ok j mj
   ·obtain rfl:=zA6 mj; exact ⟨hb,hr⟩
theorem uJ (o:KOk R ws f ks):(dK ks).length < af:=by
 unfold dK;rw [zA4]; exact Q0 (yf m o) (by decide)
theorem j4 (o:KOk R ws f ks):a9 (shV ks)=some (ks.map pV):=NP (bT (by rw [zA4]; exact zB1 (yf m o) (by decide)))
theorem EK (o:KOk R ws f ks):dkV (dK ks)=true:=Q6.mpr fun p mp=>by
 obtain ⟨j,mj,rfl⟩:=zA7 mp;exact kj m (o.ok j mj).1
end
def unp (v:V):Pa:=epsilon fun p=>pV p=v
def AG (p:Pa):unp (pV p)=p:=p_inj (Classical.epsilon_spec (p:=fun q=>pV q=pV p) ⟨p,rfl⟩)
def S4 (cf:CallF):Prop:=∀ s0 s1 s2 R ws f ks K,MOk s0 s1 s2 R ws->KOk R ws f ks->(∀ s,Srt R ws f (·∈ks) s->K (shV s))->cf.p 4 [.dict (dK ks)] K
def p4 (cf:CallF):S4 (step cf):=fun s0 s1 s2 R ws f ks K m o h=>by
 refine run (fn:=f4) rfl rfl rfl ?_;refine (?_:okK (uB (.dict (dK ks))) fun l=>l.length < 64/\(∃ n,l.all (hO n)=true)/\(∀ x∈l,∀ y∈l,ltK (bQ x) (bQ y)=true)/\∀ r:List V,r.Perm l->ir r->okK (opN .tupleOf [.list r]) fun v=>K v);have e:uB (.dict (dK ks))=some (ks.map pV):=(NP (EK m o)).trans (NO some (by unfold dK; rw [map_map]; rfl));have len:(ks.map pV).length<=4:=by rw [zA4]; exact yf m o
 refine ag e ⟨Q0 len (by decide),⟨if f=true then 5 else 1,Q6.mpr fun x mx=>?_⟩,fun x mx y my=>?_,fun r hp hr=>?_⟩
 ·obtain ⟨p,mp,rfl⟩:=zA7 mx;exact Cm m (o.ok p mp).1
 ·obtain ⟨p,mp,rfl⟩:=zA7 mx;obtain ⟨q,mq,rfl⟩:=zA7 my;exact Fv (o.ok p mp).1 (o.ok q mq).1
 ·have e1:(ks.map pV).map unp=ks:=by rw [map_map]; exact (map_congr_left fun p U=>AG p).trans (map_id ks)
  have sp:(r.map unp).Perm ks:=e1▸hp.map unp;have er:(r.map unp).map pV=r:=by
   rw [map_map];refine (map_congr_left fun x mx=>?_).trans (map_id r);obtain ⟨p,_,rfl⟩:=zA7 (hp.mem_iff.mp mx);exact NO pV (AG p)
  have lr:r.length<=af:=bT (by rw [hp.length_eq]; exact zB1 len (by decide));have q:opN .tupleOf [.list r]=some (.tuple r):=by
   refine (?_:cq r (PyData.tuple r)=_);exact NP lr
  refine ag q ?_;have:=h (r.map unp) ⟨⟨sp.nodup_iff.mpr o.nd,fun k mk=>o.ok k (sp.mem_iff.mp mk)⟩,fun p=>sp.mem_iff,by rw [er]; exact hr⟩;unfold shV at this;rwa [er] at this
def ex_cons (A:α->β->Prop):(∃ x,x∈y :: ys/\A x p) ↔ A y p\/∃ x,x∈ys/\A x p:=⟨fun h=>h.elim fun x q=>(mem_cons.mp q.1).elim (fun e=>.inl (e▸q.2)) fun m=>.inr ⟨x,m,q.2⟩,fun h=>h.elim (fun q=>⟨y,.head _,q⟩) fun h=>h.elim fun x q=>⟨x,.tail _ q.1,q.2⟩⟩
inductive AddI {α β:Type} (xs:List α) (g:α->V) (J:Gs->List β->Prop) (A:α->β->Prop) (fs:List β) (l:List V) (G:Gs):Prop
 | mk (ys:List α) (GI:List β) (e:l=ys.map g) (my:∀ y∈ys,y∈xs) (j:J G GI) (h:∀ p,(p∈GI\/∃ x,x∈ys/\A x p) ↔ (p∈fs\/∃ x,x∈xs/\A x p)):AddI xs g J A fs l G
def fP {α β:Type} {K:GT} {b:Gs->V->Option Gs} {body r:List S} {xs:List α} {g:α->V} {J:Gs->List β->Prop} {A:α->β->Prop} {fs:List β}
  (Jt:∀ ds X Y G K,(gC ds G fun x=>okK (a9 x) fun xs=>jc b X xs G K)->dC cf op ds X Y G K) (hs:Val cf G s v) (hq:a9 v=some (xs.map g)) (h0:J G fs)
  (turn:∀ x∈xs,∀ G fs Kt,J G fs->(∀ G' GI,J G' GI->(∀ p,p∈GI ↔ p∈fs\/A x p)->Kt none G')->okK (b G (g x)) fun G'=>exs cf body G' Kt)
  (n:∀ G GI,J G GI->(∀ p,p∈GI ↔ p∈fs\/∃ x∈xs,A x p)->exs cf r G K):exs cf (.mk op [s] body [] :: r) G K:=by
 refine qT (P:=AddI xs g J A fs) Jt hs hq ⟨xs,fs,rfl,fun U m=>m,h0,fun U=>Iff.rfl⟩ (fun G hP=>?_) fun x l G Kt hP nx rt=>?_
 ·obtain ⟨ys,GI,e,_,j,h⟩:=hP;obtain rfl:=map_eq_nil_iff.mp e.symm;exact n G GI j fun p=>(or_iff_left fun q=>q.elim fun U q=>not_mem_nil q.1).symm.trans (h p)
 ·obtain ⟨ys,GI,e,my,j,h⟩:=hP;cases ys with
  | nil=>(injection e; done)
  | cons y ys=>
   obtain ⟨rfl,rfl⟩:=zA5 e;exact turn y (my y (.head _)) G GI Kt j fun G' MT j' h'=>nx G' ⟨ys,MT,rfl,fun z q=>my z (.tail _ q),j',fun p=>((or_congr_left (h' p)).trans or_assoc).trans ((or_congr_right (ex_cons A).symm).trans (h p))⟩
def ik (h:((⟨[x].toArray⟩:Str)==⟨[y].toArray⟩)=true):x=y:=by
 have e:=NO (fun s:Str=>s.cps.toList) (Id h);exact (zA5 e).1
def mZ (h:low x=true):strOk ⟨[x].toArray⟩=true:=cZ (l:=[x]) fun y q=>by obtain rfl:=zA6 q; exact h
def yz (hx:low x=true) (hy:low y=true):aO .Eq (text [x]) (text [y])=some ((⟨[x].toArray⟩:Str)==⟨[y].toArray⟩):=bk (mZ hx) (mZ hy)
section
variable {s0 s1 s2:List Nat} {R:Int} {ws:List W}
def m7 (m:MOk s0 s1 s2 R ws):a9 (bi ws)=some (ws.map W.v):=aT (by rw [zA4]; exact zB1 m.len (by decide))
def cQ {β:Type} {fs:List β} {A:β->Prop} (h:∀ p,¬ A p):∀ p,p∈fs ↔ p∈fs\/A p:=fun p=>⟨.inl,fun q=>q.elim id fun q=>absurd q (h p)⟩
def b3 (h:(true&&(a&&b))=true):a=true/\b=true:=zA2 h
def OnA (ws:List W) (c:Nat) (ks:Sh) (p:Pa):Prop:=∃ k∈ks,p.1=k.1/\W.on k.2 c p.2∈ws
def OpA (ws:List W) (c:Nat) (ks:Sh) (p:Pa):Prop:=∃ k∈ks,∃ t,W.op k.2 c p.2 t∈ws/\p.1=some (W.op k.2 c p.2 t)
def S6 (cf:CallF):Prop:=∀ s0 s1 s2 R ws f ks c K,MOk s0 s1 s2 R ws->KOk R ws f ks->low c=true->(∀ F5,KOk R ws f F5->(∀ p,p∈F5 ↔ OnA ws c ks p)->K (.dict (dK F5)))->cf.p 6 [bi ws,shV ks,text [c]] K
def uH (ws:List W) (ks:List Pa) (c:Nat) (fs:List Pa) (z4:Slot) (z5:Slot) (z6:Slot):Gs:=[.v (bi ws),.v (shV ks),.v (text [c]),.ownD (dK fs),z4,z5,z6]
inductive Ip6_1 (R:Int) (f:Bool) (ws:List W) (ks:List Pa) (c:Nat) (G:Gs) (fs:List Pa):Prop
 | mk (Jd:KOk R ws f fs) (x:Slot) (y:Slot) (z:Slot) (J':G=(uH ws ks c fs x y z)):Ip6_1 R f ws ks c G fs
inductive Ip6_2 (R:Int) (f:Bool) (ws:List W) (ks:List Pa) (c:Nat) (k:Pa) (G:Gs) (fs:List Pa):Prop
 | mk (Jd:KOk R ws f fs) (z:Slot) (e2_:G=(uH ws ks c fs (.v (bV k.1)) (.v (.int k.2)) z)):Ip6_2 R f ws ks c k G fs
def p6 (cf:CallF):S6 (step cf):=fun s0 s1 s2 R ws f ks c K m o lc h=>by
 refine run (fn:=f6) rfl rfl rfl (ib ?_);refine fP (op:=.forM [4,5]) (fs:=[]) (A:=fun k p=>p.1=k.1/\W.on k.2 c p.2∈ws) (J:=Ip6_1 R f ws ks c) (fun U U U U U h=>h) ix (j4 m o) ⟨⟨.nil,fun U q=>nM q⟩,_,_,_,rfl⟩ (fun k mk G fs Kt j nx=>?_) fun G fs j hf=>?_
 ·obtain ⟨jo,x,y,z,rfl⟩:=j;have hb:=(o.ok k mk).1;refine (?_:exs cf Fg (uH ws ks c fs (.v (bV k.1)) (.v (.int k.2)) z) Kt);refine fP (op:=.forS 6) (fs:=fs) (A:=fun w p=>w=W.on k.2 c p.2/\p.1=k.1) (J:=Ip6_2 R f ws ks c k) (fun U U U U U h=>h) ix (m7 m) ⟨jo,_,rfl⟩ (fun w mw G fs Kt j nx=>?_) fun G GI j hf=>av (nx _ GI ?_ fun p=>?_)
  ·obtain ⟨jo,z,rfl⟩:=j;refine (?_:exs cf Fh (uH ws ks c fs (.v (bV k.1)) (.v (.int k.2)) (.v w.v)) Kt);have ok:=m.ok w mw;cases w with
   | on a d b=>
    refine bS (aE (.and (ab (x:=.str kOn) ix ix ((bk ok_on ok_on).trans (NO some (by rfl)))) fun U=>.and (ab (x:=.int a) ix ix tr) fun U=>.one (ab (x:=text [d]) ix ix (yz (m.sk.lowC ok.2.1) lc)))) (fun q=>?_) fun q=>av (nx _ fs ⟨jo,_,rfl⟩ (cQ fun p Ih=>Ih.elim fun e U=>?_))
    ·obtain ⟨q1,q2⟩:=b3 q;obtain rfl:=Id q1;obtain rfl:=ik q2;refine (nh m jo (k:=(k.1,b)) hb ok.2.2).elim fun F5 JM=>JM.elim fun e JJ=>JJ.elim fun o' hm=>?_;refine eK (l:=dK fs) rfl (v:=.bool true) ix (x:=pV (k.1,b)) ix (kj m (p:=(k.1,b)) hb) (uJ m jo) (av (nx _ F5 ⟨o',_,by rw [e]; rfl⟩ fun p=>?_));rw [hm];refine or_congr_right ⟨fun q=>?_,fun Ib=>Ib.elim fun q q'=>?_⟩
     ·subst q; exact ⟨rfl,rfl⟩
     ·injection q with _ _ q
      exact Prod.ext q' q.symm
    ·injection e with e1 e2
     subst e1 e2;rw [NJ,NJ,NJ] at q;(injection q; done)
   | op a d b t=>exact aM (aE (.stop (b:=true) (ab (x:=.str a6) ix ix ((bk ok_open ok_on).trans (NO some (by rfl)))))) (av (nx _ fs ⟨jo,_,rfl⟩ (cQ fun p JK=>JK.elim fun e U=>nomatch e)))
   | cl a b d t=>exact aM (aE (.stop (b:=true) (ab (x:=.str aC) ix ix ((bk ok_close ok_on).trans (NO some (by rfl)))))) (av (nx _ fs ⟨jo,_,rfl⟩ (cQ fun p IM=>IM.elim fun e U=>nomatch e)))
  ·obtain ⟨jo,z,rfl⟩:=j;exact ⟨jo,_,_,_,rfl⟩
  ·rw [hf];exact or_congr_right ⟨(by rintro ⟨w,mw,e,q⟩; exact ⟨q,e▸mw⟩),fun JF=>JF.elim fun q mw=>⟨_,mw,rfl,q⟩⟩
 ·obtain ⟨jo,x,y,z,rfl⟩:=j;exact cu (l:=dK fs) rfl (aB ix (h fs jo fun p=>(hf p).trans ⟨fun q=>q.elim (fun q=>nM q) id,.inr⟩))
def S7 (cf:CallF):Prop:=∀ s0 s1 s2 R ws f ks c K,MOk s0 s1 s2 R ws->KOk R ws f ks->low c=true->(∀ F5,KOk R ws true F5->(∀ p,p∈F5 ↔ OpA ws c ks p)->K (.dict (dK F5)))->cf.p 7 [bi ws,shV ks,text [c]] K
def uG (ws:List W) (ks:List Pa) (c:Nat) (fs:List Pa) (z4:Slot) (z5:Slot) (z6:Slot):Gs:=[.v (bi ws),.v (shV ks),.v (text [c]),.ownD (dK fs),z4,z5,z6]
inductive Ip7_1 (R:Int) (ws:List W) (ks:List Pa) (c:Nat) (G:Gs) (fs:List Pa):Prop
 | mk (Jd:KOk R ws true fs) (x:Slot) (y:Slot) (z:Slot) (J':G=(uG ws ks c fs x y z)):Ip7_1 R ws ks c G fs
inductive Ip7_2 (R:Int) (ws:List W) (ks:List Pa) (c:Nat) (k:Pa) (G:Gs) (fs:List Pa):Prop
 | mk (Jd:KOk R ws true fs) (z:Slot) (e2_:G=(uG ws ks c fs (.v (bV k.1)) (.v (.int k.2)) z)):Ip7_2 R ws ks c k G fs
def p7 (cf:CallF):S7 (step cf):=fun s0 s1 s2 R ws f ks c K m o lc h=>by
 refine run (fn:=f7) rfl rfl rfl (ib ?_);refine fP (op:=.forM [4,5]) (fs:=[]) (A:=fun k p=>∃ t,W.op k.2 c p.2 t∈ws/\p.1=some (W.op k.2 c p.2 t)) (J:=Ip7_1 R ws ks c) (fun U U U U U h=>h) ix (j4 m o) ⟨⟨.nil,fun U q=>nM q⟩,_,_,_,rfl⟩ (fun k mk G fs Kt j nx=>?_) fun G fs j hf=>?_
 ·obtain ⟨jo,x,y,z,rfl⟩:=j;refine (?_:exs cf Fe (uG ws ks c fs (.v (bV k.1)) (.v (.int k.2)) z) Kt);refine fP (op:=.forS 6) (fs:=fs) (A:=fun w p=>∃ t,w=W.op k.2 c p.2 t/\p.1=some w) (J:=Ip7_2 R ws ks c k) (fun U U U U U h=>h) ix (m7 m) ⟨jo,_,rfl⟩ (fun w mw G fs Kt j nx=>?_) fun G GI j hf=>av (nx _ GI ?_ fun p=>?_)
  ·obtain ⟨jo,z,rfl⟩:=j;refine (?_:exs cf Ff (uG ws ks c fs (.v (bV k.1)) (.v (.int k.2)) (.v w.v)) Kt);have ok:=m.ok w mw;cases w with
   | op a d b t=>
    refine bS (aE (.and (ab (x:=.str a6) ix ix ((bk ok_open ok_open).trans (NO some (by rfl)))) fun U=>.and (ab (x:=.int a) ix ix tr) fun U=>.one (ab (x:=text [d]) ix ix (yz (m.sk.lowA ok.2.1) lc)))) (fun q=>?_) fun q=>av (nx _ fs ⟨jo,_,rfl⟩ (cQ fun p JE=>JE.elim fun t' Hs=>Hs.elim fun e U=>?_))
    ·obtain ⟨q1,q2⟩:=b3 q;obtain rfl:=Id q1;obtain rfl:=ik q2;have hb:Bg ws true (some (W.op k.2 d b t)):=⟨rfl,mw,rfl⟩;refine (nh m jo (k:=(some (W.op k.2 d b t),b)) hb ok.2.2.1).elim fun F5 Nf=>Nf.elim fun e Nd=>Nd.elim fun o' hm=>?_;refine eK (l:=dK fs) rfl (v:=.bool true) ix (x:=pV (some (W.op k.2 d b t),b)) ix (kj m (p:=(some (W.op k.2 d b t),b)) hb) (uJ m jo) (av (nx _ F5 ⟨o',_,by rw [e]; rfl⟩ fun p=>?_));rw [hm];refine or_congr_right ⟨fun q=>?_,fun Ig=>Ig.elim fun t' JQ=>JQ.elim fun q q'=>?_⟩
     ·subst q; exact ⟨t,rfl,rfl⟩
     ·injection q with _ _ q
      exact Prod.ext q' q.symm
    ·injection e with e1 e2
     subst e1 e2;rw [NJ,NJ,NJ] at q;(injection q; done)
   | on a d b=>exact aM (aE (.stop (b:=true) (ab (x:=.str kOn) ix ix ((bk ok_on ok_open).trans (NO some (by rfl)))))) (av (nx _ fs ⟨jo,_,rfl⟩ (cQ fun p Nw=>Nw.elim fun U Nv=>Nv.elim fun e U=>nomatch e)))
   | cl a b d t=>exact aM (aE (.stop (b:=true) (ab (x:=.str aC) ix ix ((bk ok_close ok_open).trans (NO some (by rfl)))))) (av (nx _ fs ⟨jo,_,rfl⟩ (cQ fun p Nu=>Nu.elim fun U Nt=>Nt.elim fun e U=>nomatch e)))
  ·obtain ⟨jo,z,rfl⟩:=j;exact ⟨jo,_,_,_,rfl⟩
  ·rw [hf];exact or_congr_right ⟨(by rintro ⟨w,mw,t,e,q⟩; exact ⟨t,e▸mw,e▸q⟩),fun JP=>JP.elim fun t JO=>JO.elim fun mw q=>⟨_,mw,t,rfl,q⟩⟩
 ·obtain ⟨jo,x,y,z,rfl⟩:=j;exact cu (l:=dK fs) rfl (aB ix (h fs jo fun p=>(hf p).trans ⟨fun q=>q.elim (fun q=>nM q) id,.inr⟩))
end
inductive ClE (ws:List W) (c:Nat) (ko:List Pa) (k p:Pa):Prop
 | mk (a:Int) (d:Nat) (e t:Int) (ek:k.1=some (W.op a d e t)) (w:W.cl k.2 t c p.2∈ws) (m:(p.1,a)∈ko):ClE ws c ko k p
def ClA (ws:List W) (c:Nat) (ko ki:Sh) (p:Pa):Prop:=∃ k∈ki,ClE ws c ko k p
def b4 (hu:u=true) (h:(u&&(a&&(b&&c)))=true):a=true/\b=true/\c=true:=by
 rw [hu] at h;obtain ⟨h1,h⟩:=zA2 h;exact ⟨zA2 h |>.1,zA2 (zA2 h).2⟩
def DS (h:Bg ws true b):∃ a d e t,b=some (W.op a d e t):=by
 cases b with
 | none=>exact nB h.symm
 | some w=>cases w with
  | op a d e t=>exact ⟨a,d,e,t,rfl⟩
  | _=>exact nB h.2.2
def S8 (cf:CallF):Prop:=∀ s0 s1 s2 R ws f ko ki c K,MOk s0 s1 s2 R ws->KOk R ws f ko->KOk R ws true ki->low c=true->(∀ F5,KOk R ws f F5->(∀ p,p∈F5 ↔ ClA ws c ko ki p)->K (.dict (dK F5)))->cf.p 8 [bi ws,shV ko,shV ki,text [c]] K
def nK (ws:List W) (ko ki fs:List Pa) (y3:V) (z5:Slot) (z6:Slot) (z7:Slot) (z8:Slot) (z9:Slot):Gs:=[.v (bi ws),.v (shV ko),.v (shV ki),.v y3,.ownD (dK fs),z5,z6,z7,z8,z9]
inductive Ip8_1 (R:Int) (f:Bool) (ws:List W) (ko ki:List Pa) (c:Nat) (G:Gs) (fs:List Pa):Prop
 | mk (Jd:KOk R ws f fs) (x5:Slot) (x6:Slot) (x7:Slot) (x8:Slot) (x9:Slot) (Le:G=(nK ws ko ki fs (text [c]) x5 x6 x7 x8 x9)):Ip8_1 R f ws ko ki c G fs
inductive Ip8_2 (R:Int) (f:Bool) (ws:List W) (ko ki:List Pa) (c:Nat) (a:Int) (d:Nat) (e t:Int) (k:Pa) (G:Gs) (fs:List Pa):Prop
 | mk (Jd:KOk R ws f fs) (x7:Slot) (x8:Slot) (x9:Slot) (J':G=(nK ws ko ki fs (text [c]) (.v (W.op a d e t).v) (.v (.int k.2)) x7 x8 x9)):Ip8_2 R f ws ko ki c a d e t k G fs
inductive Ip8_3 (R:Int) (f:Bool) (ws:List W) (ko ki:List Pa) (d':Nat) (a:Int) (d:Nat) (e b:Int) (k:Pa) (t':Int) (G:Gs) (fs:List Pa):Prop
 | mk (Jd:KOk R ws f fs) (x8:Slot) (x9:Slot) (M1:G=(nK ws ko ki fs (text [d']) (.v (W.op a d e b).v) (.v (.int k.2)) (.v (W.cl k.2 b d' t').v) x8 x9)):Ip8_3 R f ws ko ki d' a d e b k t' G fs
def p8 (cf:CallF):S8 (step cf):=fun s0 s1 s2 R ws f ko ki c K m oo oi lc h=>by
 refine run (fn:=f8) rfl rfl rfl (ib ?_);refine fP (op:=.forM [5,6]) (fs:=[]) (A:=ClE ws c ko) (J:=Ip8_1 R f ws ko ki c) (fun U U U U U h=>h) ix (j4 m oi) ⟨⟨.nil,fun U q=>nM q⟩,_,_,_,_,_,rfl⟩ (fun k mk G fs Kt j nx=>?_) fun G fs j hf=>?_
 ·obtain ⟨jo,x5,x6,x7,x8,x9,rfl⟩:=j;obtain ⟨a,d,e,t,ek⟩:=DS (oi.ok k mk).1;refine (?_:exs cf Fb (nK ws ko ki fs (text [c]) (.v (bV k.1)) (.v (.int k.2)) x7 x8 x9) Kt);rw [ek];refine fP (op:=.forS 7) (fs:=fs) (A:=fun w p=>w=W.cl k.2 t c p.2/\(p.1,a)∈ko) (J:=Ip8_2 R f ws ko ki c a d e t k) (fun U U U U U h=>h) ix (m7 m) ⟨jo,_,_,_,rfl⟩ (fun w mw G fs Kt j nx=>?_) fun G GI j hf=>av (nx _ GI ?_ fun p=>?_)
  ·obtain ⟨jo,x7,x8,x9,rfl⟩:=j;refine (?_:exs cf Fc (nK ws ko ki fs (text [c]) (.v (W.op a d e t).v) (.v (.int k.2)) (.v w.v) x8 x9) Kt);have ok:=m.ok w mw;cases w with
   | cl a' b d' t'=>
    refine bS (aE (.and (ab (x:=.str aC) ix ix ((bk ok_close ok_close).trans (NO some (by rfl)))) fun U=>.and (ab (x:=.int a') ix ix tr) fun U=>.and (ab (x:=.int b) (y:=.int t) ix ix tr) fun U=>.one (ab (x:=text [d']) ix ix (yz (m.sk.lowB ok.2.2.1) lc)))) (fun q=>?_) fun q=>av (nx _ fs ⟨jo,_,_,_,rfl⟩ (cQ fun p z=>?_))
    ·obtain ⟨q1,q2,q3⟩:=b4 (NJ _) q;obtain rfl:=Id q1;obtain rfl:=Id q2;obtain rfl:=ik q3;refine fP (op:=.forM [8,9]) (fs:=fs) (A:=fun j p=>p=(j.1,t')/\j.2=a) (J:=Ip8_3 R f ws ko ki d' a d e b k t') (fun U U U U U h=>h) ix (j4 m oo) ⟨jo,_,_,rfl⟩ (fun j mj G fs Kt jj nx=>?_) fun G GI j hf=>av (nx _ GI ?_ fun p=>?_)
     ·obtain ⟨jo,x8,x9,rfl⟩:=jj;refine (?_:exs cf Fd (nK ws ko ki fs (text [d']) (.v (W.op a d e b).v) (.v (.int k.2)) (.v (W.cl k.2 b d' t').v) (.v (bV j.1)) (.v (.int j.2))) Kt);refine bS (ab (x:=.int j.2) (y:=.int a) ix ix tr) (fun q=>?_) fun q=>av (nx _ fs ⟨jo,_,_,rfl⟩ (cQ fun p z=>?_))
      ·obtain rfl:=Id q;have hb:=(oo.ok j mj).1;obtain ⟨F5,e,o',hm⟩:=nh m jo (k:=(j.1,t')) hb ok.2.2.2;refine eK (l:=dK fs) rfl (v:=.bool true) ix (x:=pV (j.1,t')) ix (kj m (p:=(j.1,t')) hb) (uJ m jo) (av (nx _ F5 ⟨o',_,_,by rw [e]; rfl⟩ fun p=>?_));rw [hm];exact or_congr_right ⟨fun q=>⟨q,rfl⟩,fun q=>q.1⟩
      ·rw [z.2,NJ] at q;(injection q; done)
     ·obtain ⟨jo,x8,x9,rfl⟩:=j;exact ⟨jo,_,_,_,rfl⟩
     ·rw [hf];refine or_congr_right ⟨fun ⟨j,mj,e1,e2⟩=>?_,fun z=>?_⟩
      ·subst e1 e2; exact ⟨rfl,mj⟩
      ·injection z.1 with _ _ _ q
       exact ⟨_,z.2,Prod.ext rfl q.symm,rfl⟩
    ·injection z.1 with e1 e2 e3
     subst e1 e2 e3;rw [NJ,NJ,NJ,NJ] at q;(injection q; done)
   | on a' d' b=>exact aM (aE (.stop (b:=true) (ab (x:=.str kOn) ix ix ((bk ok_on ok_close).trans (NO some (by rfl)))))) (av (nx _ fs ⟨jo,_,_,_,rfl⟩ (cQ fun p z=>nomatch z.1)))
   | op a' d' b t'=>exact aM (aE (.stop (b:=true) (ab (x:=.str a6) ix ix ((bk ok_open ok_close).trans (NO some (by rfl)))))) (av (nx _ fs ⟨jo,_,_,_,rfl⟩ (cQ fun p z=>nomatch z.1)))
  ·obtain ⟨jo,x7,x8,x9,rfl⟩:=j;exact ⟨jo,_,_,_,_,_,rfl⟩
  ·rw [hf];refine or_congr_right ⟨(by rintro ⟨w,mw,e',q⟩; exact ⟨a,d,e,t,ek,e'▸mw,q⟩),fun NB=>?_⟩;obtain ⟨a',d',e',t',q1,q2,q3⟩:=NB;obtain ⟨rfl,rfl,rfl,rfl⟩:a=a'/\d=d'/\e=e'/\t=t':=by injection ek.symm.trans q1 with q; injection q with q1 q2 q3 q4; exact ⟨q1,q2,q3,q4⟩
   exact ⟨_,q2,rfl,q3⟩
 ·obtain ⟨jo,x5,x6,x7,x8,x9,rfl⟩:=j;exact cu (l:=dK fs) rfl (aB ix (h fs jo fun p=>(hf p).trans ⟨fun q=>q.elim (fun q=>nM q) id,.inr⟩))
def DK (st:List Int) (p:Pa):Prop:=p.1=none/\p.2∈st
def S5 (cf:CallF):Prop:=∀ s0 s1 s2 R ws st en r (K:V->Prop),MOk s0 s1 s2 R ws->RoomsOk R st->(∀ s,Srt R ws false (DK st) s->K (shV s))->cf.p 5 [a7 (sg s0 s1 s2) R st en r] K
inductive Ip5 (R:Int) (ws:List W) (mv:V) (G:Gs) (fs:List Pa):Prop
 | mk (o:KOk R ws false fs) (x:Slot) (e:G=[.v mv,.ownD (dK fs),x]):Ip5 R ws mv G fs
def p5 (cf:CallF) (me:MethOk cf) (h4:S4 cf):S5 (step cf):=fun s0 s1 s2 R ws st en r K m so h=>by
 refine run (fn:=f5) rfl rfl rfl (ib ?_);have lz:st.length<=40:=so.len;refine fP (op:=.forS 2) (fs:=[]) (xs:=st) (g:=PyData.int) (A:=fun i p=>p=(none,i)) (J:=Ip5 R ws (a7 (sg s0 s1 s2) R st en r)) (fun U U U U U h=>h) (wN me ix lz) (aT (by rw [zA4]; exact zB1 lz (by decide))) ⟨⟨.nil,fun U q=>nM q⟩,_,rfl⟩ (fun i mi G fs Kt j nx=>?_) fun G fs j hf=>?_
 ·obtain ⟨jo,x,rfl⟩:=j;refine (?_:exs cf Fi [.v (a7 (sg s0 s1 s2) R st en r),.ownD (dK fs),.v (.int i)] Kt);obtain ⟨F5,e,o',hm⟩:=nh m jo (k:=(none,i)) rfl (so.rooms i mi);exact eK (l:=dK fs) rfl (v:=.bool true) ix (x:=pV (none,i)) ix (kj m (f:=false) (p:=(none,i)) rfl) (uJ m jo) (av (nx _ F5 ⟨o',_,by rw [e]; rfl⟩ hm))
 ·obtain ⟨jo,x,rfl⟩:=j;refine cu (l:=dK fs) rfl ?_;have q:=h4 s0 s1 s2 R ws false fs K m jo fun s so=>h s ⟨so.k,fun p=>(so.mem p).trans ((hf p).trans ⟨fun q=>q.elim (fun q=>nM q) (by rintro ⟨i,mi,e⟩; exact e▸⟨rfl,mi⟩),fun q=>.inr ⟨p.2,q.2,Prod.ext q.1 rfl⟩⟩),so.up⟩;exact q
noncomputable def lk {α β:Type} [DecidableEq α]:List (α×β)->α->Option β
 | [],_=>none
 | e :: l,k=>if e.1=k then some e.2 else lk l k
def lk_c {α β:Type} [DecidableEq α] (e:α×β) (l:List (α×β)) (k:α):lk (e :: l) k=if e.1=k then some e.2 else lk l k:=rfl
noncomputable def oH {α β:Type} [DecidableEq α] (l:List (α×β)) (k:α) (v:β):List (α×β):=if k∈l.map (·.1) then l.map fun e=>if e.1=k then (k,v) else e else l++[(k,v)]
def r6 {α β:Type} [DecidableEq α] {f:α->V} {g:β->V} {l:List (α×β)} {k:α} (v:β) (hf:∀ a b,f a=f b->a=b) (hl:∀ e∈l,aZ (f e.1)=true) (hk:aZ (f k)=true):cX (l.map fun e=>(f e.1,g e.2)) (f k) (g v)=(oH l k v).map fun e=>(f e.1,g e.2):=by
 have ek:∀ e∈l,(PyData.eqv (f e.1) (f k)=true ↔ e.1=k):=fun e m=>(cH _ _ (hl e m) hk).trans ⟨hf e.1 k,fun e=>e▸rfl⟩;unfold cX oH;have c:((l.map fun e=>(f e.1,g e.2)).any fun p=>PyData.eqv p.1 (f k))=true ↔ k∈l.map (·.1):=by
  rw [List.any_map,any_eq_true,mem_map];exact ⟨(by rintro ⟨e,m,q⟩; exact ⟨e,m,(ek e m).mp q⟩),(by rintro ⟨e,m,q⟩; exact ⟨e,m,(ek e m).mpr q⟩)⟩
 by_cases q:k∈l.map (·.1)
 ·rw [NP (c.mpr q),NP q,map_map,map_map];refine map_congr_left fun e m=>?_;refine (?_:(if PyData.eqv (f e.1) (f k)=true then (f e.1,g v) else (f e.1,g e.2))=(f (if e.1=k then (k,v) else e).1,g (if e.1=k then (k,v) else e).2));by_cases z:e.1=k
  ·rw [NP ((ek e m).mpr z),NP z,z]
  ·rw [NQ fun w=>z ((ek e m).mp w),NQ z]
 ·rw [NQ fun w=>q (c.mp w),NQ q,map_append]; rfl
theorem b0 {α β:Type} [DecidableEq α] {f:α->V} {g:β->V} {k:α} (hf:∀ a b,f a=f b->a=b) (hk:aZ (f k)=true):∀ {l:List (α×β)},(∀ e∈l,aZ (f e.1)=true)->bt (l.map fun e=>(f e.1,g e.2)) (f k)=(lk l k).map g
 | [],_=>rfl
 | e :: l,hl=>by
  have ek:PyData.eqv (f e.1) (f k)=true ↔ e.1=k:=(cH _ _ (hl e (.head _)) hk).trans ⟨hf e.1 k,fun e=>e▸rfl⟩;have ih:=b0 (g:=g) hf hk fun e m=>hl e (.tail _ m);unfold bt at ih ⊢;rw [map_cons,find?_cons,lk_c];by_cases z:e.1=k
  ·rw [show PyData.eqv ((fun e:α×β=>(f e.1,g e.2)) e).1 (f k)=true from ek.mpr z,NP z]; rfl
  ·rw [show PyData.eqv ((fun e:α×β=>(f e.1,g e.2)) e).1 (f k)=false from eq_false_iff.mpr fun w=>z (ek.mp w),NQ z];exact ih
section
variable {α β:Type} [DecidableEq α] {l:List (α×β)} {k k':α} {v b:β}
theorem dp:∀ {l:List (α×β)},lk l k=some b->(k,b)∈l
 | [],h=>nomatch h
 | e :: l,h=>by
  rw [lk_c] at h;by_cases z:e.1=k
  ·rw [NP z] at h;obtain rfl:=LE h;subst z;exact .head _
  ·rw [NQ z] at h;exact .tail _ (dp h)
theorem oZ:∀ {l:List (α×β)},(l.map (·.1)).Nodup->(k,b)∈l->lk l k=some b
 | [],_,m=>nM m
 | e :: l,nd,m=>by
  have nd:=nodup_cons.mp nd;rw [lk_c];rcases mem_cons.mp m with rfl | m
  ·rw [NP rfl]
  ·rw [NQ fun w=>nd.1 (mem_map.mpr ⟨_,m,w.symm⟩)];exact oZ nd.2 m
theorem look_none:∀ {l:List (α×β)},lk l k=none ↔ k∉l.map (·.1)
 | []=>⟨fun U m=>nM m,fun U=>rfl⟩
 | e :: l=>by
  rw [lk_c,map_cons,mem_cons];by_cases z:e.1=k
  ·rw [NP z];exact ⟨fun h=>(nomatch h),fun h=>absurd (.inl z.symm) h⟩
  ·rw [NQ z];exact look_none.trans ⟨fun h q=>q.elim (fun w=>z w.symm) h,fun h q=>h (.inr q)⟩
def o6 (h:k∈l.map (·.1)):∃ b,lk l k=some b:=by
 cases e:lk l k with
 | none=>exact absurd h (look_none.mp e)
 | some b=>exact ⟨b,rfl⟩
def oG:(oH l k v).map (·.1)=if k∈l.map (·.1) then l.map (·.1) else l.map (·.1)++[k]:=by
 unfold oH;by_cases h:k∈l.map (·.1)
 ·rw [NP h,NP h,map_map];refine map_congr_left fun e U=>?_;refine (?_:(if e.1=k then (k,v) else e).1=e.1);by_cases z:e.1=k
  ·rw [NP z,z]
  ·rw [NQ z]
 ·rw [NQ h,NQ h,map_append]; rfl
def lR:k'∈(oH l k v).map (·.1) ↔ k'=k\/k'∈l.map (·.1):=by
 rw [oG];by_cases h:k∈l.map (·.1)
 ·rw [NP h]; exact ⟨.inr,fun q=>q.elim (fun e=>e▸h) id⟩
 ·rw [NQ h,mem_append,mem_singleton]; exact or_comm
def tJ (nd:(l.map (·.1)).Nodup):((oH l k v).map (·.1)).Nodup:=by
 rw [oG];by_cases h:k∈l.map (·.1)
 ·rw [NP h]; exact nd
 ·rw [NQ h];exact nodup_append.mpr ⟨nd,nodup_cons.mpr ⟨fun m=>nM m,nodup_nil⟩,fun a ha b hb e=>h (by rw [zA6 hb] at e; exact e▸ha)⟩
def y4 (m:e∈oH l k v):e=(k,v)\/e∈l:=by
 unfold oH at m;by_cases h:k∈l.map (·.1)
 ·rw [NP h] at m;obtain ⟨x,mx,rfl⟩:=zA7 m;by_cases z:x.1=k
  ·rw [NP z]; exact .inl rfl
  ·rw [NQ z]; exact .inr mx
 ·rw [NQ h] at m;rcases mem_append.mp m with m | m
  ·exact .inr m
  ·exact .inl (zA6 m)
def y1 (h:k∉l.map (·.1)):oH l k v=l++[(k,v)]:=NQ h
end
noncomputable instance:DecidableEq W:=fun U U=>propDecidable _
noncomputable abbrev Me:=Option Sh×Sh
inductive Hd where
 | on (i c:Nat)
 | op (i c:Nat)
 | cl (i k c:Nat)
deriving DecidableEq
noncomputable def Hd.v:Hd->V
 | .on i c=>.tuple [.str kOn,.int i,text [c]]
 | .op i c=>.tuple [.str a6,.int i,text [c]]
 | .cl i k c=>.tuple [.str aC,.int i,.int k,text [c]]
noncomputable def Hd.ok:Hd->Prop
 | .on _ c=>low c=true
 | .op _ c=>low c=true
 | .cl _ _ c=>low c=true
structure Mk where
 num:List Sh
 met:List Me
 wt:List Me
 made:List (Hd×Nat)
noncomputable def aR (n:Nat):V:=.int n
def nuV (l:List Sh):List (V×V):=l.zipIdx.map fun e=>(shV e.1,aR e.2)
def mtV (l:List Me):List (V×V):=l.map fun e=>(meV e,.bool true)
def mdV (l:List (Hd×Nat)):List (V×V):=l.map fun e=>(e.1.v,aR e.2)
noncomputable def Mk.o (s:Mk) (mv:V) (ws:List W):Ob:=⟨1,[.val mv,.val (bi ws),.D (nuV s.num),.D (mtV s.met),.L (s.wt.map meV),.D (mdV s.made)]⟩
def unH (v:V):Hd:=match v with
 | .tuple l=>if ny l=2 then .on (eF l 1).toNat (nP l 2) else if ny l=4 then .op (eF l 1).toNat (nP l 2) else .cl (eF l 1).toNat (eF l 2).toNat (nP l 3)
 | _=>.on 0 0
def ET (h:Hd):unH h.v=h:=by cases h <;> rfl
def nE {a b:Hd} (h:a.v=b.v):a=b:=(ET a).symm.trans ((NO unH h).trans (ET b))
def bf {a:Hd} (h:a.ok):aZ a.v=true:=by
 have t:∀ {c:Nat},low c=true->aA (text [c])=true:=fun {c} h=>cZ (l:=[c]) fun x m=>by obtain rfl:=zA6 m; exact h
 cases a with
 | on i c=>exact zA3 ⟨ok_on,zA3 ⟨rfl,zA3 ⟨t h,rfl⟩⟩⟩
 | op i c=>exact zA3 ⟨ok_open,zA3 ⟨rfl,zA3 ⟨t h,rfl⟩⟩⟩
 | cl i k c=>exact zA3 ⟨ok_close,zA3 ⟨rfl,zA3 ⟨rfl,zA3 ⟨t h,rfl⟩⟩⟩⟩
structure Row (R:Int) (ws:List W) (f:Bool) (s:Sh):Prop where
 k:KOk R ws f s
 up:ir (s.map pV)
def oN (m:MOk s0 s1 s2 R ws) (h:Row R ws f s) (h':Row R ws f' t) (e:∀ p,p∈s ↔ p∈t):s=t:=u6 m ⟨h.k,fun p=>Iff.rfl,h.up⟩ ⟨h'.k,fun p=>(e p).symm,h'.up⟩
structure MeOk (R:Int) (ws:List W) (e:Me):Prop where
 row:Row R ws e.1.isSome e.2
 kept:∀ s,e.1=some s->∃ f,Row R ws f s
theorem MeOk.key (m:MOk s0 s1 s2 R ws) (h:MeOk R ws e):aZ (meV e)=true:=CE m (fun s q=>(h.kept s q).elim fun f r=>⟨f,fun p mp=>(r.k.ok p mp).1⟩) fun p mp=>(h.row.k.ok p mp).1
theorem Row.key (m:MOk s0 s1 s2 R ws) (h:Row R ws f s):aZ (shV s)=true:=Ca m fun p mp=>(h.k.ok p mp).1
structure Fits (R:Int) (ws:List W) (s:Mk):Prop where
 num:∀ x∈s.num,∃ f,Row R ws f x
 nl:s.num.length<=40
 met:∀ e∈s.met,MeOk R ws e
 ml:s.met.length<=3000
 wl:s.wt.length<=3000
 made:∀ e∈s.made,e.1.ok
 dl:s.made.length<=4000
section
variable {s0 s1 s2:List Nat} {R:Int} {ws:List W} (m:MOk s0 s1 s2 R ws)
include m
theorem lZ {l:List Sh} (h:∀ x∈l,∃ f,Row R ws f x):∀ e∈l.zipIdx,aZ (shV e.1)=true:=fun e me=>(h e.1 (List.fst_mem_of_mem_zipIdx me)).elim fun f r=>r.key m
theorem uI {l:List Sh} (h:∀ x∈l,∃ f,Row R ws f x):dkV (nuV l)=true:=Q6.mpr fun p mp=>by
 obtain ⟨e,me,rfl⟩:=zA7 mp;exact lZ m h e me
theorem sJ {l:List Sh} (h:∀ x∈l,∃ f,Row R ws f x) (hx:Row R ws f x):bt (nuV l) (shV x)=(lk l.zipIdx x).map aR:=b0 (f:=shV) (g:=aR) (fun U U=>sh_inj) (hx.key m) (lZ m h)
omit m in
theorem sC {l:List Sh}:(lk l.zipIdx x).isSome=decide (x∈l):=by
 cases e:lk l.zipIdx x with
 | none=>
  have:=look_none.mp e;rw [List.zipIdx_map_fst] at this;exact (NM this).symm
 | some i=>exact (NL (List.fst_mem_of_mem_zipIdx (dp e))).symm
theorem wF {l:List Sh} (h:∀ x∈l,∃ f,Row R ws f x) (hx:Row R ws f x):aO .NotIn (shV x) (.dict (nuV l))=some (!decide (x∈l)):=by
 refine (?_:(if (dkV (nuV l)&&aZ (shV x))=true then some (bt (nuV l) (shV x)).isSome else none).map _=_);rw [NP (zA3 ⟨uI m h,hx.key m⟩),sJ m h hx,isSome_map,sC]; rfl
theorem Ch {l:List Sh} (h:∀ x∈l,∃ f,Row R ws f x) (hx:Row R ws f x) (n:x∉l):cX (nuV l) (shV x) (aR l.length)=nuV (l++[x]):=by
 have e:=r6 (f:=shV) (g:=aR) (l:=l.zipIdx) (k:=x) l.length (fun U U=>sh_inj) (lZ m h) (hx.key m);refine e.trans ?_;rw [y1 (by rw [List.zipIdx_map_fst]; exact n),nuV,List.zipIdx_append,zero_add]; rfl
theorem wS (h:∀ x∈l,∃ f,Row R ws f x) (hx:Row R ws f x) (e:lk l.zipIdx x=some i):opN .sub [.dict (nuV l),shV x]=some (aR i):=by
 refine (?_:(if (dkV (nuV l)&&aZ (shV x))=true then bt (nuV l) (shV x) else none)=_);rw [NP (zA3 ⟨uI m h,hx.key m⟩),sJ m h hx,e]; rfl
theorem xr (h:∀ x∈l,∃ f,Row R ws f x) (hl:l.length<=40):opN .len [.dict (nuV l)]=some (aR l.length):=by
 have e:(nuV l).length=l.length:=by unfold nuV; rw [zA4,length_zipIdx]
 have q:a9 (.dict (nuV l))=some ((nuV l).map (·.1)):=(NP (uI m h)).trans (NP (bT (by rw [e]; exact zB1 hl (by decide))));refine (?_:(a9 (.dict (nuV l))).map _=_);rw [q];refine NO (fun n:Nat=>some (PyData.int n)) ?_;rw [zA4,e]
end
def AS (hf:fns[f]?=some fn) (hi:fn.kind=.met) (hl:args.length+1=fn.npar) (h:exs cf fn.body (.obj o :: (args.map .v++replicate (fn.nslots - fn.npar) .unset)) fun fl G=>okK (qp G 0) fun o'=>K (fl.getD .none) o'):(step cf).o f o args K:=by
 refine ag (o:=fns[f]?) hf ?_;rw [hi];exact ⟨hl,h⟩
def S9 (cf:CallF):Prop:=∀ sv R st en ws K,ws.length<=100->K ((⟨[],[],[],[]⟩:Mk).o (a7 sv R st en (ws.map W.v)) ws)->cf.m 9 [a7 sv R st en (ws.map W.v)] K
def p9 (cf:CallF) (me:MethOk cf):S9 (step cf):=fun sv R st en ws K hl h=>by
 refine (?_:_/\exs cf f9.body [.ownI ⟨1,[]⟩,.v (a7 sv R st en (ws.map W.v))] fun fl G=>fl=none/\okK (km G 0) fun o=>o.c=1/\K o);refine ⟨rfl,d7 (ob:=⟨1,[]⟩) (v:=a7 sv R st en (ws.map W.v)) ix rfl rfl (d7 (ob:=⟨1,[_]⟩) (v:=bi ws) (bN ix rfl .nil fun K h=>me.m13 _ _ _ _ _ K (by rw [zA4]; exact zB1 hl (by decide)) h) rfl rfl ?_)⟩;exact dy (ob:=⟨1,[_,_]⟩) rfl rfl (dy (ob:=⟨1,[_,_,_]⟩) rfl rfl (dy (ob:=⟨1,[_,_,_,_]⟩) rfl rfl (dy (ob:=⟨1,[_,_,_,_,_]⟩) rfl rfl (av ⟨rfl,rfl,h⟩))))
noncomputable def Mk.add (s:Mk) (x:Sh):Mk:=if x∈s.num then s else { s with num:=s.num++[x] }
def tx (s:Mk) (x:Sh):x∈(s.add x).num:=by
 unfold Mk.add;by_cases q:x∈s.num
 ·rw [NP q]; exact q
 ·rw [NQ q]; exact mem_append_right _ (.head _)
def jS (s:Mk) (x:Sh):(s.add x).met=s.met/\(s.add x).wt=s.wt/\(s.add x).made=s.made:=by
 unfold Mk.add;by_cases q:x∈s.num
 ·rw [NP q]; exact ⟨rfl,rfl,rfl⟩
 ·rw [NQ q]; exact ⟨rfl,rfl,rfl⟩
def At (s:Mk) (x:Sh) (i:Nat):Prop:=lk s.num.zipIdx x=some i
def ER (h:x∈s.num):∃ i,At s x i:=by
 have:=sC (l:=s.num) (x:=x);rw [NL h] at this;exact isSome_iff_exists.mp this
def S22 (cf:CallF):Prop:=∀ s0 s1 s2 R ws f (s:Mk) mv x K,MOk s0 s1 s2 R ws->Fits R ws s->Row R ws f x->(x∈s.num\/s.num.length < 40)->(∀ i,At (s.add x) x i->K (aR i) ((s.add x).o mv ws))->cf.o 22 (s.o mv ws) [shV x] K
def p22 (cf:CallF):S22 (step cf):=fun s0 s1 s2 R ws f s mv x K m ft hx room h=>by
 refine AS (fn:=f22) rfl rfl rfl ?_;have last:∀ t:Mk,(∀ y∈t.num,∃ f,Row R ws f y)->s.add x=t->exs cf [.mk .ret [.nd .peek [.nd .sub [.nd (.attr 1 2) [vv 0],vv 1]]] [] []] [.obj (t.o mv ws),.v (shV x)] fun fl G=>okK (qp G 0) fun o'=>K (fl.getD .none) o':=fun t ht e=>by
  subst e;obtain ⟨i,hi⟩:=ER (tx s x);exact aB (v:=aR i) (bn (aa (.two (x:=.dict (nuV (s.add x).num)) (aa (.one ix) rfl) ix) (wS m ht hx hi)) rfl) (h i hi)
 refine bS (t:=!decide (x∈s.num)) (bn (ab (x:=shV x) (y:=.dict (nuV s.num)) ix (aa (.one ix) rfl) (wF m ft.num hx)) rfl) (fun q=>?_) fun q=>?_
 ·have q:x∉s.num:=of_decide_eq_false (AW q);have lt:s.num.length < 40:=room.elim (fun z=>absurd z q) id;have ln:∀ {G:Gs},Val cf (fv (.obj (s.o mv ws) :: G)) (.nd .len [.nd (.attr 1 2) [vv 0]]) (aR s.num.length):=aa (.one (v:=.dict (nuV s.num)) (aa (.one ix) rfl)) (xr m ft.num ft.nl);refine aM (bn (ab ln ix (tr.trans (NO some (beq_eq_false_iff_ne.mpr fun e=>ne_of_lt lt (ofNat.inj e))))) rfl) ?_;refine wJ (l:=nuV s.num) (v:=aR s.num.length) (x:=shV x) rfl rfl (bn ln rfl) ix (hx.key m) (by unfold nuV; rw [zA4,length_zipIdx]; exact lt_trans lt (by decide)) ?_;rw [Ch m ft.num hx q];exact last { s with num:=s.num++[x] } (fun y my=>(mem_append.mp my).elim (ft.num y) fun my=>zA6 my▸⟨f,hx⟩) (NQ q)
 ·exact last s ft.num (NP (IO (fk q)))
noncomputable def Mk.come (s:Mk) (e:Me):Mk:=if e∈(s.add e.2).met then s.add e.2 else { s.add e.2 with met:=(s.add e.2).met++[e],wt:=(s.add e.2).wt++[e] }
theorem Fits.add (ft:Fits R ws s) (hx:Row R ws f x) (room:x∈s.num\/s.num.length < 40):Fits R ws (s.add x):=by
 unfold Mk.add;by_cases q:x∈s.num
 ·rw [NP q]; exact ft
 ·rw [NQ q];exact ⟨fun y my=>(mem_append.mp my).elim (ft.num y) fun my=>zA6 my▸⟨f,hx⟩,by rw [zB5]; exact room.elim (fun z=>absurd z q) id,ft.met,ft.ml,ft.wl,ft.made,ft.dl⟩
def DZ (m:MOk s0 s1 s2 R ws) (h:∀ e∈l,MeOk R ws e) (he:MeOk R ws e):aO .NotIn (meV e) (.dict (mtV l))=some (!decide (e∈l)):=by
 have dk:dkV (mtV l)=true:=Q6.mpr fun p mp=>by
  obtain ⟨e,me,rfl⟩:=zA7 mp;exact (h e me).key m
 have lo:(bt (mtV l) (meV e)).isSome=decide (e∈l):=by
  have q:=b0 (f:=meV) (g:=fun U:Unit=>PyData.bool true) (k:=e) (l:=l.map fun e=>(e,())) (fun U U=>xm) (he.key m) fun x mx=>by
   obtain ⟨y,my,rfl⟩:=zA7 mx;exact (h y my).key m
  rw [map_map] at q;refine (NO isSome q).trans ?_;rw [isSome_map];have e1:(l.map fun e=>(e,())).map (·.1)=l:=by rw [map_map]; exact map_id l
  cases z:lk (l.map fun e=>(e,())) e with
  | none=>have:=look_none.mp z; rw [e1] at this; exact (NM this).symm
  | some u=>exact (NL (e1▸mem_map.mpr ⟨_,dp z,rfl⟩)).symm
 refine (?_:(if (dkV (mtV l)&&aZ (meV e))=true then some (bt (mtV l) (meV e)).isSome else none).map _=_);rw [NP (zA3 ⟨dk,he.key m⟩),lo]; rfl
def CC (m:MOk s0 s1 s2 R ws) (h:∀ e∈l,MeOk R ws e) (he:MeOk R ws e) (n:e∉l):cX (mtV l) (meV e) (.bool true)=mtV (l++[e]):=by
 unfold cX;rw [NQ]
 ·unfold mtV; rw [map_append]; rfl
 ·intro q;obtain ⟨p,mp,hp⟩:=any_eq_true.mp q;obtain ⟨j,mj,rfl⟩:=zA7 mp;exact n (xm ((cH _ _ ((h j mj).key m) (he.key m)).mp hp)▸mj)
def S24 (cf:CallF):Prop:=∀ s0 s1 s2 R ws (s:Mk) mv e K,MOk s0 s1 s2 R ws->Fits R ws s->MeOk R ws e->(e.2∈s.num\/s.num.length < 40)->s.met.length < 3000->s.wt.length < 3000->(∀ y,K y ((s.come e).o mv ws))->cf.o 24 (s.o mv ws) [kpV e.1,shV e.2] K
def p24 (cf:CallF) (GG:S22 cf):S24 (step cf):=fun s0 s1 s2 R ws s mv e K m ft he room l1 l2 h=>by
 refine AS (fn:=f24) rfl rfl rfl (eL (ob:=s.o mv ws) rfl (vs:=[shV e.2]) (.one ix) (GG s0 s1 s2 R ws _ s mv e.2 _ m ft he.row room fun i hi=>?_));have MS:=ft.add he.row room;obtain ⟨e1,e2,e3⟩:=jS s e.2;have hc:s.come e=if e∈(s.add e.2).met then s.add e.2 else { s.add e.2 with met:=(s.add e.2).met++[e],wt:=(s.add e.2).wt++[e] }:=rfl
 generalize s.add e.2=t at MS e1 e2 e3 hc ⊢;rw [<- e1] at l1;rw [<- e2] at l2;have tv:∀ {G:Gs},Val cf (.obj (t.o mv ws) :: .v (kpV e.1) :: .v (shV e.2) :: G) (.nd .tuple [vv 1,vv 2]) (meV e):=fun {G}=>aa (.two ix ix) rfl;refine bS (t:=!decide (e∈t.met)) (bn (ab (x:=meV e) (y:=.dict (mtV t.met)) (aa (.two ix ix) rfl) (aa (.one ix) rfl) (DZ m MS.met he)) rfl) (fun q=>?_) fun q=>?_
 ·have q:e∉t.met:=of_decide_eq_false (AW q);refine wJ (l:=mtV t.met) (v:=.bool true) (x:=meV e) rfl rfl ix tv (he.key m) (by unfold mtV; rw [zA4]; exact Q1 l1 (by decide)) ?_;rw [CC m MS.met he q];refine BT (l:=t.wt.map meV) (v:=meV e) rfl rfl (aa (.two ix ix) rfl) (by rw [zA4]; exact Q1 l2 (by decide)) (av ?_);have:=h .none;rw [hc,NQ q] at this;have e':t.wt.map meV++[meV e]=(t.wt++[e]).map meV:=by rw [map_append]; rfl
  rw [e'];exact this
 ·refine av ?_;have:=h .none;rw [hc,NP (IO (fk q))] at this;exact this
noncomputable def rP {α:Type}:List α->List (List α)
 | []=>[[]]
 | x :: l=>rP l++(rP l).map (x :: ·)
theorem subs_len:∀ l:List α,(rP l).length=2 ^ l.length
 | []=>rfl
 | x :: l=>by refine (?_:(rP l++(rP l).map (x :: ·)).length=_); rw [zB5,zA4,subs_len l,zB4,pow_succ,mul_two]
theorem cM (p:α->Bool):∀ l:List α,l.filter p∈rP l
 | []=>.head _
 | x :: l=>by
  cases h:p x with
  | true=>rw [filter_cons_of_pos h]; exact mem_append_right _ (mem_map.mpr ⟨_,cM p l,rfl⟩)
  | false=>rw [filter_cons_of_neg (by rw [h]; exact NK)]; exact Qc _ (cM p l)
theorem oU:∀ {l:List α},l.Nodup->(∀ a∈l,∀ b∈l,f a=f b->a=b)->(l.map f).Nodup
 | [],_,_=>.nil
 | x :: l,nd,h=>by
  have nd:=nodup_cons.mp nd;refine nodup_cons.mpr ⟨fun q=>?_,oU nd.2 fun a ma b mb=>h a (.tail _ ma) b (.tail _ mb)⟩;obtain ⟨y,my,e⟩:=zA7 q;exact nd.1 (h y (.tail _ my) x (.head _) e▸my)
section
variable {s0 s1 s2:List Nat} {R:Int} {ws:List W} (m:MOk s0 s1 s2 R ws)
include m
theorem oJ {B:List Pa} (hB:∀ k:Pa,Bg ws f k.1->In R k.2->k∈B) (hx:Row R ws f x) (hy:Row R ws f y) (e:(B.filter fun p=>decide (p∈x))=B.filter fun p=>decide (p∈y)):x=y:=by
 have K4:∀ {x y:Sh},Row R ws f x->(B.filter fun p=>decide (p∈x))=(B.filter fun p=>decide (p∈y))->∀ p,p∈x->p∈y:=fun hx e p mp=>by
  have q:p∈B.filter fun p=>decide (p∈_):=mem_filter.mpr ⟨hB p (hx.k.ok p mp).1 (hx.k.ok p mp).2,NL mp⟩;rw [e] at q;exact IO (mem_filter.mp q).2
 exact oN m hx hy fun p=>⟨K4 hx e p,K4 hy e.symm p⟩
open Classical in
theorem vo {l:List Sh} (nd:l.Nodup) (h:∀ x∈l,∃ f,Row R ws f x):l.length<=32:=by
 obtain ⟨A,la,ha⟩:=box m false;obtain ⟨B,lb,hb⟩:=box m true;have up:∀ x∈l,¬ Row R ws false x->Row R ws true x:=fun x mx n=>by
  obtain ⟨f,r⟩:=h x mx;cases f with
  | false=>exact absurd r n
  | true=>exact r
 have q:=cK (m:=(rP A).map (fun s=>(false,s))++(rP B).map fun s=>(true,s)) (oU (f:=fun x=>if Row R ws false x then (false,A.filter fun p=>decide (p∈x)) else (true,B.filter fun p=>decide (p∈x))) nd fun x mx y my e=>?_) fun c mc=>?_
 ·rw [zA4,zB5,zA4,zA4,subs_len,subs_len] at q;exact zB1 q (add_le_add (Nat.pow_le_pow_right (by decide) la) (Nat.pow_le_pow_right (by decide) lb))
 ·by_cases rx:Row R ws false x
  ·rw [NP rx] at e;by_cases ry:Row R ws false y
   ·rw [NP ry] at e;exact oJ m ha rx ry (Prod.mk.inj e).2
   ·rw [NQ ry] at e;exact nB (Prod.mk.inj e).1
  ·rw [NQ rx] at e;by_cases ry:Row R ws false y
   ·rw [NP ry] at e;exact nB (Prod.mk.inj e).1.symm
   ·rw [NQ ry] at e;exact oJ m hb (up x mx rx) (up y my ry) (Prod.mk.inj e).2
 ·obtain ⟨x,mx,rfl⟩:=zA7 mc;by_cases rx:Row R ws false x
  ·rw [NP rx]; exact Qc _ (mem_map.mpr ⟨_,cM _ _,rfl⟩)
  ·rw [NQ rx]; exact mem_append_right _ (mem_map.mpr ⟨_,cM _ _,rfl⟩)
end
structure Mc where
 s0:List Nat
 s1:List Nat
 s2:List Nat
 R:Int
 ws:List W
structure Mc.Ok (M:Mc):Prop where
 m:MOk M.s0 M.s1 M.s2 M.R M.ws
 sg:Sg2 M.s0 M.s1 M.s2
inductive Rt (A:Sh->Pa->Prop) (l:List Sh) (i j:Nat):Prop
 | mk (x t:Sh) (e1:l[i]?=some x) (e2:l[j]?=some t) (e3:∀ p,p∈t ↔ A x p):Rt A l i j
inductive Rt2 (A:Sh->Sh->Pa->Prop) (l:List Sh) (i k j:Nat):Prop
 | mk (x y t:Sh) (e1:l[i]?=some x) (e2:l[k]?=some y) (e3:l[j]?=some t) (e4:∀ p,p∈t ↔ A y x p):Rt2 A l i k j
def fz (M:Mc) (s:Mk) (h:Hd) (j:Nat):Prop:=Hd.rec (motive:=fun U=>Prop) (fun i c=>c∈M.s2/\Rt (OnA M.ws c) s.num i j) (fun i c=>c∈M.s0/\Rt (OpA M.ws c) s.num i j) (fun i k c=>c∈M.s1/\Rt2 (ClA M.ws c) s.num i k j) h
structure Ok (M:Mc) (s:Mk):Prop where
 num:∀ x∈s.num,∃ f,Row M.R M.ws f x
 nd:s.num.Nodup
 met:∀ e∈s.met,MeOk M.R M.ws e
 mnd:s.met.Nodup
 wt:∀ e∈s.wt,e∈s.met
 wnd:s.wt.Nodup
 mem:∀ e∈s.met,e.2∈s.num
 kept:∀ k x,(some k,x)∈s.met->∃ k',(k',k)∈s.met
 made:∀ e∈s.made,fz M s e.1 e.2
 mdn:(s.made.map (·.1)).Nodup
theorem dq {α β:Type} {f:α->List β}:∀ {l:List α},(∀ a∈l,(f a).length<=n)->(l.flatMap f).length<=l.length * n
 | [],_=>zero_le _
 | x :: l,h=>by
  rw [flatMap_cons,zB5,zB4,succ_mul,add_comm];exact add_le_add (dq fun a m=>h a (.tail _ m)) (h x (.head _))
def uM {l:List α} (h:l[i]?=some x) (hl:l.length<=32):i∈List.range 32:=mem_range.mpr (Q1 (List.getElem?_eq_some_iff.mp h).1 hl)
section
variable {M:Mc} {s:Mk} (mo:M.Ok) (ok:Ok M s)
include mo ok
theorem Ok.nl:s.num.length<=32:=vo mo.m ok.nd ok.num
theorem Ok.ml:s.met.length<=1056:=by
 have nl:=ok.nl mo;have q:=cK (m:=(none :: s.num.map some).flatMap fun k=>s.num.map fun x=>(k,x)) ok.mnd fun e me=>by
  refine mem_flatMap.mpr ⟨e.1,?_,mem_map.mpr ⟨e.2,ok.mem e me,rfl⟩⟩;obtain ⟨k,x⟩:=e;cases k with
  | none=>exact .head _
  | some k=>
   obtain ⟨k',mk⟩:=ok.kept k x me;exact .tail _ (mem_map.mpr ⟨k,ok.mem _ mk,rfl⟩)
 refine zB1 q (zB1 (dq (n:=32) fun k U=>by rw [zA4]; exact nl) ?_);rw [zB4,zA4];exact zB1 (Nat.mul_le_mul_right 32 (succ_le_succ nl)) (by decide)
theorem Ok.wl:s.wt.length<=1056:=zB1 (cK ok.wnd ok.wt) (ok.ml mo)
theorem Ok.dl:s.made.length<=2200:=by
 have nl:=ok.nl mo;have q:=cK (m:=((List.range 32).flatMap fun i=>M.s2.map fun c=>Hd.on i c)++(((List.range 32).flatMap fun i=>M.s0.map fun c=>Hd.op i c)++(List.range 32).flatMap fun i=>(List.range 32).flatMap fun k=>M.s1.map fun c=>Hd.cl i k c)) ok.mdn fun h mh=>by
  obtain ⟨e,me,rfl⟩:=zA7 mh;have r:=ok.made e me;obtain ⟨h,j⟩:=e;cases h with
  | on i c=>
   obtain ⟨mc,x,t,e1⟩:=r;exact Qc _ (mem_flatMap.mpr ⟨i,uM e1 nl,mem_map.mpr ⟨c,mc,rfl⟩⟩)
  | op i c=>
   obtain ⟨mc,x,t,e1⟩:=r;exact mem_append_right _ (Qc _ (mem_flatMap.mpr ⟨i,uM e1 nl,mem_map.mpr ⟨c,mc,rfl⟩⟩))
  | cl i k c=>
   obtain ⟨mc,x,y,t,e1,e2⟩:=r;exact mem_append_right _ (mem_append_right _ (mem_flatMap.mpr ⟨i,uM e1 nl,mem_flatMap.mpr ⟨k,uM e2 nl,mem_map.mpr ⟨c,mc,rfl⟩⟩⟩))
 rw [zA4,zB5,zB5] at q;refine zB1 q (zB1 (add_le_add (dq (n:=2) fun i U=>by rw [zA4]; exact mo.sg.lc) (add_le_add (dq (n:=2) fun i U=>by rw [zA4]; exact mo.sg.la) (dq (n:=64) fun i U=>zB1 (dq (n:=2) fun k U=>by rw [zA4]; exact mo.sg.lb) (by decide)))) (by decide))
theorem Ok.fits:Fits M.R M.ws s where
 num:=ok.num
 nl:=zB1 (ok.nl mo) (by decide)
 met:=ok.met
 ml:=zB1 (ok.ml mo) (by decide)
 wl:=zB1 (ok.wl mo) (by decide)
 made:=fun e me=>by
  have r:=ok.made e me;obtain ⟨h,j⟩:=e;cases h with
  | on i c=>exact mo.m.sk.lowC r.1
  | op i c=>exact mo.m.sk.lowA r.1
  | cl i k c=>exact mo.m.sk.lowB r.1
 dl:=zB1 (ok.dl mo) (by decide)
end
structure Ext (s t:Mk):Prop where
 num:∃ l,t.num=s.num++l
 met:∃ l,t.met=s.met++l/\t.wt=s.wt++l
 made:∀ h,h∈s.made.map (·.1)->h∈t.made.map (·.1)
theorem Ext.refl (s:Mk):Ext s s:=⟨⟨[],(append_nil _).symm⟩,⟨[],(append_nil _).symm,(append_nil _).symm⟩,fun U m=>m⟩
theorem Ext.trans (a:Ext s t) (b:Ext t u):Ext s u:=by
 obtain ⟨⟨l1,e1⟩,⟨l2,e2,e3⟩,h⟩:=a;obtain ⟨⟨k1,f1⟩,⟨k2,f2,f3⟩,g⟩:=b;exact ⟨⟨l1++k1,by rw [f1,e1,Qa]⟩,⟨l2++k2,by rw [f2,e2,Qa],by rw [f3,e3,Qa]⟩,fun x m=>g x (h x m)⟩
theorem Ext.inN (a:Ext s t) (m:x∈s.num):x∈t.num:=by obtain ⟨l,e⟩:=a.num; rw [e]; exact Qc _ m
theorem Ext.inM (a:Ext s t) (m:e∈s.met):e∈t.met:=by obtain ⟨l,q,_⟩:=a.met; rw [q]; exact Qc _ m
theorem Ext.get {i:Nat} (a:Ext s t) (m:s.num[i]?=some x):t.num[i]?=some x:=by
 obtain ⟨l,e⟩:=a.num;rw [e,getElem?_append_left (List.getElem?_eq_some_iff.mp m).1]; exact m
theorem Ext.old (a:Ext s t) (m:e∈t.met) (n:e∉t.wt):e∈s.met/\e∉s.wt:=by
 obtain ⟨l,q,q'⟩:=a.met;rw [q] at m;rw [q'] at n;exact ⟨(mem_append.mp m).elim id fun z=>absurd (mem_append_right _ z) n,fun z=>n (Qc _ z)⟩
theorem fz.ext (a:Ext s t) (r:fz M s h j):fz M t h j:=by
 cases h with
 | cl i k c=>exact ⟨r.1,r.2.casesOn fun x y z e1 e2 e3 e4=>⟨x,y,z,a.get e1,a.get e2,a.get e3,e4⟩⟩
 | _ i c=>exact ⟨r.1,r.2.casesOn fun x y e1 e2 e3=>⟨x,y,a.get e1,a.get e2,e3⟩⟩
def eX (h:At s x i):s.num[i]?=some x:=(List.mem_zipIdx_iff_getElem?).mp (dp h)
noncomputable def Mk.put (s:Mk) (h:Hd) (j:Nat):Mk:={ s with made:=oH s.made h j }
def dH (s:Mk) (P:Sh->Prop):Prop:=∀ x∈s.num,P x\/∃ k,(k,x)∈s.met
section
variable {M:Mc} {s:Mk}
def jf (s:Mk) (x:Sh):Ext s (s.add x):=by
 unfold Mk.add;by_cases q:x∈s.num
 ·rw [NP q]; exact .refl s
 ·rw [NQ q]; exact ⟨⟨[x],rfl⟩,⟨[],(append_nil _).symm,(append_nil _).symm⟩,fun U m=>m⟩
theorem Ok.add (ok:Ok M s) (hx:Row M.R M.ws f x):Ok M (s.add x):=by
 have ex:=jf s x;unfold Mk.add at ex ⊢;by_cases q:x∈s.num
 ·rw [NP q]; exact ok
 ·rw [NQ q] at ex ⊢;exact ⟨fun y my=>(mem_append.mp my).elim (ok.num y) fun my=>zA6 my▸⟨f,hx⟩,nodup_append.mpr ⟨ok.nd,pairwise_singleton _ x,fun a ha b hb e=>q (by obtain rfl:=zA6 hb; exact e▸ha)⟩,ok.met,ok.mnd,ok.wt,ok.wnd,fun e me=>Qc _ (ok.mem e me),ok.kept,fun e me=>(ok.made e me).ext ex,ok.mdn⟩
theorem dH.add (fu:dH s P) (x:Sh):dH (s.add x) fun y=>P y\/y=x:=by
 unfold Mk.add;by_cases q:x∈s.num
 ·rw [NP q]; exact fun y my=>(fu y my).imp .inl id
 ·rw [NQ q]; exact fun y my=>(mem_append.mp my).elim (fun my=>(fu y my).imp .inl id) fun my=>.inl (.inr (zA6 my))
def mH (s:Mk) (h:Hd) (j:Nat):Ext s (s.put h j):=⟨⟨[],(append_nil _).symm⟩,⟨[],(append_nil _).symm,(append_nil _).symm⟩,fun U m=>lR.mpr (.inr m)⟩
theorem Ok.put (ok:Ok M s) (r:fz M s h j):Ok M (s.put h j):=
 ⟨ok.num,ok.nd,ok.met,ok.mnd,ok.wt,ok.wnd,ok.mem,ok.kept,fun e me=>fz.ext (mH s h j) ((y4 me).elim (fun q=>by subst q; exact r) fun me=>ok.made e me),tJ ok.mdn⟩
def d4 (s:Mk) (e:Me):Ext s (s.come e):=by
 refine (jf s e.2).trans ?_;unfold Mk.come;by_cases q:e∈(s.add e.2).met
 ·rw [NP q]; exact .refl _
 ·rw [NQ q]; exact ⟨⟨[],(append_nil _).symm⟩,⟨[e],rfl,rfl⟩,fun U m=>m⟩
def eU (s:Mk) (e:Me):e∈(s.come e).met:=by
 unfold Mk.come;by_cases q:e∈(s.add e.2).met
 ·rw [NP q]; exact q
 ·rw [NQ q]; exact mem_append_right _ (.head _)
def pG (s:Mk) (e:Me):(s.come e).num=(s.add e.2).num:=by
 unfold Mk.come;by_cases q:e∈(s.add e.2).met
 ·rw [NP q]
 ·rw [NQ q]
theorem Ok.come (ok:Ok M s) (he:MeOk M.R M.ws e) (hk:∀ k,e.1=some k->∃ k',(k',k)∈s.met):Ok M (s.come e):=by
 have GJ:=ok.add he.row;have hk:∀ k,e.1=some k->∃ k',(k',k)∈(s.add e.2).met:=by rw [(jS s e.2).1]; exact hk
 have me:=tx s e.2;unfold Mk.come;generalize s.add e.2=t at GJ hk me ⊢;by_cases q:e∈t.met
 ·rw [NP q]; exact GJ
 ·rw [NQ q];have nd:∀ {l:List Me},l.Nodup->(∀ x∈l,x∈t.met)->(l++[e]).Nodup:=fun nd h=>nodup_append.mpr ⟨nd,pairwise_singleton _ e,fun a ha b hb z=>q (by obtain rfl:=zA6 hb; exact z▸h a ha)⟩;exact ⟨GJ.num,GJ.nd,fun x mx=>(mem_append.mp mx).elim (GJ.met x) fun mx=>zA6 mx▸he,nd GJ.mnd fun U m=>m,fun x mx=>(mem_append.mp mx).elim (fun mx=>Qc _ (GJ.wt x mx)) fun mx=>mem_append_right _ mx,nd GJ.wnd GJ.wt,
   fun x mx=>(mem_append.mp mx).elim (GJ.mem x) fun mx=>zA6 mx▸me,fun k x mx=>(mem_append.mp mx).elim (fun mx=>(GJ.kept k x mx).imp fun U z=>Qc _ z) fun mx=>(hk k (by rw [<- zA6 mx])).imp fun U z=>Qc _ z,fun y my=>fz.ext (s:=t) (t:={ t with met:=t.met++[e],wt:=t.wt++[e] }) ⟨⟨[],(append_nil _).symm⟩,⟨[e],rfl,rfl⟩,fun U m=>m⟩ (GJ.made y my),GJ.mdn⟩
theorem dH.ext (fu:dH s P) (ex:Ext s t) (h:∀ x∈t.num,x∈s.num\/Q x\/∃ k,(k,x)∈t.met) (hP:∀ x,P x->Q x\/∃ k,(k,x)∈t.met):dH t Q:=fun x mx=>(h x mx).elim (fun mx=>(fu x mx).elim (hP x) fun z=>.inr (z.imp fun U z=>ex.inM z)) id
theorem dH.come (fu:dH s fun y=>y=e.2):dH (s.come e) fun U=>False:=fun x mx=>by
 rw [pG] at mx;rcases fu.add e.2 x mx with (q | q) | ⟨k,q⟩
 ·exact .inr ⟨e.1,q▸eU s e⟩
 ·exact .inr ⟨e.1,q▸eU s e⟩
 ·exact .inr ⟨k,(d4 s e).inM (by rw [(jS s e.2).1] at q; exact q)⟩
inductive OneC (A:Nat->Sh->Pa->Prop) (hd:Nat->Nat->Hd) (k:Option Sh) (s:Mk) (x:Sh) (c:Nat):Prop
 | mk (t:Sh) (i:Nat) (ht:∀ p,p∈t ↔ A c x p) (mt:(k,t)∈s.met) (hi:s.num[i]?=some x) (hm:hd i c∈s.made.map (·.1)):OneC A hd k s x c
structure Closed (M:Mc) (s:Mk) (e:Me):Prop where
 on:∀ c∈M.s2,OneC (OnA M.ws) .on e.1 s e.2 c
 op:∀ c∈M.s0,OneC (OpA M.ws) .op (some e.2) s e.2 c
inductive BothC (M:Mc) (s:Mk) (k:Option Sh) (x q:Sh) (c:Nat):Prop
 | mk (t:Sh) (i j:Nat) (ht:∀ p,p∈t ↔ ClA M.ws c x q p) (mt:(k,t)∈s.met) (hi:s.num[i]?=some q) (hj:s.num[j]?=some x) (hm:Hd.cl i j c∈s.made.map (·.1)):BothC M s k x q c
def uO (M:Mc) (s:Mk) (k:Option Sh) (x q:Sh):Prop:=∀ c∈M.s1,BothC M s k x q c
theorem OneC.ext (h:OneC A hd k s x c) (ex:Ext s t):OneC A hd k t x c:=h.casesOn fun y i ht mt hi hm=>⟨y,i,ht,ex.inM mt,ex.get hi,ex.made _ hm⟩
theorem BothC.ext (h:BothC M s k x q c) (ex:Ext s t):BothC M t k x q c:=h.casesOn fun y i j ht mt hi hj hm=>⟨y,i,j,ht,ex.inM mt,ex.get hi,ex.get hj,ex.made _ hm⟩
theorem Closed.ext (h:Closed M s e) (ex:Ext s t):Closed M t e:=⟨fun c mc=>(h.on c mc).ext ex,fun c mc=>(h.op c mc).ext ex⟩
theorem uO.ext (h:uO M s k x q) (ex:Ext s t):uO M t k x q:=fun c mc=>(h c mc).ext ex
end
theorem mA:∀ {n:Nat} {x:V},lvV n x=true->fF n x
 | 0,x,h=>cG h
 | n+1,x,h=>by
  cases x with
  | tuple l=>exact bX fun y my=>mA (Q6.mp h y my)
  | none=>exact ⟨rfl,zero_le _⟩
  | int i=>exact ⟨rfl,zero_le _⟩
  | str t=>exact ⟨(cG (x:=.str t) h).1,zero_le _⟩
  | _=>exact nB h
theorem A4:∀ {n:Nat} {x:V},lvV n x=true->flN n x=true
 | 0,x,h=>by cases x <;> first | rfl | exact nB h
 | n+1,x,h=>by
  cases x with
  | tuple l=>exact Q6.mpr fun y my=>A4 (Q6.mp h y my)
  | list l=>exact nB h
  | dict l=>exact nB h
  | _=>rfl
def dZ (h:aZ x=true):fj x=true/\gi x=true:=by
 cases x with
 | tuple l=>exact ⟨ck (n:=4) (bX fun y my=>mA (n:=3) (Q6.mp h y my)) (by decide),Q6.mpr fun y my=>A4 (n:=3) (Q6.mp h y my)⟩
 | _=>exact nB h
def yA (hx:aZ x=true) (hy:aZ y=true) (h:x=y ↔ P) [Decidable P]:aO .Eq x y=some (decide P):=by
 refine (NP (by rw [(dZ hx).1,(dZ hy).1]; rfl)).trans (NO some ?_);have q:=(cH x y hx hy).trans h;by_cases z:P
 ·rw [NL z]; exact q.mpr z
 ·rw [NM z]; exact eq_false_iff.mpr fun w=>z (q.mp w)
def gI (h:ev cf e G fun v=>exs cf r (G.set k (.v v)) K):exs cf (.mk (.assign k) [e] [] [] :: r) G K:=h
theorem Srt.row (h:Srt R ws f A s):Row R ws f s:=⟨h.k,h.up⟩
def xH (hv:dR cf (fv G) es vs) (h4:S4 cf) (m:MOk s0 s1 s2 R ws) (hp:∀ K:V->Prop,(∀ F5,KOk R ws f F5->(∀ p,p∈F5 ↔ A p)->K (.dict (dK F5)))->cf.p g vs K) (h:∀ t,Srt R ws f A t->K (shV t)):ev cf (.nd .peek [.nd (.call 4) [.nd (.call g) es]]) G K:=by
 refine (?_:bj (evs cf es) (fv G) fun xs=>cf.p g xs fun d=>cf.p 4 [d] fun y=>gi y=true/\K y);refine hv _ (hp _ fun F5 o' mem=>h4 s0 s1 s2 R ws f F5 _ m o' fun t st=>?_);have st:Srt R ws f A t:=⟨st.k,fun p=>(st.mem p).trans (mem p),st.up⟩;exact ⟨(dZ (st.row.key m)).2,h t st⟩
def eM {K:GT} {α:Type} {g:α->V} {ws:List α} {I:List α->Gs->Prop} (hs:Val cf G s v) (hq:a9 v=some (ws.map g)) (h0:I ws G) (done:∀ G,I [] G->exs cf r G K)
  (turn:∀ w F0 G Kt,w∈ws->I (w :: F0) G->(∀ G',I F0 G'->Kt none G')->(∀ y G',K (some y) G'->Kt (some y) G')->exs cf body (G.set k (.v (g w))) Kt):exs cf (.mk (.forS k) [s] body [] :: r) G K:=by
 refine kg (P:=fun l G=>∃ F0:List α,l=F0.map g/\(∀ w∈F0,w∈ws)/\I F0 G) hs hq ⟨ws,rfl,fun U m=>m,h0⟩ ?_ ?_
 ·rintro G ⟨F0,e,_,h⟩;obtain rfl:F0=[]:=map_eq_nil_iff.mp e.symm;exact done G h
 ·rintro x l G Kt ⟨F0,e,hm,h⟩ nx rt;cases F0 with
  | nil=>exact nomatch e
  | cons w F0=>
   obtain ⟨rfl,rfl⟩:=zA5 e;exact turn w F0 G Kt (hm w (.head _)) h (fun G' q=>nx G' ⟨F0,rfl,fun j m=>hm j (.tail _ m),q⟩) rt
def lM {K:GT} {α:Type} {g:α->V} {ws:List α} {I:List α->Gs->Prop} (hs:Val cf G s v) (hq:a9 v=some (ws.map g)) (h0:I ws G) (done:∀ G,I [] G->exs cf r G K)
  (turn:∀ w F0 G Kt,w∈ws->I (w :: F0) G->(∀ G',I F0 G'->Kt none G')->(∀ y G',K (some y) G'->Kt (some y) G')->okK (aJ ks G (g w)) fun G'=>exs cf body G' Kt):exs cf (.mk (.forM ks) [s] body [] :: r) G K:=by
 refine wK (P:=fun l G=>∃ F0:List α,l=F0.map g/\(∀ w∈F0,w∈ws)/\I F0 G) hs hq ⟨ws,rfl,fun U m=>m,h0⟩ ?_ ?_
 ·rintro G ⟨F0,e,_,h⟩;obtain rfl:F0=[]:=map_eq_nil_iff.mp e.symm;exact done G h
 ·rintro x l G Kt ⟨F0,e,hm,h⟩ nx rt;cases F0 with
  | nil=>exact nomatch e
  | cons w F0=>
   obtain ⟨rfl,rfl⟩:=zA5 e;exact turn w F0 G Kt (hm w (.head _)) h (fun G' q=>nx G' ⟨F0,rfl,fun j m=>hm j (.tail _ m),q⟩) rt
def mvM (M:Mc) (st en:List Int):V:=a7 (sg M.s0 M.s1 M.s2) M.R st en (M.ws.map W.v)
theorem Row.cl (h:Row R ws f x) (hy:Row R ws f' y) (e:∀ p,p∈y ↔ ClA ws c x q p):Row R ws f y:=⟨⟨hy.k.nd,fun p mp=>⟨by
 obtain ⟨k,mk,a,d,e,t,ek,w,m⟩:=(e p).mp mp;exact (h.k.ok _ m).1,(hy.k.ok p mp).2⟩⟩,hy.up⟩
def vL (mo:M.Ok) (ok:Ok M s):dkV (mtV s.met)=true:=Q6.mpr fun p mp=>by
 obtain ⟨e,me,rfl⟩:=zA7 mp;exact (ok.met e me).key mo.m
def rJ (mo:M.Ok) (ok:Ok M s):Val cf (.obj (s.o mv M.ws) :: G) (.nd .peekN [.nd .listOf [.nd (.attr 1 3) [vv 0]]]) (.list (s.met.map meV)):=by
 have l:(mtV s.met).length<=5000:=by unfold mtV; rw [zA4]; exact zB1 (ok.ml mo) (by decide)
 have e:(mtV s.met).map (·.1)=s.met.map meV:=by unfold mtV; rw [map_map]; rfl
 have q:opN .listOf [.dict (mtV s.met)]=some (.list (s.met.map meV)):=by
  refine (?_:(if dkV (mtV s.met)=true then cq (mtV s.met) ((mtV s.met).map (·.1)) else none).map _=_);rw [NP (vL mo ok),e,show cq (mtV s.met) (s.met.map meV)=some (s.met.map meV) from NP (bT l)]; rfl
 refine tC (aa (.one (v:=.dict (mtV s.met)) (aa (.one ix) rfl)) q) (Q6.mpr fun x mx=>?_);obtain ⟨e,me,rfl⟩:=zA7 mx;exact (dZ ((ok.met e me).key mo.m)).2
def rV (mo:M.Ok) (ok:Ok M s):a9 (.list (s.met.map meV))=some (s.met.map meV):=aT (by rw [zA4]; exact zB1 (ok.ml mo) (by decide))
structure Came (M:Mc) (s:Mk) (x y:Sh) (P:List Me) (t:Mk):Prop where
 ok:Ok M t
 ext:Ext s t
 full:dH t (·=y)
 all:∀ k,(k,x)∈s.met->(k,x)∈P\/(k,y)∈t.met
inductive Ic (M:Mc) (mv:V) (s:Mk) (x q y:Sh) (c:Nat) (P:List Me) (G:Gs):Prop
 | mk (t:Mk) (z5 z6:Slot) (h:Came M s x y P t) (e:G=[.obj (t.o mv M.ws),.v (shV x),.v (shV q),.v (text [c]),.v (shV y),z5,z6]):Ic M mv s x q y c P G
def wD {K:GT} (mo:M.Ok) (Hj:S24 cf) (ok:Ok M s) (fu:dH s (·=y)) (hx:Row M.R M.ws fx x) (hy:Row M.R M.ws f y) (e:∀ p,p∈y ↔ ClA M.ws c x q p)
  (h:∀ t z5 z6,Came M s x y [] t->exs cf r [.obj (t.o mv M.ws),.v (shV x),.v (shV q),.v (text [c]),.v (shV y),z5,z6] K):exs cf (.mk (.forM [5,6]) [.nd .peekN [.nd .listOf [.nd (.attr 1 3) [vv 0]]]] yl [] :: r) [.obj (s.o mv M.ws),.v (shV x),.v (shV q),.v (text [c]),.v (shV y),z5,z6] K:=by
 refine lM (g:=meV) (ws:=s.met) (I:=Ic M mv s x q y c) (rJ mo ok) (rV mo ok) ⟨s,_,_,⟨ok,.refl s,fu,fun k m=>.inl m⟩,rfl⟩ ?_ ?_
 ·rintro G ⟨t,z5,z6,ca,rfl⟩;exact h t z5 z6 ca
 ·rintro e' F0 G Kt me ⟨t,z5,z6,ca,rfl⟩ nx _;refine (?_:exs cf yl [.obj (t.o mv M.ws),.v (shV x),.v (shV q),.v (text [c]),.v (shV y),.v (kpV e'.1),.v (shV e'.2)] Kt);have om:=ok.met e' me;refine bS (ab (x:=shV e'.2) (y:=shV x) ix ix (yA (P:=e'.2=x) (om.row.key mo.m) (hx.key mo.m) ⟨sh_inj,fun z=>z▸rfl⟩)) (fun z=>?_) fun z=>av (nx _ ⟨t,_,_,⟨ca.ok,ca.ext,ca.full,fun k mk=>(ca.all k mk).elim (fun w=>(mem_cons.mp w).elim (fun w=>absurd (w▸rfl:e'.2=x) (of_decide_eq_false z)) .inl) .inr⟩,rfl⟩)
  ·have z:=IO z;obtain ⟨k,x'⟩:=e';subst z;have mk:MeOk M.R M.ws (k,y):=⟨om.row.cl hy e,om.kept⟩;have hk:∀ k',k=some k'->∃ k'',(k'',k')∈t.met:=fun k' e=>(ok.kept k' x' (e▸me)).imp fun U w=>ca.ext.inM w;have l1:=ca.ok.ml mo;have l2:=ca.ok.wl mo;refine eL (ob:=t.o mv M.ws) rfl (vs:=[kpV k,shV y]) (.two ix ix) (Hj M.s0 M.s1 M.s2 M.R M.ws t mv (k,y) _ mo.m (ca.ok.fits mo) mk (.inr (Q0 (ca.ok.nl mo) (by decide))) (Q0 l1 (by decide)) (Q0 l2 (by decide)) fun U=>av (nx _ ⟨t.come (k,y),_,_,⟨ca.ok.come mk hk,ca.ext.trans (d4 t (k,y)),fun w mw=>(ca.full.come (e:=(k,y)) w mw).elim False.elim .inr,fun k' mk'=>(ca.all k' mk').elim (fun w=>(mem_cons.mp w).elim (fun w=>.inr (by injection w with w; subst w; exact eU t _)) .inl) fun w=>.inr ((d4 t (k,y)).inM w)⟩,rfl⟩))
def Az {s:Mk} (h:x∈s.num):s.add x=s:=NP h
def c8 (h:l.length<=4):a9 (text l)=some (l.map fun d=>text [d]):=dW (zB1 h (by decide))
def xn (mo:M.Ok) (ok:Ok M s) (hk:h.ok) (j:Nat):cX (mdV s.made) h.v (aR j)=mdV (s.put h j).made:=r6 (f:=Hd.v) (g:=aR) j (fun U U=>nE) (fun e me=>bf ((ok.fits mo).made e me)) (bf hk)
def sx (mo:M.Ok) (GG:S22 cf) (ok:Ok M s) (hx:Row M.R M.ws f x) (hv:Val cf (.obj (s.o mv M.ws) :: G) e (shV x)) (h:∀ i,At (s.add x) x i->K (aR i) (.obj ((s.add x).o mv M.ws) :: G)):sB cf 0 1 22 (ev cf e) (.obj (s.o mv M.ws) :: G) K:=
 DX (ob:=s.o mv M.ws) rfl hv (GG M.s0 M.s1 M.s2 M.R M.ws f s mv x _ mo.m (ok.fits mo) hx (.inr (Q0 (ok.nl mo) (by decide))) fun i hi=>h i hi)
def iV {K:V->Gs->Prop} {e:E} (mo:M.Ok) (GG:S22 cf) (ok:Ok M s) (mx:x∈s.num) (hv:Val cf (.obj (s.o mv M.ws) :: G) e (shV x)) (h:∀ i,At s x i->K (aR i) (.obj (s.o mv M.ws) :: G)):sB cf 0 1 22 (ev cf e) (.obj (s.o mv M.ws) :: G) K:=by
 obtain ⟨f,hx⟩:=ok.num x mx;refine sx mo GG ok hx hv ?_;rw [Az mx];exact h
def wI (h:sB cf k c f (ev cf e) G fun v G1=>okK (c6 G1 k c) fun o1=>okK (mE o1 j) fun U=>cy cf k c f (evs cf es) ms G1 fun ys G2=>ys.length<=af/\aZ (.tuple ys)=true/\okK (c6 G2 k c) fun o2=>okK (mE o2 j) fun l=>l.length < af/\exs cf r (G2.set k (.obj (o2.set j (.D (cX l (.tuple ys) v))))) K):exs cf (.mk (.oSetF k c j f ms) (e :: es) [] [] :: r) G K:=yG h
section
variable {es:List E} {ms:List Bool} {k c f:Nat} {K:List V->Gs->Prop} {e:E}
def lW (h:sB cf k c f (ev cf e) G fun y G'=>cy cf k c f (evs cf es) ms G' fun ys Hb=>K (y :: ys) Hb):cy cf k c f (evs cf (e :: es)) (true :: ms) G K:=h
def iR (hv:Val cf G e x) (h:cy cf k c f (evs cf es) ms G fun ys Hb=>K (x :: ys) Hb):cy cf k c f (evs cf (e :: es)) (false :: ms) G K:=hv _ h
def sf (h:K [] G):cy cf k c f (evs cf []) [] G K:=h
end
def tK (mo:M.Ok) (GG:S22 cf) (ok:Ok M s) (mx:x∈s.num) (mq:q∈s.num) (hy:Row M.R M.ws f y) (mc:c∈M.s1) (e:∀ p,p∈y ↔ ClA M.ws c x q p)
  (h:∀ i k j,At (s.add y) q i->At (s.add y) x k->At (s.add y) y j->exs cf r (.obj (((s.add y).put (.cl i k c) j).o mv M.ws) :: .v (shV x) :: .v (shV q) :: .v (text [c]) :: .v (shV y) :: G) K) :
  exs cf (.mk (.oSetF 0 1 5 22 [false,true,true,false]) [vv 4,ss aC,vv 2,vv 1,vv 3] [] [] :: r) (.obj (s.o mv M.ws) :: .v (shV x) :: .v (shV q) :: .v (text [c]) :: .v (shV y) :: G) K:=by
 have GJ:=ok.add hy;have ex:=jf s y;have mx:=ex.inN mx;have mq:=ex.inN mq;refine wI (sx (mv:=mv) (G:=.v (shV x) :: .v (shV q) :: .v (text [c]) :: .v (shV y) :: G) (e:=vv 4) mo GG ok hy ix fun j hj=>ag (z:=(s.add y).o mv M.ws) rfl (ag (z:=mdV (s.add y).made) rfl ?_));refine iR (x:=.str aC) ix (lW (iV (mv:=mv) (G:=.v (shV x) :: .v (shV q) :: .v (text [c]) :: .v (shV y) :: G) (e:=vv 2) mo GG GJ mq ix fun i hi=>lW (iV (mv:=mv) (G:=.v (shV x) :: .v (shV q) :: .v (text [c]) :: .v (shV y) :: G) (e:=vv 1) mo GG GJ mx ix fun k hk=>iR (x:=text [c]) ix (sf ?_))));have IC:(Hd.cl i k c).ok:=mo.m.sk.lowB mc;refine ⟨by refine (?_:4<=af); decide,bf IC,ag (z:=(s.add y).o mv M.ws) rfl (ag (z:=mdV (s.add y).made) rfl ⟨by unfold mdV; rw [zA4]; exact Q0 (GJ.dl mo) (by decide),?_⟩)⟩;have q:=h i k j hi hk hj;unfold Mk.o at q;rw [<- xn mo GJ IC] at q;exact q
structure Sh32 (M:Mc) (s:Mk) (x q:Sh) (P:List Nat) (t:Mk):Prop where
 ok:Ok M t
 ext:Ext s t
 full:dH t fun U=>False
 all:∀ c∈M.s1,c∈P\/∀ k,(k,x)∈s.met->BothC M t k x q c
inductive I32 (M:Mc) (mv:V) (s:Mk) (x q:Sh) (P:List Nat) (G:Gs):Prop
 | mk (t:Mk) (z3 z4 z5 z6:Slot) (h:Sh32 M s x q P t) (e:G=[.obj (t.o mv M.ws),.v (shV x),.v (shV q),z3,z4,z5,z6]):I32 M mv s x q P G
def S32 (cf:CallF):Prop:=∀ M st en s x q K,M.Ok->Ok M s->(dH s fun U=>False)->(some x,q)∈s.met->(∀ t y,Sh32 M s x q [] t->K y (t.o (mvM M st en) M.ws))->cf.o 32 (s.o (mvM M st en) M.ws) [shV x,shV q] K
def p32 (cf:CallF) (me:MethOk cf) (h4:S4 cf) (h8:S8 cf) (GG:S22 cf) (Hj:S24 cf):S32 (step cf):=fun M st en s x q K mo ok fu mq h=>by
 obtain ⟨k0,mk0⟩:=ok.kept x q mq;have hx:Row M.R M.ws k0.isSome x:=(ok.met _ mk0).row;have hq:Row M.R M.ws true q:=(ok.met _ mq).row;have nx:x∈s.num:=ok.mem _ mk0;have nq:q∈s.num:=ok.mem _ mq;refine AS (fn:=f32) rfl rfl rfl ?_;refine eM (g:=fun d=>text [d]) (ws:=M.s1) (v:=text M.s1) (I:=I32 M (mvM M st en) s x q) (bn (aa (vs:=[sg M.s0 M.s1 M.s2,.int 1]) (.two (bN (x:=mvM M st en) (aa (.one ix) rfl) rfl .nil fun K h=>me.m9 _ _ _ _ _ K h) ix) rfl) rfl) (c8 mo.m.sk.lb) (.mk s _ _ _ _ ⟨ok,.refl s,fu,fun c m=>.inl m⟩ rfl) ?_ ?_
 ·rintro G ⟨t,_,_,_,_,q,rfl⟩;exact av (h t _ q)
 ·rintro c F0 G Kt mc ⟨t,z3,z4,z5,z6,g,rfl⟩ nxt _;refine gI (xH (f:=k0.isSome) (A:=ClA M.ws c x q) (vs:=[bi M.ws,shV x,shV q,text [c]]) (.cons (aa (.one ix) rfl) (.cons ix (.two ix ix))) h4 mo.m (fun K h=>h8 M.s0 M.s1 M.s2 M.R M.ws k0.isSome x q c K mo.m hx.k hq.k (mo.m.sk.lowB mc) h) fun y sy=>?_);refine tK (mv:=mvM M st en) (G:=[z5,z6]) mo GG g.ok (g.ext.inN nx) (g.ext.inN nq) sy.row mc sy.mem fun i k j hi hk hj=>?_;have ok1:=g.ok.add sy.row;have r:fz M (t.add y) (.cl i k c) j:=⟨mc,q,x,y,eX hi,eX hk,eX hj,sy.mem⟩;have e2:Ext t ((t.add y).put (.cl i k c) j):=(jf t y).trans (mH _ _ _);refine wD (mv:=mvM M st en) mo Hj (ok1.put r) (fun z mz=>(g.full.add y z mz).imp (fun w=>w.elim False.elim id) id) hx sy.row sy.mem fun t' z5 z6 ca=>av (nxt _ ⟨t',_,_,_,_,?_,rfl⟩);have e3:=e2.trans ca.ext;have all:∀ k',(k',x)∈s.met->(k',y)∈t'.met:=fun k' m=>(ca.all k' (e2.inM (g.ext.inM m))).elim (fun w=>nM w) id;refine ⟨ca.ok,g.ext.trans e3,fun z mz=>(ca.full z mz).elim (fun w=>.inr ⟨k0,w▸all k0 mk0⟩) .inr,fun c' L9=>(g.all c' L9).elim (fun w=>(mem_cons.mp w).elim (fun w=>.inr fun k' m=>?_) .inl) fun w=>.inr fun k' m=>(w k' m).ext e3⟩;subst w;exact ⟨y,i,k,sy.mem,all k' m,ca.ext.get (eX hi),ca.ext.get (eX hk),ca.ext.made _ (lR.mpr (.inl rfl))⟩
def Dl {M:Mc} (mo:M.Ok) (h:∀ s,k=some s->∃ f,Row M.R M.ws f s) (hx:Row M.R M.ws f x):aO .Eq (kpV k) (shV x)=some (decide (k=some x)):=by
 cases k with
 | none=>
  refine (NP (by rw [(dZ (hx.key mo.m)).1]; rfl)).trans (NO some ?_);rw [NM nofun]; rfl
 | some s=>
  obtain ⟨f',hs⟩:=h s rfl;exact yA (P:=some s=some x) (hs.key mo.m) (hx.key mo.m) ⟨fun e=>NO some (sh_inj e),fun e=>by injection e with e; subst e; rfl⟩
def y0 {K:GT} {hd:Nat->Hd} (mo:M.Ok) (GG:S22 cf) (ok:Ok M s) (mx:x∈s.num) (my:y∈s.num) (hv:∀ i:Nat,(hd i).v=.tuple [.str t,aR i,text [c]]) (IC:∀ i,(hd i).ok)
  (h:∀ i j,At s x i->At s y j->exs cf r (.obj ((s.put (hd i) j).o mv M.ws) :: kv :: .v (shV x) :: .v (text [c]) :: .v (shV y) :: G) K) :
  exs cf (.mk (.oSetF 0 1 5 22 [false,true,false]) [vv 4,ss t,vv 2,vv 3] [] [] :: r) (.obj (s.o mv M.ws) :: kv :: .v (shV x) :: .v (text [c]) :: .v (shV y) :: G) K:=by
 refine wI (iV (mv:=mv) (G:=kv :: .v (shV x) :: .v (text [c]) :: .v (shV y) :: G) (e:=vv 4) mo GG ok my ix fun j hj=>ag (z:=s.o mv M.ws) rfl (ag (z:=mdV s.made) rfl ?_));refine iR (x:=.str t) ix (lW (iV (mv:=mv) (G:=kv :: .v (shV x) :: .v (text [c]) :: .v (shV y) :: G) (e:=vv 2) mo GG ok mx ix fun i hi=>iR (x:=text [c]) ix (sf ?_)));have q:=h i j hi hj;unfold Mk.o at q;rw [<- xn mo ok (IC i),hv] at q;exact ⟨by refine (?_:3<=af); decide,by have:=bf (IC i); rw [hv] at this; exact this,ag (z:=s.o mv M.ws) rfl (ag (z:=mdV s.made) rfl ⟨by unfold mdV; rw [zA4]; exact Q0 (ok.dl mo) (by decide),q⟩)⟩
structure G33 (M:Mc) (s:Mk) (Q:Mk->Prop) (t:Mk):Prop where
 ok:Ok M t
 ext:Ext s t
 full:dH t fun U=>False
 q:Q t
inductive I33 (M:Mc) (mv:V) (s:Mk) (e:Me) (Q:List Nat->Mk->Prop) (P:List Nat) (G:Gs):Prop
 | mk (t:Mk) (z3 z4 z5 z6:Slot) (h:G33 M s (Q P) t) (eG:G=[.obj (t.o mv M.ws),.v (kpV e.1),.v (shV e.2),z3,z4,z5,z6]):I33 M mv s e Q P G
def ug (fu:dH s fun U=>False):dH s (·=y):=fun x mx=>(fu x mx).elim False.elim .inr
theorem G33.come (mo:M.Ok) (g:G33 M s Q t) (he:MeOk M.R M.ws e) (hk:∀ k,e.1=some k->∃ k',(k',k)∈t.met):Ok M (t.come e)/\dH (t.come e) fun U=>False:=⟨g.ok.come he hk,(ug g.full).come⟩
def ut (mo:M.Ok) (Hj:S24 cf) (ok:Ok M s) (he:MeOk M.R M.ws e) (ha:Val cf (.obj (s.o mv M.ws) :: G) a (kpV e.1)) (hb:Val cf (.obj (s.o mv M.ws) :: G) b (shV e.2)) (h:exs cf r (.obj ((s.come e).o mv M.ws) :: G) K):exs cf (.mk (.oCall 0 1 24) [a,b] [] [] :: r) (.obj (s.o mv M.ws) :: G) K:=
 eL (ob:=s.o mv M.ws) rfl (vs:=[kpV e.1,shV e.2]) (.two ha hb) (Hj M.s0 M.s1 M.s2 M.R M.ws s mv e _ mo.m (ok.fits mo) he (.inr (Q0 (ok.nl mo) (by decide))) (Q0 (ok.ml mo) (by decide)) (Q0 (ok.wl mo) (by decide)) fun U=>h)
section
variable {cf:CallF} {M:Mc} {s:Mk} {e:Me} {st en:List Int} {r:List S} {K:GT}
def tB (me:MethOk cf) (n:Nat) (hn:opN .sub [sg M.s0 M.s1 M.s2,.int n]=some (text l)) (t:Mk) (G:Gs):Val cf (.obj (t.o (mvM M st en) M.ws) :: G) (.nd .peek [.nd .sub [.nd (.meth 0 15) [.nd (.attr 1 0) [vv 0]],ii n]]) (text l):=bn (aa (vs:=[sg M.s0 M.s1 M.s2,.int n]) (.two (bN (x:=mvM M st en) (aa (.one ix) rfl) rfl .nil fun K h=>me.m9 _ _ _ _ _ K h) ix) hn) rfl
def oT {ls:List Nat} {n:Nat} {A:Nat->Sh->Pa->Prop} {hd:Nat->Nat->Hd} {f:Bool} (mo:M.Ok) (me:MethOk cf) (h4:S4 cf) (GG:S22 cf) (Hj:S24 cf) (ok:Ok M s) (fu:dH s fun U=>False) (he:e∈s.met)
  (hn:opN .sub [sg M.s0 M.s1 M.s2,.int n]=some (text ls)) (hl:ls.length<=4) (hp:∀ c∈ls,∀ K:V->Prop,(∀ F5,KOk M.R M.ws f F5->(∀ p,p∈F5 ↔ A c e.2 p)->K (.dict (dK F5)))->cf.p g [bi M.ws,shV e.2,text [c]] K) (hv:∀ i c,(hd i c).v=.tuple [.str tt,aR i,text [c]]) (IC:∀ i,∀ c∈ls,(hd i c).ok)
  (hr:∀ t i j,∀ c∈ls,Rt (A c) t.num i j->fz M t (hd i c) j) (hE:∀ t G z,Val cf (.obj t :: .v (kpV e.1) :: .v (shV e.2) :: z :: G) kE (kpV kk)) (hm:∀ y,Row M.R M.ws f y->MeOk M.R M.ws (kk,y)) (hk:∀ k,kk=some k->∃ k',(k',k)∈s.met)
  (h:∀ t z3 z4 z5 z6,G33 M s (fun t=>∀ c∈ls,OneC A hd kk t e.2 c) t->exs cf r [.obj (t.o (mvM M st en) M.ws),.v (kpV e.1),.v (shV e.2),z3,z4,z5,z6] K) :
  exs cf (.mk (.forS 3) [.nd .peek [.nd .sub [.nd (.meth 0 15) [.nd (.attr 1 0) [vv 0]],ii n]]] [.mk (.assign 4) [.nd .peek [.nd (.call 4) [.nd (.call g) [.nd (.attr 1 1) [vv 0],vv 2,vv 3]]]] [] [],.mk (.oCall 0 1 24) [kE,vv 4] [] [],.mk (.oSetF 0 1 5 22 [false,true,false]) [vv 4,ss tt,vv 2,vv 3] [] []] [] :: r) [.obj (s.o (mvM M st en) M.ws),.v (kpV e.1),.v (shV e.2),z3,z4,z5,z6] K:=by
 refine eM (g:=fun d=>text [d]) (ws:=ls) (v:=text ls) (I:=I33 M (mvM M st en) s e fun P t=>∀ c∈ls,c∈P\/OneC A hd kk t e.2 c) (tB me n hn s _) (c8 hl) (.mk s _ _ _ _ ⟨ok,.refl s,fu,fun c m=>.inl m⟩ rfl) ?_ ?_
 ·rintro G ⟨t,z3,z4,z5,z6,g,rfl⟩;exact h t z3 z4 z5 z6 ⟨g.ok,g.ext,g.full,fun c mc=>(g.q c mc).elim (fun w=>nM w) id⟩
 ·rintro c F0 G Kt mc ⟨t,z3,z4,z5,z6,g,rfl⟩ nxt _;refine gI (xH (f:=f) (A:=A c e.2) (vs:=[bi M.ws,shV e.2,text [c]]) (.cons (aa (.one ix) rfl) (.two ix ix)) h4 mo.m (hp c mc) fun y sy=>?_);have mk:=hm y sy.row;have c1:=g.come mo mk fun k q=>(hk k q).imp fun U w=>g.ext.inM w;have e1:=d4 t (kk,y);refine ut (e:=(kk,y)) (mv:=mvM M st en) (G:=[.v (kpV e.1),.v (shV e.2),.v (text [c]),.v (shV y),z5,z6]) mo Hj g.ok mk (hE _ _ _) ix ?_;refine y0 (mv:=mvM M st en) (kv:=.v (kpV e.1)) (G:=[z5,z6]) (t:=tt) (hd:=fun i=>hd i c) mo GG c1.1 (e1.inN (g.ext.inN (ok.mem e he))) (c1.1.mem _ (eU t _)) (fun i=>hv i c) (fun i=>IC i c mc) fun i j hi hj=>av (nxt _ ⟨(t.come (kk,y)).put (hd i c) j,_,_,_,_,?_,rfl⟩);have e2:=e1.trans (mH (t.come (kk,y)) (hd i c) j);refine ⟨c1.1.put (hr _ _ _ c mc ⟨e.2,y,eX hi,eX hj,sy.mem⟩),g.ext.trans e2,c1.2,fun c' L9=>(g.q c' L9).elim (fun w=>(mem_cons.mp w).elim (fun w=>.inr ?_) .inl) fun w=>.inr (w.ext e2)⟩;subst w;exact ⟨y,i,sy.mem,eU t _,eX hi,lR.mpr (.inl rfl)⟩
end
section
variable {cf:CallF} {M:Mc} {s:Mk} {e:Me} {st en:List Int} {r:List S} {K:GT}
def xV (M:Mc) (s t:Mk) (x q:Sh):Prop:=∀ k,(k,x)∈s.met->uO M t k x q
theorem Sh32.both (h:Sh32 M s x q [] t) (ex:Ext s0 s):xV M s0 t x q:=fun k mk c mc=>(h.all c mc).elim (fun w=>nM w) fun w=>w k (ex.inM mk)
inductive Im (M:Mc) (mv:V) (s:Mk) (e:Me) (P:List Me) (G:Gs):Prop
 | mk (t:Mk) (z3 z4 z5 z6:Slot) (h:G33 M s (fun t=>∀ q,(some e.2,q)∈s.met->(some e.2,q)∈P\/xV M s t e.2 q) t) (eG:G=[.obj (t.o mv M.ws),.v (kpV e.1),.v (shV e.2),z3,z4,z5,z6]):Im M mv s e P G
def vK (mo:M.Ok) (J9:S32 cf) (ok:Ok M s) (fu:dH s fun U=>False) (he:e∈s.met)
  (h:∀ t z3 z4 z5 z6,G33 M s (fun t=>∀ q,(some e.2,q)∈s.met->xV M s t e.2 q) t->exs cf r [.obj (t.o (mvM M st en) M.ws),.v (kpV e.1),.v (shV e.2),z3,z4,z5,z6] K) :
  exs cf (.mk (.forM [5,6]) [.nd .peekN [.nd .listOf [.nd (.attr 1 3) [vv 0]]]] yk [] :: r) [.obj (s.o (mvM M st en) M.ws),.v (kpV e.1),.v (shV e.2),z3,z4,z5,z6] K:=by
 have om:=ok.met e he;refine lM (g:=meV) (ws:=s.met) (I:=Im M (mvM M st en) s e) (rJ mo ok) (rV mo ok) ⟨s,_,_,_,_,⟨ok,.refl s,fu,fun q m=>.inl m⟩,rfl⟩ ?_ ?_
 ·rintro G ⟨t,z3,z4,z5,z6,g,rfl⟩;exact h t z3 z4 z5 z6 ⟨g.ok,g.ext,g.full,fun q m=>(g.q q m).elim (fun w=>nM w) id⟩
 ·rintro e' F0 G Kt me ⟨t,z3,z4,z5,z6,g,rfl⟩ nx _;refine (?_:exs cf yk [.obj (t.o (mvM M st en) M.ws),.v (kpV e.1),.v (shV e.2),z3,z4,.v (kpV e'.1),.v (shV e'.2)] Kt);have om':=ok.met e' me;refine bS (ab (x:=kpV e'.1) (y:=shV e.2) ix ix (Dl mo om'.kept om.row)) (fun z=>?_) fun z=>av (nx _ ⟨t,_,_,_,_,⟨g.ok,g.ext,g.full,fun q m=>(g.q q m).elim (fun w=>(mem_cons.mp w).elim (fun w=>absurd (w▸rfl:e'.1=some e.2) (of_decide_eq_false z)) .inl) .inr⟩,rfl⟩);have z:=IO z;obtain ⟨k',q'⟩:=e';subst z;refine eL (ob:=t.o (mvM M st en) M.ws) rfl (vs:=[shV e.2,shV q']) (.two ix ix) (J9 M st en t e.2 q' _ mo g.ok g.full (g.ext.inM me) fun t' U sh=>av (nx _ ⟨t',_,_,_,_,⟨sh.ok,g.ext.trans sh.ext,sh.full,fun q m=>(g.q q m).elim (fun w=>(mem_cons.mp w).elim (fun w=>.inr ?_) .inl) fun w=>.inr fun k mk=>(w k mk).ext sh.ext⟩,rfl⟩));injection w with _ w
  subst w;exact sh.both g.ext
end
structure Gone (M:Mc) (s:Mk) (e:Me) (t:Mk):Prop where
 ok:Ok M t
 ext:Ext s t
 full:dH t fun U=>False
 cl:Closed M t e
 a:∀ q,(some e.2,q)∈s.met->xV M s t e.2 q
 b:∀ o,e.1=some o->xV M s t o e.2
def S33 (cf:CallF):Prop:=∀ M st en s e K,M.Ok->Ok M s->(dH s fun U=>False)->e∈s.met->(∀ t y,Gone M s e t->K y (t.o (mvM M st en) M.ws))->cf.o 33 (s.o (mvM M st en) M.ws) [kpV e.1,shV e.2] K
def p33 (cf:CallF) (me:MethOk cf) (h4:S4 cf) (h6:S6 cf) (h7:S7 cf) (GG:S22 cf) (Hj:S24 cf) (J9:S32 cf):S33 (step cf):=fun M st en s e K mo ok fu he h=>by
 refine AS (fn:=f33) rfl rfl rfl ?_;have om:=ok.met e he;have sk:=mo.m.sk;refine oT (kk:=e.1) (A:=OnA M.ws) (hd:=.on) (f:=e.1.isSome) mo me h4 GG Hj ok fu he (by rfl) sk.lc (fun c mc K h=>h6 M.s0 M.s1 M.s2 M.R M.ws _ e.2 c K mo.m om.row.k (sk.lowC mc) h) (fun i c=>rfl) (fun i c mc=>sk.lowC mc) (fun t i j c mc r=>⟨mc,r⟩) (fun U U U=>ix) (fun y hy=>⟨hy,om.kept⟩) (fun k q=>ok.kept k e.2 (q▸he)) fun t1 U U U U g1=>?_;have MH:=g1.ext.inM he;refine oT (kk:=some e.2) (A:=OpA M.ws) (hd:=.op) (f:=true) mo me h4 GG Hj g1.ok g1.full MH (by rfl) sk.la (fun c mc K h=>h7 M.s0 M.s1 M.s2 M.R M.ws _ e.2 c K mo.m om.row.k (sk.lowA mc) h) (fun i c=>rfl) (fun i c mc=>sk.lowA mc) (fun t i j c mc r=>⟨mc,r⟩) (fun U U U=>ix) (fun y hy=>⟨hy,fun s q=>LE q▸⟨_,om.row⟩⟩) (fun k q=>LE q▸⟨e.1,MH⟩) fun t2 U U U U g2=>?_;have he2:=g2.ext.inM MH;have x2:=g1.ext.trans g2.ext;refine vK mo J9 g2.ok g2.full he2 fun t3 z3 z4 z5 z6 g3=>?_;have x3:=x2.trans g3.ext;have c3:Closed M t3 e:=⟨fun c mc=>(g1.q c mc).ext (g2.ext.trans g3.ext),fun c mc=>(g2.q c mc).ext g3.ext⟩;have a3:∀ q,(some e.2,q)∈s.met->xV M s t3 e.2 q:=fun q m k mk=>g3.q q (x2.inM m) k (x2.inM mk);obtain ⟨k,x⟩:=e;cases k with
 | none=>exact aM ix (av (h t3 _ ⟨g3.ok,x3,g3.full,c3,a3,nofun⟩))
 | some o=>
  refine fb ix (eL (ob:=t3.o (mvM M st en) M.ws) rfl (vs:=[shV o,shV x]) (.two ix ix) (J9 M st en t3 o x _ mo g3.ok g3.full (g3.ext.inM he2) fun t4 U sh=>av (h t4 _ ⟨sh.ok,x3.trans sh.ext,sh.full,c3.ext sh.ext,fun q m k mk=>(a3 q m k mk).ext sh.ext,fun o' q=>?_⟩)));injection q with q
  subst q;exact sh.both x3
structure Inv (M:Mc) (s:Mk):Prop where
 ok:Ok M s
 full:dH s fun U=>False
 cl:∀ e∈s.met,e∉s.wt->Closed M s e
 bo:∀ k x q,(k,x)∈s.met->(k,x)∉s.wt->(some x,q)∈s.met->(some x,q)∉s.wt->uO M s k x q
theorem OneC.wt (h:OneC A hd k s x c) (l:List Me):OneC A hd k { s with wt:=l } x c:=h.casesOn fun a b c d e f=>⟨a,b,c,d,e,f⟩
theorem BothC.wt (h:BothC M s k x q c) (l:List Me):BothC M { s with wt:=l } k x q c:=h.casesOn fun a b c d e f g h=>⟨a,b,c,d,e,f,g,h⟩
theorem Inv.turn (i:Inv M s) (hw:s.wt=l++[e]) (g:Gone M { s with wt:=l } e t):Inv M t:=by
 have one:∀ e',e'∈t.met->e'∉t.wt->e'∈s.met/\(e'∉s.wt\/e'=e):=fun e' m n=>by
  obtain ⟨h1,h2⟩:=g.ext.old m n;refine ⟨h1,?_⟩;by_cases q:e'=e
  ·exact .inr q
  ·refine .inl fun w=>?_;rw [hw] at w;exact (mem_append.mp w).elim h2 fun w=>q (zA6 w)
 refine ⟨g.ok,g.full,fun e' m n=>?_,fun k x q m1 n1 m2 n2=>?_⟩
 ·obtain ⟨h1,h2⟩:=one e' m n;rcases h2 with h2 | rfl
  ·have c:=i.cl e' h1 h2;exact Closed.ext (s:={ s with wt:=l }) ⟨fun x m=>(c.on x m).wt l,fun x m=>(c.op x m).wt l⟩ g.ext
  ·exact g.cl
 ·obtain ⟨h1,Jb⟩:=one _ m1 n1;obtain ⟨h2,K'⟩:=one _ m2 n2;rcases Jb with Jb | Jb
  ·rcases K' with K' | K'
   ·exact uO.ext (s:={ s with wt:=l }) (fun c m=>(i.bo k x q h1 Jb h2 K' c m).wt l) g.ext
   ·exact (K'▸g.b) x rfl k h1
  ·exact (Jb▸g.a) q h2 k h1
inductive Iw (M:Mc) (mv:V) (x0:Sh) (a b:Slot) (G0:Gs) (n:Nat) (G:Gs):Prop
 | mk (s:Mk) (z3 z4:Slot) (i:Inv M s) (h0:s.num[0]?=some x0/\(none,x0)∈s.met) (en:n=2 * (1056 - s.met.length)+s.wt.length) (eG:G=a :: b :: .obj (s.o mv M.ws) :: z3 :: z4 :: G0):Iw M mv x0 a b G0 n G
def Cl (ok:Ok M s) (hw:s.wt=l++[e]):Ok M { s with wt:=l }:=⟨ok.num,ok.nd,ok.met,ok.mnd,fun x m=>ok.wt x (by rw [hw]; exact Qc _ m),(nodup_append.mp (hw▸ok.wnd)).1,ok.mem,ok.kept,ok.made,ok.mdn⟩
def Fz (h:a+l<=1056):2 * (1056 - (a+l))+(w+l) < 2 * (1056 - a)+(w+1):=by omega
def t8 (mo:M.Ok) (K7:S33 cf) (i:Inv M s) (h0:s.num[0]?=some x0/\(none,x0)∈s.met) (h:∀ t z3 z4,Inv M t->(t.num[0]?=some x0/\(none,x0)∈t.met)->t.wt=[]->exs cf r (a :: b :: .obj (t.o (mvM M st en) M.ws) :: z3 :: z4 :: G0) K) :
  exs cf (.mk .while [Bx] Bw [] :: r) (a :: b :: .obj (s.o (mvM M st en) M.ws) :: z3 :: z4 :: G0) K:=by
 refine yF (P:=Iw M (mvM M st en) x0 a b G0) ⟨s,z3,z4,i,h0,rfl,rfl⟩ ?_;rintro n G ⟨s,z3,z4,i,h0,rfl,rfl⟩;have fl:fj (.list (s.wt.map meV))=true:=ck (n:=5) (cB fun x mx=>by
  obtain ⟨e,me,rfl⟩:=zA7 mx;have:=(i.ok.met e (i.ok.wt e me)).key mo.m;exact bX fun y my=>mA (n:=3) (Q6.mp this y my)) (by decide)
 refine ⟨!(s.wt.map meV).isEmpty,bn (ab (x:=.list (s.wt.map meV)) (y:=.list []) (aa (.one ix) rfl) ix (NO (Option.map (!·)) (yB fl:eqO (.list (s.wt.map meV)) (.list [])=_))) rfl,fun q Kt nx rt=>?_,fun q=>?_⟩
 ·have ne:s.wt≠[]:=fun e=>by rw [e] at q; exact nB q
  obtain ⟨l,e,hw⟩:∃ l e,s.wt=l++[e]:=⟨_,_,(List.dropLast_concat_getLast ne).symm⟩;have me:e∈s.met:=i.ok.wt e (by rw [hw]; exact mem_append_right _ (.head _));have GJ:=Cl i.ok hw;have lw:=GJ.wl mo;have hl:qC (s.o (mvM M st en) M.ws) 4=some (l.map meV++[meV e]):=NO some (by rw [hw,map_append]; rfl);refine yH (ob:=s.o (mvM M st en) M.ws) (l:=l.map meV) (y:=meV e) rfl hl (by rw [zA4]; exact Q0 lw (by decide)) (ag (z:=a :: b :: .obj (({ s with wt:=l }:Mk).o (mvM M st en) M.ws) :: .v (kpV e.1) :: .v (shV e.2) :: G0) rfl ?_);refine eL (ob:=({ s with wt:=l }:Mk).o (mvM M st en) M.ws) rfl (vs:=[kpV e.1,shV e.2]) (.two ix ix) (K7 M st en { s with wt:=l } e _ mo GJ i.full me fun t U g=>av (nx _ _ ?_ ⟨t,_,_,i.turn hw g,⟨g.ext.get h0.1,g.ext.inM h0.2⟩,rfl,rfl⟩));obtain ⟨l',e1,e2⟩:=g.ext.met;have e1:t.met=s.met++l':=e1;have e2:t.wt=l++l':=e2;have ml:=g.ok.ml mo;rw [e1,zB5] at ml;rw [e1,e2,hw,zB5,zB5,zB5];exact Fz ml
 ·have hw:s.wt=[]:=map_eq_nil_iff.mp (isEmpty_iff.mp (fk q));exact h s z3 z4 i h0 hw
noncomputable def mk0:Mk:=⟨[],[],[],[]⟩
def xe:Ok M mk0:=⟨fun U m=>nM m,.nil,fun U m=>nM m,.nil,fun U m=>nM m,.nil,fun U m=>nM m,fun U U m=>nM m,fun U m=>nM m,.nil⟩
def u5 (x:Sh):(mk0.come (none,x)).num[0]?=some x:=by
 rw [pG];unfold Mk.add;rw [NQ (show ¬ (none,x).snd∈mk0.num from fun q=>nM (x:=x) q)]; rfl
def uc (hx:Row M.R M.ws false x):Inv M (mk0.come (none,x)):=by
 have ok:=xe.come (e:=(none,x)) ⟨hx,nofun⟩ nofun;have fu:dH mk0 (·=x):=fun U m=>nM m;obtain ⟨l,e1,e2⟩:=(d4 mk0 (none,x)).met;have same:∀ e,e∈(mk0.come (none,x)).met->e∈(mk0.come (none,x)).wt:=fun e m=>by
  rw [e1] at m;rw [e2];exact m
 exact ⟨ok,fu.come (e:=(none,x)),fun e m n=>absurd (same e m) n,fun k y q m n=>absurd (same _ m) n⟩
def dAt (d:List (Hd×Nat)) (h:Hd):Int:=((lk d h).getD 0:Nat)
def wOf (d:List (Hd×Nat)):Hd->W
 | .on i c=>.on i c (dAt d (.on i c))
 | .op i c=>.op i c (dAt d (.op i c)) i
 | .cl i k c=>.cl i k c (dAt d (.cl i k c))
def wV (d:List (Hd×Nat)) (h:Hd):V:=(wOf d h).v
noncomputable def clH (n i c:Nat):List Hd:=(List.range n).map fun k=>.cl i k c
def w5 (s0 s1 s2:List Nat) (n i:Nat):List Hd:=s2.map (Hd.on i)++(s0.map (Hd.op i)++s1.flatMap (clH n i))
def jw (s0 s1 s2:List Nat) (n:Nat):List Hd:=(List.range n).flatMap (w5 s0 s1 s2 n)
def sK (hd:∀ e∈d,e.1.ok) (hk:h.ok):bt (mdV d) h.v=(lk d h).map aR:=b0 (f:=Hd.v) (g:=aR) (fun U U=>nE) (bf hk) fun e me=>bf (hd e me)
def yo (hd:∀ e∈d,e.1.ok):dkV (mdV d)=true:=Q6.mpr fun p mp=>by
 obtain ⟨e,me,rfl⟩:=zA7 mp;exact bf (hd e me)
def wT (hd:∀ e∈d,e.1.ok) (hk:h.ok) (hs:h∈d.map (·.1)):opN .sub [.dict (mdV d),h.v]=some (.int (dAt d h)):=by
 obtain ⟨j,e⟩:=o6 hs;refine (?_:(if (dkV (mdV d)&&aZ h.v)=true then bt (mdV d) h.v else none)=_);rw [NP (zA3 ⟨yo hd,bf hk⟩),sK hd hk,dAt,e]; rfl
def CW (hd:∀ e∈d,e.1.ok) (hk:h.ok):opN .getD [.dict (mdV d),h.v,.int 0]=some (.int (dAt d h)):=by
 refine (?_:(if (dkV (mdV d)&&aZ h.v)=true then some ((bt (mdV d) h.v).getD (.int 0)) else none)=_);rw [NP (zA3 ⟨yo hd,bf hk⟩),sK hd hk,dAt];cases lk d h <;> rfl
def jU {K:GT} {α:Type} {g:α->V} {xs:List α} {F:List Hd->Gs->Prop} {f:α->List Hd} {acc:List Hd} {N:Nat} (hs:Val cf G s v) (hq:a9 v=some (xs.map g)) (h0:F acc G) (hN:(acc++xs.flatMap f).length<=N)
  (turn:∀ x acc G Kt,x∈xs->F acc G->(acc++f x).length<=N->(∀ G',F (acc++f x) G'->Kt none G')->exs cf body (G.set k (.v (g x))) Kt) (done:∀ G,F (acc++xs.flatMap f) G->exs cf r G K):exs cf (.mk (.forS k) [s] body [] :: r) G K:=by
 refine eM (I:=fun F0 G=>∃ a,a++F0.flatMap f=acc++xs.flatMap f/\F a G) hs hq ⟨acc,rfl,h0⟩ ?_ ?_
 ·rintro G ⟨a,e,h⟩;refine done G (e▸?_);rw [List.flatMap_nil,append_nil]; exact h
 ·rintro w F0 G Kt mw ⟨a,e,h⟩ nx _;rw [flatMap_cons,<- Qa] at e;refine turn w a G Kt mw h ?_ fun G' h'=>nx G' ⟨_,e,h'⟩;rw [<- e,zB5] at hN;exact zB1 (Q3 _ _) hN
def iD (h:Val cf G e (aR n)) (hz:n<=1000):Val cf G (.nd .range [e]) (.list ((List.range n).map aR)):=by
 have q:=c7 (n:=(n:Int)) h (natCast_nonneg n) (ofNat_le.mpr hz);rw [range_eq,toNat_natCast] at q;rw [show aR=fun i:Nat=>PyData.int (0+(i:Int)) from funext fun i=>by rw [Int.zero_add]; rfl];exact q
def iM (hz:n<=1000):a9 (.list ((List.range n).map aR))=some ((List.range n).map aR):=aT (by rw [zA4,length_range]; exact zB1 hz (by decide))
def xc (f:α->β) (l:List α):(l.flatMap fun x=>[f x])=l.map f:=List.map_eq_flatMap.symm
def g36 (ov:V) (n:Nat) (s0 s1 s2:List Nat) (d:List (Hd×Nat)) (acc:List Hd) (z6 z7 z8:Slot):Gs:=[.v ov,.v (aR n),.v (text s0),.v (text s1),.v (text s2),.ownL (acc.map (wV d)),z6,z7,z8]
inductive I36 (ov:V) (n:Nat) (s0 s1 s2:List Nat) (d:List (Hd×Nat)) (acc:List Hd) (G:Gs):Prop
 | mk (z6 z7 z8:Slot) (e:G=g36 ov n s0 s1 s2 d acc z6 z7 z8):I36 ov n s0 s1 s2 d acc G
inductive I36a (ov:V) (n:Nat) (s0 s1 s2:List Nat) (d:List (Hd×Nat)) (i:Nat) (acc:List Hd) (G:Gs):Prop
 | mk (z7 z8:Slot) (e:G=g36 ov n s0 s1 s2 d acc (.v (aR i)) z7 z8):I36a ov n s0 s1 s2 d i acc G
inductive I36b (ov:V) (n:Nat) (s0 s1 s2:List Nat) (d:List (Hd×Nat)) (i c:Nat) (acc:List Hd) (G:Gs):Prop
 | mk (z8:Slot) (e:G=g36 ov n s0 s1 s2 d acc (.v (aR i)) (.v (text [c])) z8):I36b ov n s0 s1 s2 d i c acc G
def qU (h:Val cf (g36 ov n s0 s1 s2 d acc z6 z7 z8) e (wV d hd)) (hN:(acc++[hd]).length<=4000) (nx:K none (g36 ov n s0 s1 s2 d (acc++[hd]) z6 z7 z8)):exs cf [.mk (.append 5) [e] [] []] (g36 ov n s0 s1 s2 d acc z6 z7 z8) K:=by
 rw [zB5] at hN;refine dS (l:=acc.map (wV d)) rfl h (by rw [zA4]; exact Q1 hN (by decide)) (av ?_);have e:(acc++[hd]).map (wV d)=acc.map (wV d)++[wV d hd]:=map_append;unfold g36 at nx;rw [e] at nx;exact nx
def S36 (cf:CallF):Prop:=∀ M st en s K,M.Ok->Ok M s->(∀ i < s.num.length,(∀ c∈M.s2,Hd.on i c∈s.made.map (·.1))/\∀ c∈M.s0,Hd.op i c∈s.made.map (·.1))->(jw M.s0 M.s1 M.s2 s.num.length).length<=4000->K (.list ((jw M.s0 M.s1 M.s2 s.num.length).map (wV s.made)))->cf.p 36 [(s.o (mvM M st en) M.ws).v,aR s.num.length] K
def p36 (cf:CallF) (me:MethOk cf):S36 (step cf):=fun M st en s K mo ok ha hN h=>by
 refine run (fn:=f36) rfl rfl rfl ?_;have nl:s.num.length<=1000:=zB1 (ok.nl mo) (by decide);have md:=(ok.fits mo).made;have sk:=mo.m.sk;have M7:∀ {n:Nat} {d:List (Hd×Nat)} {acc z6 z7 z8},Val cf (g36 (s.o (mvM M st en) M.ws).v n M.s0 M.s1 M.s2 d acc z6 z7 z8) (.nd (.attr 1 5) [vv 0]) (.dict (mdV s.made)):=aa (.one ix) rfl;refine d8 (v:=sg M.s0 M.s1 M.s2) (bN (x:=mvM M st en) (aa (.one ix) rfl) rfl .nil fun K h=>me.m9 _ _ _ _ _ K h) (G':=[.v (s.o (mvM M st en) M.ws).v,.v (aR s.num.length),.v (text M.s0),.v (text M.s1),.v (text M.s2),.unset,.unset,.unset,.unset]) rfl (jT ?_);refine jU (xs:=List.range s.num.length) (g:=aR) (F:=I36 (s.o (mvM M st en) M.ws).v s.num.length M.s0 M.s1 M.s2 s.made) (f:=w5 M.s0 M.s1 M.s2 s.num.length) (acc:=[]) (N:=4000) (iD ix nl) (iM nl) ⟨_,_,_,rfl⟩ hN ?_ ?_
 ·rintro i acc G Kt mi ⟨z6,z7,z8,rfl⟩ hN nx;have hi:=ha i (mem_range.mp mi);have l0:(acc++M.s2.map (Hd.on i)).length<=4000/\(acc++M.s2.map (Hd.on i)++M.s0.map (Hd.op i)).length<=4000/\(acc++M.s2.map (Hd.on i)++M.s0.map (Hd.op i)++M.s1.flatMap (clH s.num.length i)).length<=4000:=by
   unfold w5 at hN;rw [<- Qa,<- Qa] at hN;refine ⟨?_,?_,hN⟩
   ·rw [zB5,zB5] at hN; omega
   ·rw [zB5] at hN; omega
  refine jU (xs:=M.s2) (g:=fun c=>text [c]) (F:=I36a (s.o (mvM M st en) M.ws).v s.num.length M.s0 M.s1 M.s2 s.made i) (f:=fun c=>[Hd.on i c]) (acc:=acc) (N:=4000) ix (c8 sk.lc) ⟨_,_,rfl⟩ (by rw [xc]; exact l0.1) ?_ ?_
  ·rintro c acc G Kt mc ⟨z7,z8,rfl⟩ hN nx;exact qU (z7:=.v (text [c])) (hd:=.on i c) (aa (.cons (v:=.str kOn) ix (.cons (v:=aR i) ix (.two (x:=text [c]) ix (aa (vs:=[.dict (mdV s.made),(Hd.on i c).v]) (.two M7 ix) (wT md (h:=.on i c) (sk.lowC mc) (hi.1 c mc)))))) rfl) hN (nx _ ⟨_,_,rfl⟩)
  ·rw [xc];rintro G ⟨z7,z8,rfl⟩;refine jU (xs:=M.s0) (g:=fun c=>text [c]) (F:=I36a (s.o (mvM M st en) M.ws).v s.num.length M.s0 M.s1 M.s2 s.made i) (f:=fun c=>[Hd.op i c]) (N:=4000) ix (c8 sk.la) ⟨_,_,rfl⟩ (by rw [xc]; exact l0.2.1) ?_ ?_
   ·rintro c acc G Kt mc ⟨z7,z8,rfl⟩ hN nx;exact qU (z7:=.v (text [c])) (hd:=.op i c) (aa (.cons (v:=.str a6) ix (.cons (v:=aR i) ix (.cons (v:=text [c]) ix (.two (aa (vs:=[.dict (mdV s.made),(Hd.op i c).v]) (.two M7 ix) (wT md (h:=.op i c) (sk.lowA mc) (hi.2 c mc))) ix)))) rfl) hN (nx _ ⟨_,_,rfl⟩)
   ·rw [xc];rintro G ⟨z7,z8,rfl⟩;refine jU (xs:=M.s1) (g:=fun c=>text [c]) (F:=I36a (s.o (mvM M st en) M.ws).v s.num.length M.s0 M.s1 M.s2 s.made i) (f:=clH s.num.length i) (N:=4000) ix (c8 sk.lb) ⟨_,_,rfl⟩ l0.2.2 ?_ ?_
    ·rintro c acc G Kt mc ⟨z7,z8,rfl⟩ hN nx;refine jU (xs:=List.range s.num.length) (g:=aR) (F:=I36b (s.o (mvM M st en) M.ws).v s.num.length M.s0 M.s1 M.s2 s.made i c) (f:=fun k=>[Hd.cl i k c]) (acc:=acc) (N:=4000) (iD ix nl) (iM nl) ⟨_,rfl⟩ (by rw [xc]; exact hN) ?_ ?_
     ·rintro k acc G Kt mk ⟨z8,rfl⟩ hN nx;exact qU (z8:=.v (aR k)) (hd:=.cl i k c) (aa (.cons (v:=.str aC) ix (.cons (v:=aR i) ix (.cons (v:=aR k) ix (.two (x:=text [c]) ix (oB (x:=.dict (mdV s.made)) (vs:=[(Hd.cl i k c).v,.int 0]) M7 (yo md) (.two ix ix) (CW md (h:=.cl i k c) (sk.lowB mc))))))) rfl) hN (nx _ ⟨_,rfl⟩)
     ·rw [xc];rintro G ⟨z8,rfl⟩;exact av (nx _ ⟨_,_,rfl⟩)
    ·rintro G ⟨z7,z8,rfl⟩;exact av (nx _ ⟨.v (aR i),z7,z8,by unfold w5; rw [<- Qa,<- Qa]⟩)
 ·rintro G ⟨z6,z7,z8,rfl⟩;exact fO (l:=(jw M.s0 M.s1 M.s2 s.num.length).map (wV s.made)) rfl (aB ix h)
theorem fq {α β:Type} {f:α->List β}:∀ {l:List α},l.Nodup->(∀ a∈l,(f a).Nodup)->(∀ a b x,x∈f a->x∈f b->a=b)->(l.flatMap f).Nodup
 | [],_,_,_=>.nil
 | a :: l,nd,h,d=>by
  have nd:=nodup_cons.mp nd;rw [flatMap_cons];refine nodup_append.mpr ⟨h a (.head _),fq nd.2 (fun b m=>h b (.tail _ m)) d,fun x hx y hy e=>?_⟩;obtain ⟨b,mb,hy⟩:=mem_flatMap.mp hy;exact nd.1 (d a b x hx (e▸hy)▸mb)
theorem gh {α β:Type} {f:α->List β}:∀ {l:List α},(∀ a∈l,(f a).length=n)->(l.flatMap f).length=l.length * n
 | [],_=>(Nat.zero_mul n).symm
 | a :: l,h=>by rw [flatMap_cons,zB5,zB4,succ_mul,add_comm,h a (.head _),gh fun b m=>h b (.tail _ m)]
def gL {α β:Type} {f:α->β} {l:List α} (h:l.Nodup) (hf:∀ a b,f a=f b->a=b):(l.map f).Nodup:=pairwise_map.mpr (h.imp fun n e=>n (hf _ _ e))
noncomputable def Hd.i:Hd->Nat
 | .on i _=>i
 | .op i _=>i
 | .cl i _ _=>i
def AT (h:x∈w5 s0 s1 s2 n i):x.i=i:=by
 rcases mem_append.mp h with h | h
 ·obtain ⟨c,_,rfl⟩:=zA7 h; rfl
 ·rcases mem_append.mp h with h | h
  ·obtain ⟨c,_,rfl⟩:=zA7 h; rfl
  ·obtain ⟨c,_,h⟩:=mem_flatMap.mp h;obtain ⟨k,_,rfl⟩:=zA7 h; rfl
def jv (sk:SgOk s0 s1 s2):(jw s0 s1 s2 n).Nodup:=by
 have nd:=nodup_append.mp sk.nodup;have nd':=nodup_append.mp nd.1;refine fq nodup_range (fun i U=>?_) fun a b x ha hb=>(AT ha).symm.trans (AT hb);refine nodup_append.mpr ⟨gL nd.2.1 fun a b e=>by injection e,nodup_append.mpr ⟨gL nd'.1 fun a b e=>by injection e,fq nd'.2.1 (fun c U=>gL nodup_range fun a b e=>by injection e) ?_,?_⟩,?_⟩
 ·intro a b x ha hb;obtain ⟨k,_,rfl⟩:=zA7 ha;obtain ⟨j,_,e⟩:=zA7 hb;injection e with _ _ e
  exact e.symm
 ·intro x hx y hy e;obtain ⟨c,_,rfl⟩:=zA7 hx;obtain ⟨d,_,hy⟩:=mem_flatMap.mp hy;obtain ⟨k,_,rfl⟩:=zA7 hy;injection e
 ·intro x hx y hy e;obtain ⟨c,_,rfl⟩:=zA7 hx;rcases mem_append.mp hy with hy | hy
  ·obtain ⟨d,_,rfl⟩:=zA7 hy;injection e
  ·obtain ⟨d,_,hy⟩:=mem_flatMap.mp hy;obtain ⟨k,_,rfl⟩:=zA7 hy;injection e
def pK (s0 s1 s2:List Nat) (n:Nat):(jw s0 s1 s2 n).length=n * (s2.length+(s0.length+s1.length * n)):=by
 refine (gh (n:=s2.length+(s0.length+s1.length * n)) fun i U=>?_).trans (by rw [length_range]);unfold w5;rw [zB5,zB5,zA4,zA4,gh (n:=n) fun c U=>by unfold clH; rw [zA4,length_range]]
noncomputable def HIn (s0 s1 s2:List Nat) (n:Nat):Hd->Prop
 | .on i c=>i < n/\c∈s2
 | .op i c=>i < n/\c∈s0
 | .cl i k c=>i < n/\k < n/\c∈s1
def gt:h∈jw s0 s1 s2 n ↔ HIn s0 s1 s2 n h:=by
 constructor
 ·intro m;obtain ⟨i,mi,m⟩:=mem_flatMap.mp m;have mi:=mem_range.mp mi;rcases mem_append.mp m with m | m
  ·obtain ⟨c,mc,rfl⟩:=zA7 m; exact ⟨mi,mc⟩
  ·rcases mem_append.mp m with m | m
   ·obtain ⟨c,mc,rfl⟩:=zA7 m; exact ⟨mi,mc⟩
   ·obtain ⟨c,mc,m⟩:=mem_flatMap.mp m;obtain ⟨k,mk,rfl⟩:=zA7 m;exact ⟨mi,mem_range.mp mk,mc⟩
 ·intro m;cases h with
  | on i c=>exact mem_flatMap.mpr ⟨i,mem_range.mpr m.1,Qc _ (mem_map.mpr ⟨c,m.2,rfl⟩)⟩
  | op i c=>exact mem_flatMap.mpr ⟨i,mem_range.mpr m.1,mem_append_right _ (Qc _ (mem_map.mpr ⟨c,m.2,rfl⟩))⟩
  | cl i k c=>exact mem_flatMap.mpr ⟨i,mem_range.mpr m.1,mem_append_right _ (mem_append_right _ (mem_flatMap.mpr ⟨c,m.2.2,mem_map.mpr ⟨k,mem_range.mpr m.2.1,rfl⟩⟩))⟩
def dN (d:List (Hd×Nat)) (h:Hd):Nat:=(lk d h).getD 0
inductive OneP (A:Sh->Pa->Prop) (k:Option Sh) (num:List Sh) (met:List Me) (n:Nat) (x:Sh):Prop
 | mk (t:Sh) (e:num[n]?=some t) (m:(k,t)∈met) (h:∀ p,p∈t ↔ A x p):OneP A k num met n x
structure Pl (M:Mc) (x0:Sh) (num:List Sh) (met:List Me) (d:List (Hd×Nat)):Prop where
 z:num[0]?=some x0
 z':(none,x0)∈met
 few:num.length<=32
 lt:∀ h,HIn M.s0 M.s1 M.s2 num.length h->dN d h < num.length
 on:∀ k x i c,(k,x)∈met->num[i]?=some x->c∈M.s2->OneP (OnA M.ws c) k num met (dN d (.on i c)) x
 op:∀ k x i c,(k,x)∈met->num[i]?=some x->c∈M.s0->OneP (OpA M.ws c) (some x) num met (dN d (.op i c)) x
 cl:∀ k x q i j c,(k,x)∈met->(some x,q)∈met->num[i]?=some q->num[j]?=some x->c∈M.s1->OneP (ClA M.ws c x) k num met (dN d (.cl i j c)) q
def eR {α:Type} {l:List α} {i:Nat} {x:α} (h:l[i]?=some x):i < l.length:=(List.getElem?_eq_some_iff.mp h).1
def jM {α:Type} {l:List α} {i j:Nat} {x:α} (nd:l.Nodup) (h:l[i]?=some x) (h':l[j]?=some x):i=j:=(getElem?_inj (eR h) nd).mp (h.trans h'.symm)
theorem OneC.at {s:Mk} {n:Nat} (nd:s.num.Nodup) (h:OneC A hd k s x c) (e:s.num[n]?=some x):hd n c∈s.made.map (·.1):=h.casesOn fun t i U U hi hm=>jM nd e hi▸hm
section
variable {M:Mc} {s:Mk} (mo:M.Ok) (i:Inv M s) (hw:s.wt=[])
include mo i hw
omit mo in
theorem Inv.closed (m:e∈s.met):Closed M s e:=i.cl e m (by rw [hw]; exact not_mem_nil)
omit mo in
theorem Inv.both (m:(k,x)∈s.met) (m':(some x,q)∈s.met):uO M s k x q:=i.bo k x q m (by rw [hw]; exact not_mem_nil) m' (by rw [hw]; exact not_mem_nil)
omit mo in
theorem Inv.heads (hn:n < s.num.length):(∀ c∈M.s2,Hd.on n c∈s.made.map (·.1))/\∀ c∈M.s0,Hd.op n c∈s.made.map (·.1):=
 have e:s.num[n]?=some s.num[n]:=Q8 hn
 ((i.full _ (getElem_mem hn)).elim False.elim id).elim fun k m=>⟨fun x mx=>((i.closed hw m).on x mx).at i.ok.nd e,fun x mx=>((i.closed hw m).op x mx).at i.ok.nd e⟩
omit hw in
theorem Inv.same {A:Pa->Prop} (m:t∈s.num) (m':t'∈s.num) (e:∀ p,p∈t ↔ A p) (e':∀ p,p∈t' ↔ A p):t=t':=(i.ok.num _ m).elim fun f r=>(i.ok.num _ m').elim fun f' r'=>oN mo.m r r' fun p=>(e p).trans (e' p).symm
omit mo hw in
theorem Inv.right (m:h∈s.made.map (·.1)):fz M s h (dN s.made h):=by
 obtain ⟨b,e⟩:=o6 m;unfold dN;rw [e];exact i.ok.made _ (dp e)
omit hw in
theorem Inv.one {A:Nat->Sh->Pa->Prop} {hd:Nat->Nat->Hd} (h:OneC A hd k s x c) (r:∀ i j,fz M s (hd i c) j->Rt (A c) s.num i j) (e:s.num[n]?=some x):OneP (A c) k s.num s.met (dN s.made (hd n c)) x:=by
 have r:=r _ _ (i.right (h.at i.ok.nd e));obtain ⟨t,j,ht,mt,hj,hm⟩:=h;obtain ⟨x',t',e1,e2,e3⟩:=r;obtain rfl:=LE (e.symm.trans e1);obtain rfl:=i.same mo (i.ok.mem _ mt) (mem_of_getElem? e2) ht e3;exact ⟨t,e2,mt,ht⟩
theorem Inv.plain (h0:s.num[0]?=some x0/\(none,x0)∈s.met):Pl M x0 s.num s.met s.made:=by
 refine ⟨h0.1,h0.2,i.ok.nl mo,fun h hin=>?_,fun k x n c m e mc=>i.one mo ((i.closed hw m).on c mc) (fun U U r=>r.2) e,fun k x n c m e mc=>i.one mo ((i.closed hw m).op c mc) (fun U U r=>r.2) e,fun k x q n j c m m' e e' mc=>?_⟩
 ·by_cases q:h∈s.made.map (·.1)
  ·have r:=i.right q;cases h with
   | cl i k c=>exact r.2.casesOn fun U U U U U e U=>eR e
   | _ i c=>exact r.2.casesOn fun U U U e U=>eR e
  ·have:dN s.made h=0:=by unfold dN; rw [look_none.mpr q]; rfl
   rw [this]; exact eR h0.1
 ·obtain ⟨t,a,b,ht,mt,ha,hb,hm⟩:=i.both hw m m' c mc;obtain rfl:=jM i.ok.nd e ha;obtain rfl:=jM i.ok.nd e' hb;obtain ⟨_,q',x',t',e1,e2,e3,e4⟩:=i.right hm;obtain rfl:=LE (e.symm.trans e1);obtain rfl:=LE (e'.symm.trans e2);obtain rfl:=i.same mo (i.ok.mem _ mt) (mem_of_getElem? e3) ht e4;exact ⟨t,e3,mt,ht⟩
end
def kY (sg:Sg2 s0 s1 s2) (h:n<=32):(jw s0 s1 s2 n).length<=4000:=by
 rw [pK];exact zB1 (Nat.mul_le_mul h (add_le_add sg.lc (add_le_add sg.la (Nat.mul_le_mul sg.lb h)))) (by decide)
theorem Pl.ok (sk:SgOk M.s0 M.s1 M.s2) (p:Pl M x0 num met d) (hh:HIn M.s0 M.s1 M.s2 num.length h):W.ok M.s0 M.s1 M.s2 num.length (wOf d h):=by
 have IU:∀ {i:Nat},i < num.length->In num.length i:=fun h=>⟨natCast_nonneg _,ofNat_lt.mpr h⟩;have lt:=p.lt h hh;cases h with
 | on i c=>exact ⟨IU hh.1,hh.2,IU lt⟩
 | op i c=>exact ⟨IU hh.1,hh.2,IU lt,IU hh.1⟩
 | cl i k c=>exact ⟨IU hh.1,IU hh.2.1,hh.2.2,IU lt⟩
def yy:aO .In (.int q) (ar en)=some (decide (q∈en)):=by
 have h:(en.map PyData.int).any (fun x=>PyData.eqv x (.int q))=true ↔ q∈en:=by
  rw [any_eq_true];constructor
  ·rintro ⟨x,mx,e⟩;obtain ⟨i,mi,rfl⟩:=zA7 mx;exact Id (show (i==q)=true from e)▸mi
  ·exact fun h=>⟨_,mem_map.mpr ⟨q,h,rfl⟩,(NJ q:(q==q)=true)⟩
 refine (NP (by rw [ck (x:=.int q) (cG rfl) (by decide),ck (n:=1) (cB fun x mx=>by obtain ⟨i,_,rfl⟩:=zA7 mx; exact cG rfl) (by decide)]; rfl)).trans (NO some ?_);by_cases z:q∈en
 ·rw [NL z]; exact h.mpr z
 ·rw [NM z]; exact eq_false_iff.mpr fun w=>z (h.mp w)
noncomputable def endP (en:List Int) (p:Pa):Bool:=decide (p.1.isNone=true)&&decide (p.2∈en)
def gH (en:List Int) (x:Sh):Bool:=x.any (endP en)
def gk (en:List Int) (tb:Bool) (num:List Sh):List Int:=(num.zipIdx.filter fun e=>gH en e.1 != tb).map fun e=>(e.2:Int)
def EO {p:Pa} (m:MOk s0 s1 s2 R ws) (h:Bg ws f p.1):aO .Eq (bV p.1) (.tuple [.int (-1)])=some (decide (p.1.isNone=true)):=
 yA (x:=bV p.1) (y:=bV none) (BP m h 3) (BP (f:=false) (b:=none) m rfl 3) ⟨fun e=>by rw [yC (b:=none) e]; rfl,fun e=>by rw [isNone_iff_eq_none.mp e]⟩
inductive Ie (Hu IN JT Ht HO HN JS:Slot) (en:List Int) (x:Sh) (F0:List Pa) (G:Gs):Prop
 | mk (b:Bool) (GP G7:Slot) (eb:(b||F0.any (endP en))=gH en x) (e:G=[Hu,IN,JT,Ht,.v (shV x),HO,HN,JS,.v (ar en),.v (.bool b),GP,G7]):Ie Hu IN JT Ht HO HN JS en x F0 G
def wz (m:MOk s0 s1 s2 R ws) (hx:Row R ws f x)
  (h:∀ GP G7,exs cf r [Hu,IN,JT,Ht,.v (shV x),HO,HN,JS,.v (ar en),.v (.bool (gH en x)),GP,G7] K) :
  exs cf (.mk (.forM [10,11]) [vv 4] yj [] :: r) [Hu,IN,JT,Ht,.v (shV x),HO,HN,JS,.v (ar en),.v (.bool false),GP,G7] K:=by
 refine lM (g:=pV) (ws:=x) (I:=Ie Hu IN JT Ht HO HN JS en x) ix (j4 m hx.k) ⟨false,_,_,rfl,rfl⟩ ?_ ?_
 ·rintro G ⟨b,GP,G7,eb,rfl⟩;rw [List.any_nil,Bool.or_false] at eb;subst eb;exact h GP G7
 ·rintro p F0 G Kt mp ⟨b,GP,G7,eb,rfl⟩ nx _;refine (?_:exs cf yj [Hu,IN,JT,Ht,.v (shV x),HO,HN,JS,.v (ar en),.v (.bool b),.v (bV p.1),.v (.int p.2)] Kt);refine ai (v:=.bool (b||endP en p)) (bH (.or ix fun U=>.one' (aE (.and (ab (x:=bV p.1) ix ix (EO m (hx.k.ok p mp).1)) fun U=>.one (ab (x:=.int p.2) (y:=ar en) ix ix yy))))) (av (nx _ ⟨b||endP en p,_,_,?_,rfl⟩));rw [<- eb,any_cons,Bool.or_assoc]
def Cs (m:MOk s0 s1 s2 R ws) (h:∀ x∈l,∃ f,Row R ws f x) (hl:l.length<=40):a9 (.dict (nuV l))=some (l.zipIdx.map fun e=>shV e.1):=by
 have e:(nuV l).length=l.length:=by unfold nuV; rw [zA4,length_zipIdx]
 refine (NP (uI m h)).trans ((NP (bT (by rw [e]; exact zB1 hl (by decide)))).trans (NO some ?_));unfold nuV;rw [map_map]; rfl
inductive If38 (Hu Ht HO HN ov:Slot) (en:List Int) (tb:Bool) (num:List Sh) (F0:List (Sh×Nat)) (G:Gs):Prop
 | mk (acc:List Int) (z4 z9 GP G7:Slot) (ea:acc++(F0.filter fun e=>gH en e.1 != tb).map (fun e=>(e.2:Int))=gk en tb num) (e:G=[Hu,.v (.bool tb),ov,Ht,z4,HO,HN,.ownL (acc.map .int),.v (ar en),z9,GP,G7]):If38 Hu Ht HO HN ov en tb num F0 G
def px (en:List Int) (tb:Bool) (num:List Sh):(gk en tb num).length<=num.length:=by
 unfold gk;rw [zA4];exact zB1 (length_filter_le _ _) (zB2 (length_zipIdx))
def BM (a b:Bool):aO .NotEq (.bool a) (.bool b)=some (a != b):=by
 cases a <;> cases b <;> rfl
def uq (mo:M.Ok) (ok:Ok M s)
  (h:∀ z4 z9 GP G7,exs cf r [Hu,.v (.bool tb),.v (s.o mv M.ws).v,Ht,z4,HO,HN,.ownL ((gk en tb s.num).map .int),.v (ar en),z9,GP,G7] K) :
  exs cf (.mk (.forS 4) [.nd (.attr 1 2) [vv 2]] Bv [] :: r) [Hu,.v (.bool tb),.v (s.o mv M.ws).v,Ht,z4,HO,HN,.ownL [],.v (ar en),z9,GP,G7] K:=by
 have at2:∀ {Hu IN Ht G},Val cf (Hu :: IN :: .v (s.o mv M.ws).v :: Ht :: G) (.nd (.attr 1 2) [vv 2]) (.dict (nuV s.num)):=aa (.one ix) rfl;have nl:=ok.nl mo;refine eM (g:=fun e=>shV e.1) (ws:=s.num.zipIdx) (I:=If38 Hu Ht HO HN (.v (s.o mv M.ws).v) en tb s.num) at2 (Cs mo.m ok.num (zB1 nl (by decide))) ⟨[],_,_,_,_,rfl,rfl⟩ ?_ ?_
 ·rintro G ⟨acc,z4,z9,GP,G7,ea,rfl⟩;rw [List.filter_nil,List.map_nil,append_nil] at ea;subst ea;exact h z4 z9 GP G7
 ·rintro ⟨x,i⟩ F0 G Kt me ⟨acc,z4,z9,GP,G7,ea,rfl⟩ nx _;obtain ⟨f,hx⟩:=ok.num x (List.fst_mem_of_mem_zipIdx me);refine ai ix (wz mo.m hx fun GP G7=>?_);refine bS (ab (x:=.bool (gH en x)) (y:=.bool tb) ix ix (BM _ _)) (fun q=>?_) fun q=>?_
  ·have l:acc.length < af:=by
    have:=NO length ea;rw [zB5] at this;exact Q0 (zB1 (Q3 _ _) (zB1 (zB2 this) (zB1 (px _ _ _) nl))) (by decide)
   have ei:lk s.num.zipIdx x=some i:=oZ (by rw [List.zipIdx_map_fst]; exact ok.nd) me;refine dS (l:=acc.map .int) (v:=aR i) rfl (aa (.two at2 ix) (wS mo.m ok.num hx ei)) (by rw [zA4]; exact l) (av (nx _ ⟨acc++[(i:Int)],_,_,_,_,?_,by rw [map_append]; rfl⟩));rw [<- ea,filter_cons_of_pos (by exact q),map_cons,Qa]; rfl
  ·refine av (nx _ ⟨acc,_,_,_,_,?_,rfl⟩);rw [<- ea,filter_cons_of_neg (by rw [show (gH en (x,i).1 != tb)=false from q]; exact NK)]
def wy {num:List Sh} {i:Nat} (h:num[i]?=some x):(i:Int)∈gk en tb num ↔ (gH en x != tb)=true:=by
 constructor
 ·intro m;obtain ⟨⟨y,j⟩,me,e⟩:=zA7 m;obtain ⟨me,q⟩:=mem_filter.mp me;have e:j=i:=ofNat.inj e;subst e;have:=List.mem_zipIdx_iff_getElem?.mp me;obtain rfl:=LE (h.symm.trans this);exact q
 ·exact fun q=>mem_map.mpr ⟨(x,i),mem_filter.mpr ⟨List.mem_zipIdx_iff_getElem?.mpr h,q⟩,rfl⟩
def td (h:num.length<=32):RoomsOk num.length (gk en tb num) where
 len:=zB1 (px _ _ _) (zB1 h (by decide))
 nodup:=by
  unfold gk;have nd:(num.zipIdx.map (·.2)).Nodup:=by
   rw [List.zipIdx_map_snd];exact List.nodup_range'
  exact pairwise_map.mpr ((pairwise_map.mp nd).filter _ |>.imp fun n e=>n (ofNat.inj e))
 rooms:=fun i m=>by
  obtain ⟨⟨y,j⟩,me,rfl⟩:=zA7 m;obtain ⟨me,q⟩:=mem_filter.mp me;exact ⟨natCast_nonneg _,ofNat_lt.mpr (eR (List.mem_zipIdx_iff_getElem?.mp me))⟩
def uQ (ho:c6 G k c=some ob) (h:bj (evs cf es) G fun vs=>cf.o f ob vs fun U o'=>exs cf r (G.set k (.obj o')) K):exs cf (.mk (.oCall k c f) es [] [] :: r) G K:=by
 refine (?_:okK (c6 G k c) fun o=>bj (es.map (ev cf)) G fun xs=>cf.o f o xs fun U o'=>exs cf r (G.set k (.obj o')) K);rw [eT];exact ag ho h
structure Gives (M:Mc) (st en:List Int) (tb:Bool) (num:List Sh) (d:List (Hd×Nat)) (F1:List Int) (hs:List Hd):Prop where
 pl:∃ x0 met,Pl M x0 num met d/\∀ p,p∈x0 ↔ DK st p
 en:∀ (i:Nat) x,num[i]?=some x->((i:Int)∈F1 ↔ (gH en x != tb)=true)
 hs:hs.Perm (jw M.s0 M.s1 M.s2 num.length)
 el:F1.length<=40
def S38 (cf:CallF):Prop:=∀ M st en tb K,M.Ok->RoomsOk M.R st->en.length<=40->(∀ num d F1 hs,Gives M st en tb num d F1 hs->K (a7 (sg M.s0 M.s1 M.s2) num.length [0] F1 (hs.map (wV d))))->cf.p 38 [mvM M st en,.bool tb] K
def DN (e:wV d h=wV d h'):h=h':=by
 have e:=xW e;cases h <;> cases h' <;> (first | (injection e; done) | skip)
 ·injection e with e1 e2
  rw [ofNat.inj e1,e2]
 ·injection e with e1 e2
  rw [ofNat.inj e1,e2]
 ·injection e with e1 e2 e3
  rw [ofNat.inj e1,ofNat.inj e2,e3]
theorem ph:∀ {r:List V} {l:List Hd},(∀ y∈r,y∈l.map (wV d))->∃ hs:List Hd,r=hs.map (wV d)/\∀ h∈hs,h∈l
 | [],l,_=>⟨[],rfl,fun U m=>nM m⟩
 | y :: r,l,h=>by
  obtain ⟨x,mx,rfl⟩:=zA7 (h y (.head _));obtain ⟨hs,e,m⟩:=ph (r:=r) (l:=l) fun y my=>h y (.tail _ my);exact ⟨x :: hs,by rw [e]; rfl,zA1 ⟨mx,m⟩⟩
def ze (nl:l.Nodup) (nr:r.Nodup) (h:∀ y,y∈r ↔ y∈l.map (wV d)):∃ hs:List Hd,r=hs.map (wV d)/\hs.Perm l:=by
 obtain ⟨hs,e,m⟩:=ph fun y my=>(h y).mp my;subst e;refine ⟨hs,rfl,(List.perm_ext_iff_of_nodup ((pairwise_map.mp nr).imp fun {a b} n (e:a=b)=>n (NO (wV d) e)) nl).mpr fun x=>⟨m x,fun mx=>?_⟩⟩;obtain ⟨y,my,e⟩:=zA7 ((h _).mpr (mem_map.mpr ⟨x,mx,rfl⟩));exact DN e▸my
def p38 (cf:CallF) (me:MethOk cf) (h5:S5 cf) (h9:S9 cf) (Ja:S14 cf) (Hj:S24 cf) (K7:S33 cf) (h36:S36 cf):S38 (step cf):=fun M st en tb K mo so le h=>by
 refine run (fn:=f38) rfl rfl rfl ?_;refine DM (vs:=[mvM M st en]) (.one ix) rfl (h9 _ _ _ _ M.ws _ mo.m.len ?_);refine uQ (ob:=mk0.o (mvM M st en) M.ws) rfl (h5 M.s0 M.s1 M.s2 M.R M.ws st en _ _ mo.m so fun x0 IX=>?_);have f0:=xe.fits mo;refine Hj M.s0 M.s1 M.s2 M.R M.ws mk0 _ (none,x0) _ mo.m f0 ⟨IX.row,nofun⟩ (.inr (by decide)) (by decide) (by decide) fun U=>?_;refine t8 mo K7 (uc IX.row) ⟨u5 x0,eU mk0 (none,x0)⟩ fun t z3 z4 i h0 hw=>?_;have ok:=i.ok;have ft:=ok.fits mo;have pl:=i.plain mo hw h0;have few:=kY mo.sg (ok.nl mo);refine ai (v:=aR t.num.length) (bn (aa (.one (v:=.dict (nuV t.num)) (aa (.one ix) rfl)) (xr mo.m ft.num ft.nl)) rfl) (tz (ob:=t.o (mvM M st en) M.ws) rfl ?_);refine ai (v:=.list ((jw M.s0 M.s1 M.s2 t.num.length).map (wV t.made))) (aG (vs:=[(t.o (mvM M st en) M.ws).v,aR t.num.length]) (.two ix ix) fun K h=>h36 M st en t K mo ok (fun n hn=>i.heads hw hn) few h) ?_;refine aM (ab (aa (.one (v:=.list ((jw M.s0 M.s1 M.s2 t.num.length).map (wV t.made))) ix) (iY (by rw [zA4]; exact zB1 few (by decide)))) ix (yu (Int.not_lt.mpr (by rw [zA4]; exact ofNat_le.mpr few)))) (jT ?_);refine ai (v:=ar en) (wP me ix le) (uq mo ok fun z4 z9 GP G7=>fO (l:=(gk en tb t.num).map .int) rfl ?_);have IP:(jw M.s0 M.s1 M.s2 t.num.length).map (wV t.made)=((jw M.s0 M.s1 M.s2 t.num.length).map (wOf t.made)).map W.v:=by rw [map_map]; rfl
 have hv:dR cf [.v (mvM M st en),.v (.bool tb),.v (t.o (mvM M st en) M.ws).v,z3,z4,.v (aR t.num.length),.v (.list ((jw M.s0 M.s1 M.s2 t.num.length).map (wV t.made))),.v (ar (gk en tb t.num)),.v (ar en),z9,GP,G7] [.nd (.meth 0 15) [vv 0],vv 5,.nd .list [ii 0],vv 7,vv 6] [sg M.s0 M.s1 M.s2,.int t.num.length,ar [0],ar (gk en tb t.num),bi ((jw M.s0 M.s1 M.s2 t.num.length).map (wOf t.made))]:=by
  unfold bi;rw [<- IP];exact .cons (wO me ix) (.cons ix (.cons (aa (.one ix) rfl) (.two ix ix)))
 have n0:0 < t.num.length:=eR pl.z;refine hv (fun xs=>cf.p 14 xs fun y=>K y) (Ja _ _ _ _ _ _ _ _ ⟨mo.m.sk,ofNat_le.mpr n0,ofNat_le.mpr (zB1 pl.few (by decide)),⟨by decide,pairwise_singleton _ _,fun j m=>?_⟩,td pl.few,by rw [zA4]; exact few,fun w m=>?_⟩ fun C' F1 r hd=>?_)
 ·obtain rfl:=zA6 m;exact ⟨by decide,ofNat_lt.mpr n0⟩
 ·obtain ⟨x,mx,rfl⟩:=zA7 m;exact pl.ok mo.m.sk (gt.mp mx)
 ·obtain rfl:C'=[0]:=List.perm_singleton.mp hd.p1;obtain ⟨hs,rfl,pm⟩:=ze (d:=t.made) (jv mo.m.sk) hd.nd fun y=>(hd.mem y).trans (by rw [IP]);exact h t.num t.made F1 hs ⟨⟨x0,t.met,pl,IX.mem⟩,fun j x e=>hd.p2.mem_iff.trans (wy e),pm,by rw [hd.p2.length_eq]; exact (td pl.few).len⟩
def S39 (cf:CallF):Prop:=∀ M st en K,M.Ok->RoomsOk M.R st->en.length<=40->(∀ num d F1 hs,Gives M st en false num d F1 hs->K (a7 (sg M.s0 M.s1 M.s2) num.length [0] F1 (hs.map (wV d))))->cf.p 39 [mvM M st en] K
def S40 (cf:CallF):Prop:=∀ M st en K,M.Ok->RoomsOk M.R st->en.length<=40->(∀ num d F1 hs,Gives M st en true num d F1 hs->K (a7 (sg M.s0 M.s1 M.s2) num.length [0] F1 (hs.map (wV d))))->cf.p 40 [mvM M st en] K
def p39 (cf:CallF) (J8:S38 cf):S39 (step cf):=fun M st en K mo so le h=>run (fn:=f39) rfl rfl rfl (J8 M st en false K mo so le h)
def p40 (cf:CallF) (J8:S38 cf):S40 (step cf):=fun M st en K mo so le h=>run (fn:=f40) rfl rfl rfl (J8 M st en true K mo so le h)
noncomputable def hD (g:Hd->V) (l:List Hd):List (V×V):=l.map fun h=>(h.v,g h)
def nG (hl:∀ h∈l,h.ok):dkV (hD g l)=true:=Q6.mpr fun p mp=>by
 obtain ⟨h,mh,rfl⟩:=zA7 mp;exact bf (hl h mh)
def sR (hl:∀ h∈l,h.ok) (hk:k.ok):bt (hD g l) k.v=if k∈l then some (g k) else none:=by
 have q:=b0 (f:=Hd.v) (g:=g) (k:=k) (l:=l.map fun h=>(h,h)) (fun U U=>nE) (bf hk) fun e me=>by
  obtain ⟨h,mh,rfl⟩:=zA7 me;exact bf (hl h mh)
 rw [map_map] at q;refine (q:bt (hD g l) k.v=_).trans ?_;have e1:(l.map fun h=>(h,h)).map (·.1)=l:=by rw [map_map]; exact map_id l
 cases z:lk (l.map fun h=>(h,h)) k with
 | none=>
  have:=look_none.mp z;rw [e1] at this;rw [NQ this]; rfl
 | some b=>
  obtain ⟨h,mh,e⟩:=zA7 (dp z);injection e with e e'
  subst e e';rw [NP mh]; rfl
def xz (hl:∀ h∈l,h.ok) (hk:k.ok) (n:k∉l):cX (hD g l) k.v (g k)=hD g (l++[k]):=by
 unfold cX;rw [NQ]
 ·unfold hD; rw [map_append]; rfl
 ·intro q;obtain ⟨p,mp,hp⟩:=any_eq_true.mp q;obtain ⟨h,mh,rfl⟩:=zA7 mp;exact n (nE ((cH _ _ (bf (hl h mh)) (bf hk)).mp hp)▸mh)
def CU (hl:∀ h∈l,h.ok) (m:k∈l):g9 (.dict (hD g l)) k.v=some (g k):=
 (NP (zA3 ⟨nG hl,bf (hl k m)⟩)).trans ((sR hl (hl k m)).trans (NP m))
structure HsOk (hs:List Hd):Prop where
 nd:hs.Nodup
 ok:∀ h∈hs,h.ok
 len:hs.length<=4000
def kF (h:(zs++y :: ys).Nodup):y∉zs:=fun q=>(nodup_append.mp h).2.2 y q y (.head _) rfl
def oV (d:List (Hd×Nat)):Hd->V
 | .on i c=>.tuple [.int (dAt d (.on i c))]
 | .op i c=>.tuple [.int (dAt d (.op i c)),.int i]
 | .cl i k c=>.int (dAt d (.cl i k c))
def plV (s0 s1 s2:List Nat) (n:Nat) (en:List Int) (d:List (Hd×Nat)) (hs:List Hd):V:=ofV s0 s1 s2 n [0] en (hs.map (wV d))
def S34 (cf:CallF):Prop:=∀ s0 s1 s2 n en d hs (K:V->Prop),HsOk hs->K (.dict (hD (oV d) hs))->cf.p 34 [plV s0 s1 s2 n en d hs] K
inductive I34 (pv:V) (g:Hd->V) (hs:List Hd) (F0:List Hd) (G:Gs):Prop
 | mk (zs:List Hd) (x2:Slot) (e:hs=zs++F0) (eG:G=[.v pv,.ownD (hD g zs),x2]):I34 pv g hs F0 G
def wZ (d:List (Hd×Nat)) {hs:List Hd} (h:hs.length<=4000):a9 (.list (hs.map (wV d)))=some (hs.map (wV d)):=aT (by rw [zA4]; exact zB1 h (by decide))
def p34 (cf:CallF):S34 (step cf):=fun s0 s1 s2 n en d hs K ho h=>by
 refine run (fn:=f34) rfl rfl rfl (ib ?_);refine eM (g:=wV d) (ws:=hs) (I:=I34 (plV s0 s1 s2 n en d hs) (oV d) hs) (v:=.list (hs.map (wV d))) ix (wZ d ho.len) ⟨[],_,rfl,rfl⟩ ?_ ?_
 ·rintro G ⟨zs,x2,e,rfl⟩;rw [append_nil] at e;subst e;exact cu (l:=hD (oV d) hs) rfl (aB ix h)
 ·rintro k F0 G Kt mk ⟨zs,x2,e,rfl⟩ nx _;have ok:=ho.ok k mk;have hz:∀ h∈zs,h.ok:=fun h m=>ho.ok h (by rw [e]; exact Qc _ m);have nk:k∉zs:=kF (e▸ho.nd);have lz:(hD (oV d) zs).length < af:=by
   have l:=ho.len;rw [e,zB5] at l;unfold hD;rw [zA4];exact Q0 (zB1 (Q3 _ _) l) (by decide)
  have fin:=nx [.v (plV s0 s1 s2 n en d hs),.ownD (cX (hD (oV d) zs) k.v (oV d k)),.v (wV d k)] ⟨zs++[k],_,by rw [e,Qa]; rfl,by rw [xz hz ok nk]⟩;cases k with
  | on i c=>exact bS (ab (t:=false) (x:=.str kOn) ix ix ((bk ok_on ok_close).trans (NO some (by rfl)))) (fun q=>nB q) fun U=>eK (l:=hD (oV d) zs) rfl (v:=oV d (.on i c)) ix (x:=(Hd.on i c).v) ix (bf ok) lz (av fin)
  | op i c=>exact bS (ab (t:=false) (x:=.str a6) ix ix ((bk ok_open ok_close).trans (NO some (by rfl)))) (fun q=>nB q) fun U=>eK (l:=hD (oV d) zs) rfl (v:=oV d (.op i c)) ix (x:=(Hd.op i c).v) ix (bf ok) lz (av fin)
  | cl i k c=>exact fb (ab (x:=.str aC) ix ix ((bk ok_close ok_close).trans (NO some (by rfl)))) (eK (l:=hD (oV d) zs) rfl (v:=oV d (.cl i k c)) ix (x:=(Hd.cl i k c).v) ix (bf ok) lz (av fin))
def S41 (cf:CallF):Prop:=∀ s0 s1 s2 n en d hs (K:V->Prop),SgOk s0 s1 s2->HsOk hs->n<=32->hs.length=n * (s2.length+(s0.length+s1.length * n))->K (.bool true)->cf.p 41 [plV s0 s1 s2 n en d hs] K
noncomputable def j7 (_:Hd):V:=.int 1
def g41 (s0 s1 s2:List Nat) (n:Nat) (en:List Int) (d:List (Hd×Nat)) (hs:List Hd) (zs:List Hd) (x7 x8:Slot):Gs:=[.v (plV s0 s1 s2 n en d hs),.v (sg s0 s1 s2),.v (.int n),.v (ar [0]),.v (ar en),.v (.list (hs.map (wV d))),.ownD (hD j7 zs),x7,x8,.unset]
inductive I41 (s0 s1 s2:List Nat) (n:Nat) (en:List Int) (d:List (Hd×Nat)) (hs:List Hd) (F0:List Hd) (G:Gs):Prop
 | mk (zs:List Hd) (x7 x8:Slot) (e:hs=zs++F0) (eG:G=g41 s0 s1 s2 n en d hs zs x7 x8):I41 s0 s1 s2 n en d hs F0 G
def p41 (cf:CallF):S41 (step cf):=fun s0 s1 s2 n en d hs K sk ho hn hl h=>by
 refine run (fn:=f41) rfl rfl rfl (d8 (v:=plV s0 s1 s2 n en d hs) ix (G':=[.v (plV s0 s1 s2 n en d hs),.v (sg s0 s1 s2),.v (.int n),.v (ar [0]),.v (ar en),.v (.list (hs.map (wV d))),.unset,.unset,.unset,.unset]) rfl (ib ?_));refine eM (g:=wV d) (ws:=hs) (I:=I41 s0 s1 s2 n en d hs) (v:=.list (hs.map (wV d))) ix (wZ d ho.len) ⟨[],_,_,rfl,rfl⟩ ?_ ?_
 ·rintro G ⟨zs,x7,x8,e,rfl⟩;rw [append_nil] at e;subst e;have l0:∀ {l:List Nat},l.length<=4->opN .len [text l]=some (.int l.length):=fun h=>il (zB1 h (by decide));have due:(n:Int) * ((s0.length:Int)+s2.length+n * s1.length)=((hs.length:Nat):Int):=by
   rw [hl,natCast_mul,natCast_add,natCast_add,natCast_mul,Int.add_comm (s0.length:Int),Int.add_assoc,Int.mul_comm (n:Int) s1.length]
  have IR:((n:Int)).natAbs<=1000000:=zB1 hn (by decide);refine ai (v:=.int hs.length) (aa (vs:=[.int n,.int ((s0.length:Int)+s2.length+n * s1.length)]) (.two ix (aa (vs:=[.int ((s0.length:Int)+s2.length),.int (n * s1.length)]) (.two (aa (.two (aa (.one (v:=text s0) ix) (l0 sk.la)) (aa (.one (v:=text s2) ix) (l0 sk.lc))) rfl) (aa (.two (x:=.int n) ix (aa (.one (v:=text s1) ix) (l0 sk.lb))) (iX (.inr IR)))) rfl)) ((iX (.inr IR)).trans (by rw [due]))) ?_;refine cu (l:=hD j7 hs) rfl (aB (v:=.bool true) (aE (.go (b:=true) (ab (aa (.one (v:=ar [0]) ix) (iY (by decide))) ix (qO rfl)) (.go (b:=true) (ab (aa (.one (v:=.dict (hD j7 hs)) ix) ?_) ix (qO rfl)) (.one (ab (aa (.one (v:=.list (hs.map (wV d))) ix) (iY (by rw [zA4]; exact zB1 ho.len (by decide)))) ix (qO (by rw [zA4]))))))) h);have ln:(hD j7 hs).length=hs.length:=length_map _;refine (?_:(a9 (.dict (hD j7 hs))).map _=_);rw [show a9 (.dict (hD j7 hs))=some ((hD j7 hs).map (·.1)) from (NP (nG ho.ok)).trans (NP (bT (by rw [ln]; exact zB1 ho.len (by decide))))];refine NO (fun n:Nat=>some (PyData.int n)) ?_;rw [zA4,ln]
 ·rintro k F0 G Kt mk ⟨zs,x7,x8,e,rfl⟩ nx _;have ok:=ho.ok k mk;have hz:∀ h∈zs,h.ok:=fun h m=>ho.ok h (by rw [e]; exact Qc _ m);have nk:k∉zs:=kF (e▸ho.nd);have lz:(hD j7 zs).length < af:=by
   have l:=ho.len;rw [e,zB5] at l;unfold hD;rw [zA4];exact Q0 (zB1 (Q3 _ _) l) (by decide)
  have hv:Val cf (g41 s0 s1 s2 n en d hs zs (.v (wV d k)) x8) (.nd .ite [eqE (sbE (vv 7) (ii 0)) (ss aC),.nd (.slice false true) [vv 7,ii 4],.nd (.slice false true) [vv 7,ii 3]]) k.v:=by
   cases k with
   | on i c=>exact lP (ab (t:=false) (x:=.str kOn) ix ix ((bk ok_on ok_close).trans (NO some (by rfl)))) (fun q=>nB q) fun U=>ix
   | op i c=>exact lP (ab (t:=false) (x:=.str a6) ix ix ((bk ok_open ok_close).trans (NO some (by rfl)))) (fun q=>nB q) fun U=>ix
   | cl i k c=>exact lP (ab (t:=true) (x:=.str aC) ix ix ((bk ok_close ok_close).trans (NO some (by rfl)))) (fun U=>ix) fun q=>nB q.symm
  refine ai hv (eK (l:=hD j7 zs) (v:=.int (0+1)) (x:=k.v) rfl (aa (.two (x:=.int 0) (bn (oB (x:=.dict (hD j7 zs)) (vs:=[k.v,.int 0]) ix (nG hz) (.two ix ix) ?_) rfl) ix) rfl) ix (bf ok) lz (av (nx _ ⟨zs++[k],.v (wV d k),.v k.v,by rw [e,Qa]; rfl,?_⟩)))
  ·refine (?_:(if (dkV (hD j7 zs)&&aZ k.v)=true then some ((bt (hD j7 zs) k.v).getD (.int 0)) else none)=_);rw [NP (zA3 ⟨nG hz,bf ok⟩),sR hz ok,NQ nk]; rfl
  ·unfold g41;rw [<- xz (g:=j7) hz ok nk]; rfl
noncomputable abbrev Rel:=Int->List Int->Prop
inductive nx (ws:List W) (c:Nat) (X:Rel) (q:Int) (p:List Int):Prop
 | on (q0:Int) (x:X q0 p) (w:W.on q0 c q∈ws):nx ws c X q p
 | op (q0 t:Int) (p0:List Int) (e:p=t :: p0) (x:X q0 p0) (w:W.op q0 c q t∈ws):nx ws c X q p
 | cl (q0 t:Int) (x:X q0 (t :: p)) (w:W.cl q0 t c q∈ws):nx ws c X q p
noncomputable def qh (ws:List W):List Nat->Rel->Rel
 | [],X=>X
 | c :: w,X=>qh ws w (nx ws c X)
noncomputable def st0 (st:List Int):Rel:=fun q p=>q∈st/\p=[]
def Acc (ws:List W) (st en:List Int) (w:List Nat):Prop:=∃ q p,qh ws w (st0 st) q p/\q∈en
theorem xf (h:∀ w,w∈ws->w∈IP):nx ws c X q p->nx IP c X q p
 | .on q0 x w=>.on q0 x (h _ w)
 | .op q0 t p0 e x w=>.op q0 t p0 e x (h _ w)
 | .cl q0 t x w=>.cl q0 t x (h _ w)
def zh (h:∀ w,w∈ws ↔ w∈IP) (c:Nat) (X:Rel):nx ws c X=nx IP c X:=funext fun U=>funext fun U=>propext ⟨xf fun w=>(h w).mp,xf fun w=>(h w).mpr⟩
theorem oK (h:∀ w,w∈ws ↔ w∈IP):∀ (w:List Nat) (X:Rel),qh ws w X=qh IP w X
 | [],_=>rfl
 | c :: w,X=>by unfold qh; rw [zh h]; exact oK h w _
inductive Link (X:Rel) (h:Sh) (q:Int) (p:List Int):Prop
 | mk (a:Int) (d:Nat) (e t:Int) (p':List Int) (e1:p=t :: p') (m:(some (W.op a d e t),q)∈h) (x:X a p'):Link X h q p
noncomputable def fA:List Sh->Rel
 | []=>fun U U=>False
 | h :: r=>fun q p=>(r=[]/\p=[]/\(none,q)∈h)\/Link (fA r) h q p
section
variable {s0 s1 s2:List Nat} {R:Int} {ws:List W} {c:Nat} (m:MOk s0 s1 s2 R ws)
include m
theorem AY (h:W.on a c b∈ws):c∈s2:=(m.ok _ h).2.1
theorem AX (h:W.op a c b t∈ws):c∈s0:=(m.ok _ h).2.1
theorem AZ (h:W.cl a b c t∈ws):c∈s1:=(m.ok _ h).2.2.1
theorem EM (hc:c∈s2) (o:∀ p,p∈h' ↔ OnA ws c h p):fA (h' :: r)=nx ws c (fA (h :: r)):=by
 funext q p
 refine propext ⟨fun q=>?_,fun q=>?_⟩
 ·rcases q with ⟨e1,e2,q⟩ | ⟨a,d,e,t,p',e1,q,q'⟩
  ·obtain ⟨k,mk,ek,w⟩:=(o _).mp q;exact .on k.2 (.inl ⟨e1,e2,(show (none,k.2)=k from Prod.ext ek rfl)▸mk⟩) w
  ·obtain ⟨k,mk,ek,w⟩:=(o _).mp q;exact .on k.2 (.inr ⟨a,d,e,t,p',e1,(show (some (W.op a d e t),k.2)=k from Prod.ext ek rfl)▸mk,q'⟩) w
 ·rcases q with ⟨q0,q,w⟩ | ⟨q0,t,p0,_,_,w⟩ | ⟨q0,t,_,w⟩
  ·rcases q with ⟨e1,e2,q⟩ | ⟨a,d,e,t,p',e1,q,q'⟩
   ·exact .inl ⟨e1,e2,(o _).mpr ⟨_,q,rfl,w⟩⟩
   ·exact .inr ⟨a,d,e,t,p',e1,(o _).mpr ⟨_,q,rfl,w⟩,q'⟩
  ·exact absurd (AX m w) (m.sk.inC hc).1
  ·exact absurd (AZ m w) (m.sk.inC hc).2
theorem EL (hc:c∈s0) (o:∀ p,p∈h' ↔ OpA ws c h p):fA (h' :: h :: r)=nx ws c (fA (h :: r)):=by
 have Iq:∀ {q p},fA (h :: r) q p->∃ k∈h,k.2=q:=fun {q p} z=>by
  rcases z with ⟨_,_,z⟩ | ⟨_,_,_,_,_,_,z,_⟩ <;> exact ⟨_,z,rfl⟩
 funext q p
 refine propext ⟨fun q=>?_,fun q=>?_⟩
 ·rcases q with ⟨e1,_⟩ | ⟨a,d,e,t,p',e1,q,q'⟩
  ·(injection e1; done)
  ·obtain ⟨k,mk,t',w,ek⟩:=(o _).mp q;injection ek with ek
   injection ek with ea ed ee et
   subst ea et;exact .op k.2 t p' e1 q' w
 ·rcases q with ⟨q0,q,w⟩ | ⟨q0,t,p0,e,q,w⟩ | ⟨q0,t,_,w⟩
  ·exact absurd hc (m.sk.inC (AY m w)).1
  ·obtain ⟨k,mk,ek⟩:=Iq q;subst ek;exact .inr ⟨k.2,c,_,t,p0,e,(o _).mpr ⟨k,mk,t,w,rfl⟩,q⟩
  ·exact absurd hc (m.sk.inB (AZ m w))
theorem EN (hc:c∈s1) (o:∀ p,p∈h' ↔ ClA ws c ho h p):fA (h' :: r)=nx ws c (fA (h :: ho :: r)):=by
 have mk':∀ {k:Pa} {a d e t},k∈h->k.1=some (W.op a d e t)->(some (W.op a d e t),k.2)∈h:=fun {k a d e t} mk ek=>(show (some (W.op a d e t),k.2)=k from Prod.ext ek.symm rfl)▸mk;funext q p
 refine propext ⟨fun q=>?_,fun q=>?_⟩
 ·rcases q with ⟨e1,e2,q⟩ | ⟨a2,d2,e2,t2,p',e1,q,q'⟩
  ·obtain ⟨k,mk,a,d,e,t,ek,w,q⟩:=(o _).mp q;exact .cl k.2 t (.inr ⟨a,d,e,t,p,rfl,mk' mk ek,.inl ⟨e1,e2,q⟩⟩) w
  ·obtain ⟨k,mk,a,d,e,t,ek,w,q⟩:=(o _).mp q;exact .cl k.2 t (.inr ⟨a,d,e,t,p,rfl,mk' mk ek,.inr ⟨a2,d2,e2,t2,p',e1,q,q'⟩⟩) w
 ·rcases q with ⟨q0,q,w⟩ | ⟨q0,t,p0,e,q,w⟩ | ⟨q0,t,q,w⟩
  ·exact absurd hc (m.sk.inC (AY m w)).2
  ·exact absurd (AX m w) (m.sk.inB hc)
  ·rcases q with ⟨_,e,_⟩ | ⟨a,d,e,t',p',e1,q,q'⟩
   ·(injection e; done)
   ·obtain ⟨rfl,rfl⟩:=zA5 e1;rcases q' with ⟨f1,f2,f⟩ | ⟨a2,d2,e2,t2,p',f1,f,f'⟩
    ·exact .inl ⟨f1,f2,(o _).mpr ⟨_,q,a,d,e,t,rfl,w,f⟩⟩
    ·exact .inr ⟨a2,d2,e2,t2,p',f1,(o _).mpr ⟨_,q,a,d,e,t,rfl,w,f⟩,f'⟩
end
def wE (h:∀ p,p∈x0 ↔ DK st p):fA [x0]=st0 st:=by
 funext q p
 refine propext ⟨fun z=>?_,fun z=>.inl ⟨rfl,z.2,(h _).mpr ⟨rfl,z.1⟩⟩⟩;rcases z with ⟨_,e,z⟩ | ⟨_,_,_,_,_,_,_,z⟩
 ·exact ⟨((h _).mp z).2,e⟩
 ·exact z.elim
def Dj (x:Sh):(∃ q p,fA [x] q p/\q∈en) ↔ gH en x=true:=by
 unfold gH;rw [any_eq_true];constructor
 ·rintro ⟨q,p,⟨_,e,z⟩ | ⟨_,_,_,_,_,_,_,z⟩,hq⟩
  ·exact ⟨_,z,zA3 ⟨NL rfl,NL hq⟩⟩
  ·exact z.elim
 ·rintro ⟨⟨b,q⟩,m,z⟩;obtain ⟨z1,z2⟩:=zA2 z;obtain rfl:=isNone_iff_eq_none.mp (IO z1);exact ⟨q,[],.inl ⟨rfl,rfl,m⟩,IO z2⟩
noncomputable def Gd (s0 s1 s2:List Nat) (m e:Nat):Nat->List Nat->Prop
 | d,[]=>d=e
 | d,c :: w=>(c∈s0/\d < m/\Gd s0 s1 s2 m e (d+1) w)\/(c∈s1/\∃ d',d=d' + 1/\Gd s0 s1 s2 m e d' w)\/(c∈s2/\Gd s0 s1 s2 m e d w)
theorem im (hv:Gd s0 s1 s2 m f e v):∀ {u:List Nat} {d:Nat},Gd s0 s1 s2 m e d u->Gd s0 s1 s2 m f d (u++v)
 | [],d,h=>by subst h; exact hv
 | c :: u,d,h=>by
  rcases h with ⟨h1,h2,h⟩ | ⟨h1,d',h2,h⟩ | ⟨h1,h⟩
  ·exact .inl ⟨h1,h2,im hv h⟩
  ·exact .inr (.inl ⟨h1,d',h2,im hv h⟩)
  ·exact .inr (.inr ⟨h1,im hv h⟩)
theorem xC (sk:SgOk s0 s1 s2):∀ {w:List Nat} {d:Nat},Gd s0 s1 s2 m e d w->∀ c∈w,low c=true
 | c :: w,d,h,x,q=>by
  rcases mem_cons.mp q with rfl | q
  ·rcases h with ⟨h1,_⟩ | ⟨h1,_⟩ | ⟨h1,_⟩
   ·exact sk.lowA h1
   ·exact sk.lowB h1
   ·exact sk.lowC h1
  ·rcases h with ⟨_,_,h⟩ | ⟨_,d',_,h⟩ | ⟨_,h⟩ <;> exact xC sk h x q
inductive Stk (num:List Sh) (met:List Me):Option Sh->List Nat->List Sh->Prop
 | nil:Stk num met none [] []
 | cons {k:Option Sh} {ps:List Nat} {ys:List Sh} (i:Nat) (y:Sh) (e:num[i]?=some y) (m:(k,y)∈met) (s:Stk num met k ps ys):Stk num met (some y) (i :: ps) (y :: ys)
def xy (sk:SgOk s0 s1 s2) (q:HIn s0 s1 s2 n h):h.ok:=by
 cases h with
 | on i c=>exact sk.lowC q.2
 | op i c=>exact sk.lowA q.2
 | cl i k c=>exact sk.lowB q.2.2
def mL {c:Nat} {s:List Nat} (h:c∉s):s.elem c=false:=eq_false_iff.mpr fun z=>h (elem_iff.mp z)
def S35 (cf:CallF):Prop:=∀ M st en tb num d F1 hs w mx K,M.Ok->Gives M st en tb num d F1 hs->Gd M.s0 M.s1 M.s2 mx 0 0 w->w.length<=1000->(∀ x,(Acc M.ws st en w ↔ gH en x=true)->K (.bool (gH en x != tb)))->cf.p 35 [plV M.s0 M.s1 M.s2 num.length F1 d hs,.dict (hD (oV d) hs),text w] K
inductive I35 (M:Mc) (num:List Sh) (met:List Me) (st:List Int) (w:List Nat) (mx:Nat) (pv dv:V) (F0:List Nat) (G:Gs):Prop
 | mk (q:Nat) (ps:List Nat) (x:Sh) (ys:List Sh) (k:Option Sh) (x5 x6:Slot) (e:num[q]?=some x) (mm:(k,x)∈met) (s:Stk num met k ps ys) (g:Gd M.s0 M.s1 M.s2 mx 0 ps.length F0) (l:ps.length+F0.length<=1000) (hr:qh M.ws F0 (fA (x :: ys))=qh M.ws w (st0 st))
  (eG:G=[.v pv,.v dv,.v (text w),.v (aR q),.ownL (ps.reverse.map aR),x5,x6]):I35 M num met st w mx pv dv F0 G
def p35 (cf:CallF):S35 (step cf):=fun M st en tb num d F1 hs w mx K mo gv gw lw h=>by
 have sk:=mo.m.sk;obtain ⟨x0,met,pl,IX⟩:=gv.pl;have IC:∀ h∈hs,h.ok:=fun h m=>xy sk (gt.mp (gv.hs.mem_iff.mp m));have sub:∀ {h:Hd},HIn M.s0 M.s1 M.s2 num.length h->g9 (.dict (hD (oV d) hs)) h.v=some (oV d h):=fun {h} q=>CU IC (gv.hs.mem_iff.mpr (gt.mpr q));refine run (fn:=f35) rfl rfl rfl (ai (v:=aR 0) ix (jT ?_));refine eM (g:=fun c=>text [c]) (ws:=w) (v:=text w) (I:=I35 M num met st w mx (plV M.s0 M.s1 M.s2 num.length F1 d hs) (.dict (hD (oV d) hs)))
  ix (dW (zB1 lw (by decide))) ⟨0,[],x0,[],none,_,_,pl.z,pl.z',.nil,gw,by rw [length_nil,zero_add]; exact lw,by rw [wE IX],rfl⟩ ?_ ?_
 ·rintro G ⟨q,ps,x,ys,k,x5,x6,e,mm,s,g,l,hr,rfl⟩;obtain rfl:ps=[]:=length_eq_zero_iff.mp g;cases s
  have ac:Acc M.ws st en w ↔ gH en x=true:=by
   unfold Acc;rw [<- hr];exact Dj x
  have eb:decide ((q:Int)∈F1)=(gH en x != tb):=by
   have z:=gv.en q x e;by_cases y:(q:Int)∈F1
   ·rw [NL y,z.mp y]
   ·rw [NM y,eq_false_iff.mpr fun w=>y (z.mpr w)]
  refine aB (v:=.bool (gH en x != tb)) (ab (x:=aR q) (y:=ar F1) ix ix ?_) (h x ac);rw [<- eb];exact yy
 ·rintro c u G Kt mc ⟨q,ps,x,ys,k,x5,x6,e,mm,s,g,l,hr,rfl⟩ nx _;have iq:=eR e;rw [zB4,<- add_assoc] at l;have lp:ps.length<=1000:=zB1 (Q3 _ _) (le_of_succ_le l);rcases g with ⟨hc,_,g⟩ | ⟨hc,dd,ed,g⟩ | ⟨hc,g⟩
  ·obtain ⟨t,et,mt,ht⟩:=pl.op k x q c mm e hc;refine fb (ab (x:=text [c]) (y:=text M.s0) ix ix (xO.trans (NO some (elem_iff.mpr hc)))) ?_;refine d8 (v:=oV d (.op q c)) (aa (vs:=[.dict (hD (oV d) hs),(Hd.op q c).v]) (.two ix ix) (sub (h:=.op q c) ⟨iq,hc⟩)) (G':=[.v (plV M.s0 M.s1 M.s2 num.length F1 d hs),.v (.dict (hD (oV d) hs)),.v (text w),.v (aR (dN d (.op q c))),.ownL (ps.reverse.map aR),.v (text [c]),.v (aR q)]) rfl ?_;refine dS (l:=ps.reverse.map aR) rfl (v:=aR q) ix (by rw [zA4,length_reverse]; exact Q0 lp (by decide)) (av (nx _ ⟨dN d (.op q c),q :: ps,t,x :: ys,some x,.v (text [c]),.v (aR q),et,mt,.cons q x e mm s,g,?_,?_,?_⟩))
   ·rw [zB4,succ_add]; exact l
   ·rw [EL mo.m hc ht]; exact hr
   ·rw [reverse_cons,map_append]; rfl
  ·cases s with
   | nil=>(injection ed; done)
   | cons j y ey my s=>
    obtain rfl:=Nat.succ.inj ed;obtain ⟨t,et,mt,ht⟩:=pl.cl _ y x q j c my mm e ey hc;refine bS (t:=false) (ab (x:=text [c]) (y:=text M.s0) ix ix (xO.trans (NO some (mL (sk.inB hc))))) (fun z=>nB z) fun U=>fb (ab (x:=text [c]) (y:=text M.s1) ix ix (xO.trans (NO some (elem_iff.mpr hc)))) ?_;rw [zB4] at lp l;have er:(j :: ps_1).reverse.map aR=ps_1.reverse.map aR++[aR j]:=by rw [reverse_cons,map_append]; rfl
    refine BS (l:=ps_1.reverse.map aR) (D:=.dict (hD (oV d) hs)) (x:=.str aC) (y:=aR q) (z:=aR j) (w:=text [c]) (u:=aR (dN d (.cl q j c))) ix ix ix (NO some er) (by rw [zA4,length_reverse]; exact Q1 lp (by decide)) ix (sub (h:=.cl q j c) ⟨iq,eR ey,hc⟩) (av (nx _ ⟨dN d (.cl q j c),_,t,_,_,.v (text [c]),x6,et,mt,s,g,?_,?_,rfl⟩))
    ·exact zB1 (add_le_add_right (le_succ _) _) (le_of_succ_le l)
    ·rw [EN mo.m hc ht]; exact hr
  ·obtain ⟨t,et,mt,ht⟩:=pl.on k x q c mm e hc;refine bS (t:=false) (ab (x:=text [c]) (y:=text M.s0) ix ix (xO.trans (NO some (mL (sk.inC hc).1)))) (fun z=>nB z) fun U=>bS (t:=false) (ab (x:=text [c]) (y:=text M.s1) ix ix (xO.trans (NO some (mL (sk.inC hc).2)))) (fun z=>nB z) fun U=>?_;refine ai (v:=aR (dN d (.on q c))) (aa (vs:=[oV d (.on q c),.int 0]) (.two (aa (vs:=[.dict (hD (oV d) hs),(Hd.on q c).v]) (.two ix ix) (sub (h:=.on q c) ⟨iq,hc⟩)) ix) (by exact rfl)) (av (nx _ ⟨dN d (.on q c),ps,t,ys,k,_,_,et,mt,s,g,le_of_succ_le l,?_,rfl⟩));rw [EM mo.m hc ht]; exact hr
noncomputable def cN (p:List Int):V:=.list (p.reverse.map .int)
def stV (s:Int×List Int):V:=.tuple [.int s.1,cN s.2]
def Dv:Option (Int×List Int)->V
 | none=>.none
 | some s=>stV s
noncomputable def fh:W->Int->List Int->Nat->Option (Int×List Int)
 | .on a d b,q,p,c=>if a=q/\d=c then some (b,p) else none
 | .op a d b t,q,p,c=>if a=q/\d=c then some (b,t :: p) else none
 | .cl a b d t,q,p,c=>if a=q/\d=c/\p.head?=some b then some (t,p.tail) else none
def AO:fh (.on a d b) q p c=if a=q/\d=c then some (b,p) else none:=rfl
def AN:fh (.op a d b t) q p c=if a=q/\d=c then some (b,t :: p) else none:=rfl
def qd:fh (.cl a b d t) q p c=if a=q/\d=c/\p.head?=some b then some (t,p.tail) else none:=rfl
def step_iff:fh w q p c=some (q',p') ↔ (w=.on q c q'/\p'=p)\/(∃ t,w=.op q c q' t/\p'=t :: p)\/∃ t,w=.cl q t c q'/\p=t :: p':=by
 constructor
 ·intro h;cases w with
  | on a d b=>
   replace h:=AO▸h;by_cases e:a=q/\d=c
   ·rw [NP e] at h;injection h with h; injection h with h1 h2
    exact .inl ⟨by rw [e.1,e.2,h1],h2.symm⟩
   ·rw [NQ e] at h; (injection h; done)
  | op a d b t=>
   rw [AN] at h;by_cases e:a=q/\d=c
   ·rw [NP e] at h;injection h with h; injection h with h1 h2
    exact .inr (.inl ⟨t,by rw [e.1,e.2,h1],h2.symm⟩)
   ·rw [NQ e] at h; (injection h; done)
  | cl a b d t=>
   rw [qd] at h;by_cases e:a=q/\d=c/\p.head?=some b
   ·rw [NP e] at h;injection h with h; injection h with h1 h2
    cases p with
    | nil=>exact nomatch e.2.2
    | cons s p=>exact .inr (.inr ⟨b,by rw [e.1,e.2.1,h1],by rw [LE e.2.2,<- h2]; rfl⟩)
   ·rw [NQ e] at h; (injection h; done)
 ·rintro (⟨rfl,rfl⟩ | ⟨t,rfl,rfl⟩ | ⟨t,rfl,rfl⟩)
  ·exact NP ⟨rfl,rfl⟩
  ·exact NP ⟨rfl,rfl⟩
  ·exact NP ⟨rfl,rfl,rfl⟩
def lh (l:List Int):fF 1 (.list (l.map .int)):=cB fun x mx=>by obtain ⟨i,_,rfl⟩:=zA7 mx; exact cG rfl
def Cx (h:(l++[x]).length<=5000):opN .sub [.list (l++[x]),.int (-1)]=some x:=by
 refine (?_:(if (l++[x]).length<=af then _ else none)=_);rw [NP (bT h),NQ (by decide),zB5];have e:(-1:Int)+((l.length + [x].length:Nat):Int)=l.length:=by rw [length_singleton,natCast_add]; exact (NO (-1 + ·) (Int.add_comm _ _)).trans (Int.neg_add_cancel_left 1 _)
 rw [e,NP (natCast_nonneg _),toNat_natCast,getElem?_append_right (le_refl _),sub_self]; rfl
def Cy (h:(l++[x]).length<=5000):opN (.slice false true) [.list (l++[x]),.int (-1)]=some (.list l):=by
 refine (?_:mM .list (l++[x]) none (some (.int (-1)))=_);unfold mM;refine (NP (bT h)).symm▸?_;have e:pz (l++[x]).length (l++[x]).length (some (.int (-1)))=some l.length:=by
  refine NO some ?_;rw [NQ (by decide),zB5,length_singleton];have e:(-1:Int)+((l.length+1:Nat):Int)=l.length:=by rw [natCast_add]; exact (NO (-1 + ·) (Int.add_comm _ _)).trans (Int.neg_add_cancel_left 1 _)
  rw [e,toNat_natCast]
 refine e.symm▸?_;refine (?_:(if 0<=l.length then some (PyData.list (((l++[x]).drop 0).take (l.length - 0))) else none)=_);rw [NP (zero_le _),sub_zero,drop_zero,List.take_left]
def CB (h:(a++b).length<=5000):opN (.bin .Add) [.list a,.list b]=some (.list (a++b)):=NP (bT h)
def yw (hx:low x=true) (hy:low y=true):aO .NotEq (text [x]) (text [y])=some (!((⟨[x].toArray⟩:Str)==⟨[y].toArray⟩)):=BK (mZ hx) (mZ hy)
def ya {a b:Int} (h:(!(a==b))=true):a≠b:=fun e=>by subst e; rw [NJ] at h; (injection h; done)
def xj (h:(!((⟨[a].toArray⟩:Str)==⟨[b].toArray⟩))=true):a≠b:=fun e=>by subst e; rw [NJ] at h; (injection h; done)
def S28 (cf:CallF):Prop:=∀ s0 s1 s2 R w q p c K,SgOk s0 s1 s2->W.ok s0 s1 s2 R w->low c=true->p.length<=1000->K (Dv (fh w q p c))->cf.p 28 [w.v,.int q,cN p,text [c]] K
def p28 (cf:CallF):S28 (step cf):=fun s0 s1 s2 R w q p c K sk ok lc lp h=>by
 refine run (fn:=f28) rfl rfl rfl ?_;have no:∀ {a:Int} {d:Nat} {u:Prop} [Decidable u] {z:Int×List Int},a≠q\/d≠c->K (Dv (if a=q/\d=c then some z else none))->K .none:=fun e h=>by
  rw [NQ (fun z=>e.elim (fun e=>e z.1) fun e=>e z.2)] at h; exact h
 cases w with
 | on a d b=>
  refine bS (ab (x:=.int a) ix ix BN) (fun e=>aB (v:=.none) ix (no (u:=True) (.inl (ya e)) h)) fun e=>?_;refine aM (ab (x:=.str kOn) ix ix ((bk ok_on ok_close).trans (NO some (by rfl)))) ?_;refine bS (ab (x:=text [d]) ix ix (yw (sk.lowC ok.2.1) lc)) (fun e=>aB (v:=.none) ix (no (u:=True) (.inr (xj e)) h)) fun e'=>?_;refine aM (ab (x:=.str kOn) ix ix ((bk ok_on ok_open).trans (NO some (by rfl)))) (aB (v:=stV (b,p)) ix ?_);rw [AO] at h;rw [NP ⟨Id (fk e),ik (fk e')⟩] at h;exact h
 | op a d b t=>
  refine bS (ab (x:=.int a) ix ix BN) (fun e=>aB (v:=.none) ix (no (u:=True) (.inl (ya e)) h)) fun e=>?_;refine aM (ab (x:=.str a6) ix ix ((bk ok_open ok_close).trans (NO some (by rfl)))) ?_;refine bS (ab (x:=text [d]) ix ix (yw (sk.lowA ok.2.1) lc)) (fun e=>aB (v:=.none) ix (no (u:=True) (.inr (xj e)) h)) fun e'=>?_;refine fb (ab (x:=.str a6) ix ix ((bk ok_open ok_open).trans (NO some (by rfl)))) (aB (v:=stV (b,t :: p)) (aa (.two (x:=.int b) ix (aa (.two (x:=cN p) (y:=.list [.int t]) ix ix) (CB (by rw [zB5,zA4,length_reverse]; exact zB1 (add_le_add_right lp 1) (by decide))))) ?_) ?_)
  ·unfold stV cN; rw [reverse_cons,map_append]; rfl
  ·rw [AN] at h;rw [NP ⟨Id (fk e),ik (fk e')⟩] at h;exact h
 | cl a b d t=>
  refine bS (ab (x:=.int a) ix ix BN) (fun e=>aB (v:=.none) ix ?_) fun e=>?_
  ·rw [qd] at h;rw [NQ fun z=>ya e z.1] at h; exact h
  refine fb (ab (x:=.str aC) ix ix ((bk ok_close ok_close).trans (NO some (by rfl)))) ?_;have e0:=yB (l:=p.reverse.map PyData.int) (ck (lh _) (by decide));cases p with
  | nil=>
   refine fb (bH (.stop (b:=false) (ab (x:=cN []) (y:=.list []) ix ix e0))) (aB (v:=.none) ix ?_);rw [qd] at h;rw [NQ fun z=>nomatch z.2.2] at h; exact h
  | cons s p=>
   have ep:(s :: p).reverse.map PyData.int=p.reverse.map .int++[.int s]:=by rw [reverse_cons,map_append]; rfl
   have lz:(p.reverse.map PyData.int++[PyData.int s]).length<=5000:=by rw [<- ep,zA4,length_reverse]; exact zB1 lp (by decide)
   have e1:opN .sub [cN (s :: p),.int (-1)]=some (.int s):=by unfold cN; exact ep.symm▸Cx lz
   have e2:opN (.slice false true) [cN (s :: p),.int (-1)]=some (cN p):=by unfold cN; exact ep.symm▸Cy lz
   rw [show ((s :: p).reverse.map PyData.int).isEmpty=false by rw [ep]; cases p.reverse.map PyData.int <;> rfl] at e0;refine bS (bH (.go (ab (x:=cN (s :: p)) (y:=.list []) ix ix e0) (.or (ab (x:=.int b) ix (aa (.two ix ix) e1) BN) fun U=>.one' (ab (x:=text [d]) ix ix (yw (sk.lowB ok.2.2.1) lc))))) (fun e'=>aB (v:=.none) ix ?_) fun e'=>aB (v:=stV (t,p)) (aa (.two (x:=.int t) ix (aa (.two ix ix) e2)) rfl) ?_
   ·replace h:=qd▸h;rw [NQ fun z=>?_] at h
    ·exact h
    ·obtain ⟨_,z1,z2⟩:=z;obtain rfl:=LE z2;subst z1;rw [NJ,NJ] at e';(injection e'; done)
   ·refine (Bool.or_eq_false_iff.mp e').elim fun z1 z2=>?_;rw [qd] at h;rw [NP ⟨Id (fk e),ik (fk z2),by rw [Id (fk z1)]; rfl⟩] at h;exact h
structure SOk (R:Int) (d:Nat) (ns:List (Int×List Int)):Prop where
 nd:ns.Nodup
 ok:∀ s∈ns,s.2.length=d/\In R s.1/\∀ t∈s.2,In R t
noncomputable def tup:Nat->List (List Int)
 | 0=>[[]]
 | n+1=>(tup n).flatMap fun l=>(rmR 4).map (· :: l)
theorem rM:∀ n,(tup n).length=4 ^ n
 | 0=>rfl
 | n+1=>(gh (n:=4) fun l U=>length_map _).trans (by rw [rM n,pow_succ])
theorem rL (h:R<=4):∀ {l:List Int},(∀ t∈l,In R t)->l∈tup l.length
 | [],_=>.head _
 | x :: l,q=>mem_flatMap.mpr ⟨l,rL h fun t mt=>q t (.tail _ mt),mem_map.mpr ⟨x,re ⟨(q x (.head _)).1,Int.lt_of_lt_of_le (q x (.head _)).2 h⟩,rfl⟩⟩
def x4 (h:R<=4) (hd:d<=5) (o:SOk R d ns):ns.length<=4096:=by
 have nd:(ns.map fun s=>s.1 :: s.2).Nodup:=Pairwise.map _ (fun a b ne e=>ne (by injection e with e1 e2; exact Prod.ext e1 e2)) o.nd;have q:=nd.length_le_of_subset (l₂:=tup (d+1)) fun l ml=>by
  obtain ⟨s,ms,rfl⟩:=zA7 ml;obtain ⟨h1,h2,h3⟩:=o.ok s ms;have z:=rL h (l:=s.1 :: s.2) (zA1 ⟨h2,h3⟩);rw [zB4,h1] at z;exact z
 rw [zA4,rM] at q;exact zB1 q (Nat.pow_le_pow_right (by decide) (succ_le_succ hd))
def sW (h:fF n x) (q:n<=m):fF m x:=⟨h.1,zB1 h.2 q⟩
def mF (s:Int×List Int):fF 2 (stV s):=bX (zA1 ⟨sW (cG rfl) (zero_le _),forall_mem_singleton.mpr (lh _)⟩)
def wf (ns:List (Int×List Int)):fj (.list (ns.map stV))=true:=ck (n:=3) (cB fun x mx=>by obtain ⟨s,_,rfl⟩:=zA7 mx; exact mF s) (by decide)
def Dd (h:PyData.eqv (stV s) (stV s')=true):s=s':=by
 obtain ⟨h1,h2⟩:=zA2 (show ((s.1==s'.1)&&(eqvAll (s.2.reverse.map .int) (s'.2.reverse.map .int)&&true))=true from h);have sc:∀ l:List Int,(l.map PyData.int).all aA=true:=fun l=>Q6.mpr fun x mx=>by obtain ⟨i,_,rfl⟩:=zA7 mx; rfl
 exact Prod.ext (Id h1) (List.reverse_inj.mp (l9 (fun U U h=>PyData.int.inj h) (mK xJ _ (sc _) (sc _) (zA2 h2).1)))
def xQ {s:Int×List Int} {fs:List (Int×List Int)}:((fs.map stV).any fun z=>PyData.eqv z (stV s))=true ↔ s∈fs:=by
 rw [any_eq_true];constructor
 ·rintro ⟨x,mx,e⟩;obtain ⟨i,mi,rfl⟩:=zA7 mx;exact Dd e▸mi
 ·exact fun h=>⟨_,mem_map.mpr ⟨s,h,rfl⟩,PySem.SeqAt.eqv_refl _ (mF s).1⟩
def DU {ws:List W} {c:Nat} {ns fs:List (Int×List Int)} (h:∀ s',s'∈fs ↔ ∃ s∈ns,∃ w∈ws,fh w s.1 s.2 c=some s'):(fun q p=>(q,p)∈fs)=nx ws c fun q p=>(q,p)∈ns:=by
 funext q p
 refine propext ((h _).trans ⟨fun ⟨s,ms,w,mw,e⟩=>?_,fun z=>?_⟩)
 ·rcases step_iff.mp e with ⟨rfl,rfl⟩ | ⟨t,rfl,rfl⟩ | ⟨t,rfl,e'⟩
  ·exact .on s.1 ms mw
  ·exact .op s.1 t s.2 rfl ms mw
  ·exact .cl s.1 t ((show (s.1,t :: p)=s from Prod.ext rfl e'.symm)▸ms) mw
 ·rcases z with ⟨q0,z,mw⟩ | ⟨q0,t,p0,rfl,z,mw⟩ | ⟨q0,t,z,mw⟩
  ·exact ⟨_,z,_,mw,step_iff.mpr (.inl ⟨rfl,rfl⟩)⟩
  ·exact ⟨_,z,_,mw,step_iff.mpr (.inr (.inl ⟨t,rfl,rfl⟩))⟩
  ·exact ⟨_,z,_,mw,step_iff.mpr (.inr (.inr ⟨t,rfl,rfl⟩))⟩
def yU {s0 s1 s2:List Nat} {R:Int} {ws:List W} {c d d':Nat} (m:MOk s0 s1 s2 R ws) (hd:(c∈s0/\d'=d+1)\/(c∈s1/\d=d' + 1)\/(c∈s2/\d'=d)) (mw:w∈ws) {s s':Int×List Int} (h:s.2.length=d/\In R s.1/\∀ t∈s.2,In R t) (e:fh w s.1 s.2 c=some s'):s'.2.length=d'/\In R s'.1/\∀ t∈s'.2,In R t:=by
 obtain ⟨q',p'⟩:=s';obtain ⟨h1,h2,h3⟩:=h;have ok:=m.ok w mw;rcases step_iff.mp e with ⟨rfl,rfl⟩ | ⟨t,rfl,rfl⟩ | ⟨t,rfl,e'⟩
 ·rcases hd with ⟨hc,rfl⟩ | ⟨hc,rfl⟩ | ⟨hc,rfl⟩
  ·exact absurd hc (m.sk.inC ok.2.1).1
  ·exact absurd hc (m.sk.inC ok.2.1).2
  ·exact ⟨h1,ok.2.2,h3⟩
 ·rcases hd with ⟨hc,rfl⟩ | ⟨hc,rfl⟩ | ⟨hc,rfl⟩
  ·exact ⟨NO (· + 1) h1,ok.2.2.1,zA1 ⟨ok.2.2.2,h3⟩⟩
  ·exact absurd ok.2.1 (m.sk.inB hc)
  ·exact absurd ok.2.1 (m.sk.inC hc).1
 ·rcases hd with ⟨hc,rfl⟩ | ⟨hc,rfl⟩ | ⟨hc,rfl⟩
  ·exact absurd hc (m.sk.inB ok.2.2.1)
  ·rw [e',zB4] at h1;rw [e'] at h3;exact ⟨Nat.succ.inj h1,ok.2.2.2,(List.forall_mem_cons.mp h3).2⟩
  ·exact absurd ok.2.2.1 (m.sk.inC hc).2
def S29 (cf:CallF):Prop:=∀ s0 s1 s2 R st en ws w K,MOk s0 s1 s2 R ws->RoomsOk R st->Gd s0 s1 s2 5 0 0 w->w.length<=1000->(∀ b,(b=true ↔ Acc ws st en w)->K (.bool b))->cf.p 29 [cP (sg s0 s1 s2) R st en ws,text w] K
def eS (s0 s1 s2:List Nat) (R:Int) (st en:List Int) (ws:List W) (w:List Nat) (ns:List (Int×List Int)) (z3:Slot) (z4:Slot) (z5:Slot) (z6:Slot) (z7:Slot) (z8:Slot) (z9:Slot) (GP:Slot):Gs:=[.v (cP (sg s0 s1 s2) R st en ws),.v (text w),.v (.list (ns.map stV)),z3,z4,z5,z6,z7,z8,z9,GP]
inductive Ip29_1 (s0 s1 s2:List Nat) (R:Int) (ws:List W) (w:List Nat) (st en:List Int) (xs:List V) (G:Gs):Prop
 | mk (ns:List (Int×List Int)) (d:Nat) (u:List Nat) (s3:Slot) (s4:Slot) (s5:Slot) (s6:Slot) (s7:Slot) (s8:Slot) (e9_:xs=bM u) (M4:(∀ y∈u,low y=true)) (M3:Gd s0 s1 s2 5 0 d u) (M2:d<=5) (e13_:SOk R d ns) (e14_:qh ws u (fun q p=>(q,p)∈ns)=qh ws w (st0 st)) (e15_:G=(eS s0 s1 s2 R st en ws w ns s3 s4 s5 s6 s7 s8 .unset .unset)):Ip29_1 s0 s1 s2 R ws w st en xs G
inductive Ip29_2 (R:Int) (d':Nat) (s0 s1 s2:List Nat) (st en:List Int) (ws:List W) (w:List Nat) (ns:List (Int×List Int)) (c:Nat) (G:Gs) (fs:List (Int×List Int)):Prop
 | mk (Jd:SOk R d' fs) (s5:Slot) (s6:Slot) (s7:Slot) (s8:Slot) (Lf:G=(eS s0 s1 s2 R st en ws w ns (.v (text [c])) (.ownL (fs.map stV)) s5 s6 s7 s8 .unset .unset)):Ip29_2 R d' s0 s1 s2 st en ws w ns c G fs
inductive Ip29_3 (R:Int) (d':Nat) (s0 s1 s2:List Nat) (st en:List Int) (ws:List W) (w:List Nat) (ns:List (Int×List Int)) (c:Nat) (s:Int×List Int) (G:Gs) (fs:List (Int×List Int)):Prop
 | mk (Jd:SOk R d' fs) (s7:Slot) (s8:Slot) (M1:G=(eS s0 s1 s2 R st en ws w ns (.v (text [c])) (.ownL (fs.map stV)) (.v (.int s.1)) (.v (cN s.2)) s7 s8 .unset .unset)):Ip29_3 R d' s0 s1 s2 st en ws w ns c s G fs
def p29 (cf:CallF) (h28:S28 cf):S29 (step cf):=fun s0 s1 s2 R st en ws w K m os gw lw h=>by
 refine run (fn:=f29) rfl rfl rfl ?_;have GY:(st.map PyData.int).length<=5000:=by rw [zA4]; exact zB1 os.len (by decide)
 refine ai (v:=.list (st.map fun i=>stV (i,[]))) (d9 (g:=.int) (x:=ar st) ix (aT GY) fun i U=>ix) ?_;have o0:SOk R 0 (st.map fun i=>(i,[])):=⟨Pairwise.map _ (fun a b ne e=>ne (by injection e)) os.nodup,fun s ms=>by
  obtain ⟨i,mi,rfl⟩:=zA7 ms;exact ⟨rfl,os.rooms i mi,fun U q=>nM q⟩⟩
 have r0:(fun q p=>(q,p)∈st.map fun i=>(i,([]:List Int)))=st0 st:=by
  funext q p
  refine propext ⟨fun z=>?_,fun Ih=>Ih.elim fun z1 z2=>mem_map.mpr ⟨q,z1,by rw [z2]⟩⟩;refine (zA7 z).elim fun i H'=>H'.elim fun mi e=>?_;injection e with e1 e2
  exact ⟨e1▸mi,e2.symm⟩
 refine kg (xs:=bM w) (v:=text w) (P:=Ip29_1 s0 s1 s2 R ws w st en)
  ix (dW (zB1 lw (by decide))) ⟨st.map fun i=>(i,[]),0,w,_,_,_,_,_,_,rfl,xC m.sk gw,gw,zero_le _,o0,by rw [r0],by unfold eS; rw [map_map]; rfl⟩ (fun G hP=>?_) fun y l G Kt hP nx rt=>?_
 ·obtain ⟨ns,d,u,s3,s4,s5,s6,s7,s8,e,_,_,hd,o,hr,rfl⟩:=hP;cases u with
  | cons=>(injection e; done)
  | nil=>
   have hz:(ns.map stV).length<=5000:=by rw [zA4]; exact zB1 (x4 m.r hd o) (by decide)
   refine aB (ab (kD (g:=stV) (f:=fun s=>.int s.1) (p:=fun s=>decide (s.1∈en)) (H:=fun s=>(eS s0 s1 s2 R st en ws w ns s3 s4 s5 s6 s7 s8 (.v (.int s.1)) (.v (cN s.2)))) ix (aT hz) (fun s U=>rfl) (fun s U=>.one (ab (x:=.int s.1) (y:=ar en) ix ix yy)) fun s U U=>ix) ix (sM fun x mx=>?_)) (h _ ?_)
   ·obtain ⟨s,_,rfl⟩:=zA7 mx;exact sW (cG rfl) (zero_le _)
   ·unfold Acc;rw [<- hr,not_eq_true',List.isEmpty_eq_false_iff_exists_mem];constructor
    ·rintro ⟨x,mx⟩;obtain ⟨s,ms,rfl⟩:=zA7 mx;obtain ⟨ms,q⟩:=mem_filter.mp ms;exact ⟨s.1,s.2,ms,IO q⟩
    ·rintro ⟨q,p,z,hq⟩;exact ⟨_,mem_map.mpr ⟨(q,p),mem_filter.mpr ⟨z,NL hq⟩,rfl⟩⟩
 ·obtain ⟨ns,d,u,s3,s4,s5,s6,s7,s8,e,hu,gu,hd,o,hr,rfl⟩:=hP;cases u with
  | nil=>(injection e; done)
  | cons c u=>
   obtain ⟨rfl,rfl⟩:=zA5 e;have lc:=hu c (.head _);have hz:(ns.map stV).length<=5000:=by rw [zA4]; exact zB1 (x4 m.r hd o) (by decide)
   obtain ⟨d',F6,hc,gu'⟩:∃ d',d'<=5/\((c∈s0/\d'=d+1)\/(c∈s1/\d=d' + 1)\/(c∈s2/\d'=d))/\Gd s0 s1 s2 5 0 d' u:=by
    rcases gu with ⟨h1,h2,z⟩ | ⟨h1,d',h2,z⟩ | ⟨h1,z⟩
    ·exact ⟨d+1,h2,.inl ⟨h1,rfl⟩,z⟩
    ·exact ⟨d',le_of_succ_le (zB1 (zB2 h2.symm) hd),.inr (.inl ⟨h1,h2⟩),z⟩
    ·exact ⟨d,hd,.inr (.inr ⟨h1,rfl⟩),z⟩
   refine jT ?_;refine fP (op:=.forM [5,6]) (g:=stV) (xs:=ns) (fs:=[]) (A:=fun s s'=>∃ w∈ws,fh w s.1 s.2 c=some s') (J:=Ip29_2 R d' s0 s1 s2 st en ws w ns c) (fun U U U U U h=>h) ix (aT hz) ⟨⟨.nil,fun U q=>nM q⟩,_,_,_,_,rfl⟩ (fun s ms G fs Kt j nx=>?_) fun G fs j hf=>?_
   ·obtain ⟨jo,s5,s6,s7,s8,rfl⟩:=j;refine (?_:exs cf By (eS s0 s1 s2 R st en ws w ns (.v (text [c])) (.ownL (fs.map stV)) (.v (.int s.1)) (.v (cN s.2)) s7 s8 .unset .unset) Kt);refine fP (op:=.forS 7) (g:=W.v) (xs:=ws) (fs:=fs) (A:=fun w s'=>fh w s.1 s.2 c=some s') (J:=Ip29_3 R d' s0 s1 s2 st en ws w ns c s) (fun U U U U U h=>h) (v:=bi ws) ix (m7 m) ⟨jo,_,_,rfl⟩ (fun v mv G fs Kt j nx=>?_) fun G GI j hf=>av (nx _ GI ?_ hf)
    ·obtain ⟨jo,s7,s8,rfl⟩:=j;refine (?_:exs cf Bz (eS s0 s1 s2 R st en ws w ns (.v (text [c])) (.ownL (fs.map stV)) (.v (.int s.1)) (.v (cN s.2)) (.v v.v) s8 .unset .unset) Kt);have hs:=o.ok s ms;refine ai (v:=Dv (fh v s.1 s.2 c)) (aG (vs:=[v.v,.int s.1,cN s.2,text [c]]) (.cons ix (.cons ix (.two ix ix))) (fun K h=>h28 s0 s1 s2 R v s.1 s.2 c K m.sk (m.ok v mv) lc (by exact hs.1.symm▸zB1 hd (by decide)) h)) ?_;cases hv:fh v s.1 s.2 c with
     | none=>exact aM (aE (.stop (b:=true) (show Val _ _ _ (.bool false) from ix))) (av (nx _ fs ⟨jo,_,_,rfl⟩ (cQ fun p e=>nomatch hv.symm.trans e)))
     | some s'=>
      have GB:=yU m hc mv hs hv;have lf:=x4 m.r F6 jo;refine bS (aE (.go (b:=true) (show Val _ _ _ (.bool true) from ix) (.one (bn (ab (x:=stV s') (y:=.list (fs.map stV)) ix ix (wG (ck (mF s') (by decide)) (wf fs))) rfl)))) (fun q=>?_) fun q=>av (nx _ fs ⟨jo,_,_,rfl⟩ fun p=>⟨.inl,fun z=>z.elim id fun z=>?_⟩)
      ·have nm:s'∉fs:=fun z=>by rw [xQ.mpr z] at q; (injection q; done)
       refine dS (l:=fs.map stV) rfl (v:=stV s') ix (by rw [zA4]; exact Q0 lf (by decide)) (av (nx _ (fs++[s']) ⟨⟨nodup_append.mpr ⟨jo.nd,pairwise_singleton _ _,fun a ha b hb e=>nm (by obtain rfl:=zA6 hb; exact e▸ha)⟩,fun a ha=>?_⟩,_,_,by unfold eS; rw [map_append]; rfl⟩ fun p=>?_))
       ·rcases mem_append.mp ha with ha | ha
        ·exact jo.ok a ha
        ·obtain rfl:=zA6 ha; exact GB
       ·rw [mem_append,mem_singleton];exact or_congr_right ⟨fun e=>by rw [e,hv],fun e=>LE (e.symm.trans hv)⟩
      ·obtain rfl:=LE (hv.symm.trans z);exact xQ.mp (fk q)
    ·obtain ⟨jo,s7,s8,rfl⟩:=j;exact ⟨jo,_,_,_,_,rfl⟩
   ·obtain ⟨jo,s5,s6,s7,s8,rfl⟩:=j;refine fO (l:=fs.map stV) rfl (ai (v:=.list (fs.map stV)) ix (av (nx _ ⟨fs,d',u,_,_,_,_,_,_,rfl,fun y my=>hu y (.tail _ my),gu',F6,jo,?_,rfl⟩)));exact (DU (ws:=ws) (c:=c) (ns:=ns) (fs:=fs) fun s'=>(hf s').trans ⟨fun q=>q.elim (fun q=>nM q) id,.inr⟩).symm▸hr
def yx (h:∀ c∈s0,low c=true):aO .NotEq (text s0) (.str k0)=some (!s0.isEmpty):=iJ (cZ h)
def Bp (h:Gd s0 s1 s2 m d 0 w) (hc:c∈s0) (hd:d < m):Gd s0 s1 s2 m (d+1) 0 (w++[c]):=im (v:=[c]) (.inl ⟨hc,hd,rfl⟩) h
def yh (h:Gd s0 s1 s2 m (d+1) 0 w) (hc:c∈s1):Gd s0 s1 s2 m d 0 (w++[c]):=im (v:=[c]) (.inr (.inl ⟨hc,d,rfl,rfl⟩)) h
def Bo (h:Gd s0 s1 s2 m d 0 w) (hc:c∈s2):Gd s0 s1 s2 m d 0 (w++[c]):=im (v:=[c]) (.inr (.inr ⟨hc,rfl⟩)) h
def DB (h:w.length+1<=n):(w++[c]).length<=n:=by rw [zB5]; exact h
def S30 (cf:CallF):Prop:=∀ s0 s1 s2 (cs:List Int) K,SgOk s0 s1 s2->cs.length<=20->(∀ w,Gd s0 s1 s2 5 0 0 w->w.length<=40->K (text w))->cf.p 30 [sg s0 s1 s2,.list (cs.map .int)] K
def ip (s0 s1 s2:List Nat) (cs:List Int) (w:List Nat) (d:Nat) (z4:Slot) (z5:Slot):Gs:=[.v (sg s0 s1 s2),.v (.list (cs.map .int)),.v (text w),.v (.int (d:Int)),z4,z5]
inductive Ip30_1 (s0 s1 s2:List Nat) (cs:List Int) (xs:List V) (G:Gs):Prop
 | mk (is:List Int) (w:List Nat) (d:Nat) (s4:Slot) (J':xs=is.map .int) (Lf:Gd s0 s1 s2 5 d 0 w) (Le:d<=4) (M0:(d≠0->s1≠[])) (e8_:w.length+is.length<=20) (e9_:G=(ip s0 s1 s2 cs w d s4 .unset)):Ip30_1 s0 s1 s2 cs xs G
inductive Ip30_2 (s0 s1 s2:List Nat) (cs:List Int) (d:Nat) (s4:Slot) (xs:List V) (G:Gs):Prop
 | mk (is:List Int) (w:List Nat) (s5:Slot) (M1:xs=is.map .int) (J':Gd s0 s1 s2 5 is.length 0 w) (Lf:(is≠[]->s1≠[])) (Le:w.length+is.length<=40) (M0:G=(ip s0 s1 s2 cs w d s4 s5)):Ip30_2 s0 s1 s2 cs d s4 xs G
def p30 (cf:CallF):S30 (step cf):=fun s0 s1 s2 cs K sk lc h=>by
 refine run (fn:=f30) rfl rfl rfl (ai ix (ai ix ?_));refine kg (P:=Ip30_1 s0 s1 s2 cs) ix (aT (by rw [zA4]; exact zB1 lc (by decide))) ⟨cs,[],0,_,rfl,rfl,zero_le _,fun q=>absurd rfl q,by rw [length_nil,zero_add]; exact lc,rfl⟩ (fun G hP=>?_) fun x l G Kt hP nx rt=>?_
 ·obtain ⟨is,w,d,s4,_,gw,hd,hs,lw,rfl⟩:=hP;have lw:w.length<=20:=zB1 (Q3 _ _) lw;refine kg (P:=Ip30_2 s0 s1 s2 cs d s4) (c7 ix (natCast_nonneg d) (le_trans (ofNat_le.mpr hd) (by decide))) (eA (le_trans (ofNat_le.mpr hd) (by decide))) ⟨(List.range d).map fun i:Nat=>0+(i:Int),w,_,by rw [range_eq,map_map]; rfl,by rw [zA4,length_range]; exact gw,fun q=>hs fun e=>q (by rw [e]; rfl),by rw [zA4,length_range]; exact zB1 (add_le_add lw hd) (by decide),rfl⟩ (fun G hP=>?_) fun x l G Kt hP nx rt=>?_
  ·obtain ⟨is,w,s5,e,gw,_,lw,rfl⟩:=hP;obtain rfl:=map_eq_nil_iff.mp e.symm;exact aB (v:=text w) ix (h w gw (zB1 (Q3 _ _) lw))
  ·obtain ⟨is,w,s5,e,gw,hs,lw,rfl⟩:=hP;cases is with
   | nil=>(injection e; done)
   | cons i is=>
    obtain ⟨rfl,rfl⟩:=zA5 e;rw [zB4,<- add_assoc] at lw;have Lz:w.length<=40:=zB1 (Q3 _ _) (le_of_succ_le lw);have GB:=hs nofun;refine (qV (cf:=cf) (G:=(ip s0 s1 s2 cs w d s4 (.v (.int i)))) (e:=(sbE (vv 0) (ii 1))) (ei:=(adE (lnE (vv 2)) (vv 5))) (i:=(w.length:Int)+i) (s:=s1) ix (aa (.two (aa (.one ix) (il (zB1 Lz (by decide)))) ix) rfl) GB sk.lb).elim fun y JN=>JN.elim fun my hy=>?_;refine ai (v:=text (w++[y])) (aa (.two ix hy) (dL (DB (zB1 (succ_le_succ Lz) (by decide))))) (av (nx _ ⟨is,w++[y],_,rfl,yh gw my,fun U=>GB,?_,rfl⟩));rw [zB5,length_singleton,add_right_comm]; exact lw
 ·obtain ⟨is,w,d,s4,e,gw,hd,hs,lw,rfl⟩:=hP;cases is with
  | nil=>(injection e; done)
  | cons i is=>
   obtain ⟨rfl,rfl⟩:=zA5 e;rw [zB4,<- add_assoc] at lw;have lw1:=le_of_succ_le lw;have Ma:∀ c,(w++[c]).length+is.length<=20:=fun c=>by rw [zB5,length_singleton,add_right_comm]; exact lw
   have Lz:w.length<=20:=zB1 (Q3 _ _) lw1;have ad:∀ {y:Nat},(w++[y]).length<=5000:=fun {y}=>DB (zB1 (succ_le_succ Lz) (by decide));have pk:∀ {k:Int} {s:List Nat},Val cf (ip s0 s1 s2 cs w d (.v (.int i)) .unset) (sbE (vv 0) (ii k)) (text s)->s≠[]->s.length<=4->∃ y∈s,Val cf (ip s0 s1 s2 cs w d (.v (.int i)) .unset) (adE (vv 2) (sbE (sbE (vv 0) (ii k)) (mdE (fdE (vv 4) (ii 3)) (lnE (sbE (vv 0) (ii k)))))) (text (w++[y])):=fun hv hn hl=>by
    refine (qV (i:=i.fdiv 3) (ei:=(fdE (vv 4) (ii 3))) hv (aa (.two ix ix) (uD (by decide) (by decide))) hn hl).elim fun y Nh=>Nh.elim fun my hy=>?_;exact ⟨y,my,aa (.two ix hy) (dL ad)⟩
   have m3:Val cf (ip s0 s1 s2 cs w d (.v (.int i)) .unset) (mdE (vv 4) (ii 3)) (.int (i.fmod 3)):=aa (.two ix ix) (eC (by decide));refine bS (aE (.and (ab m3 ix tr) fun U=>.and (ab (x:=.int d) ix ix (t:=decide ((d:Int) < 4)) rfl) fun U=>.and (ab (x:=text s0) ix ix (yx fun c q=>sk.lowA q)) fun U=>.one (ab (x:=text s1) ix ix (yx fun c q=>sk.lowB q)))) (fun q=>?_) fun q=>?_
   ·obtain ⟨_,q⟩:=zA2 q;obtain ⟨q1,q⟩:=zA2 q;obtain ⟨q2,q3⟩:=zA2 q;have K1:d < 4:=ofNat_lt.mp (IO q1);refine (pk (k:=0) ix (fK q2) sk.la).elim fun y Ng=>Ng.elim fun my hy=>?_;exact ai hy (ai (v:=.int ((d:Int)+1)) ix (av (nx _ ⟨is,w++[y],d+1,_,rfl,Bp gw my (Nat.lt_succ_of_lt K1),K1,fun U=>fK q3,Ma y,rfl⟩)))
   ·refine bS (aE (.and (ab m3 ix tr) fun U=>.one (ab (x:=.int d) ix ix (t:=decide (0 < (d:Int))) rfl))) (fun q=>?_) fun q=>?_
    ·obtain ⟨_,q⟩:=zA2 q;cases d with
     | zero=>exact absurd (IO q) (by decide)
     | succ d=>
      obtain ⟨y,my,hy⟩:=pk (k:=1) ix (hs nofun) sk.lb;exact ai hy (ai (v:=.int (((d+1:Nat):Int) - 1)) ix (av (nx _ ⟨is,w++[y],d,_,rfl,yh gw my,le_of_succ_le hd,fun U=>hs nofun,Ma y,by rw [show ((d+1:Nat):Int) - 1=d from Int.add_sub_cancel (d:Int) 1]; rfl⟩)))
    ·refine bS (ab (x:=text s2) ix ix (yx fun c q=>sk.lowC q)) (fun q=>?_) fun q=>av (nx _ ⟨is,w,d,_,rfl,gw,hd,hs,lw1,rfl⟩);obtain ⟨y,my,hy⟩:=pk (k:=2) ix (fK q) sk.lc;exact ai hy (av (nx _ ⟨is,w++[y],d,_,rfl,Bo gw my,hd,hs,Ma y,rfl⟩))
def rwV (p:List Nat×Nat):V:=.tuple [text p.1,.int p.2]
structure RwOk (s0 s1 s2:List Nat) (n:Nat) (rs:List (List Nat×Nat)):Prop where
 gd:∀ p∈rs,Gd s0 s1 s2 5 p.2 0 p.1/\p.1.length=n/\p.2<=5
def l6 (h:(a++b).length<=af):opN (.bin .Add) [.list a,.list b]=some (.list (a++b)):=NP h
def kI (h:l.length<=af):a9 (.list l)=some l:=NP h
def lL {K:GT} {r:List S} {t:Bool} {fr:List (List Nat×Nat)} {w:List Nat} {d':Nat} {s:List Nat} (hc:Val cf G c (.bool t)) (h5:Val cf G (vv 5) (.list (fr.map rwV)))
  (he:t=true->Val cf G es (text s)/\(∀ x∈s,Val cf (G.set 8 (.v (text [x]))) ed (rwV (w++[x],d')))/\s.length<=2/\fr.length<=800000)
  (n:∀ IJ:List (List Nat×Nat),(∀ p∈IJ,p∈fr\/(t=true/\∃ x∈s,p=(w++[x],d')))->IJ.length<=fr.length+2->exs cf r (G.set 5 (.v (.list (IJ.map rwV)))) K) (hG:G.set 5 (.v (.list (fr.map rwV)))=G) :
  exs cf (.mk .ite [c] [.mk (.assign 5) [adE (vv 5) (.nd (.comp 8) [es,ed])] [] []] [] :: r) G K:=by
 refine bS hc (fun q=>?_) fun q=>by have z:=n fr (fun p m=>.inl m) (Q3 _ _); rw [hG] at z; exact z
 refine (he q).elim fun h1 Hs=>Hs.elim fun h2 Ig=>Ig.elim fun h3 h4=>?_;have e:(fr.map rwV++s.map fun x=>rwV (w++[x],d'))=(fr++s.map fun x=>(w++[x],d')).map rwV:=by rw [map_append,map_map]; rfl
 refine ai (v:=.list ((fr++s.map fun x=>(w++[x],d')).map rwV)) (aa (.two h5 (d9 (g:=fun x=>text [x]) h1 (dW (zB1 h3 (by decide))) h2)) ?_) (n _ (fun p m=>?_) ?_)
 ·exact e▸l6 (by rw [zB5,zA4,zA4]; exact zB1 (add_le_add h4 h3) (by decide))
 ·rcases mem_append.mp m with m | m
  ·exact .inl m
  ·obtain ⟨x,mx,rfl⟩:=zA7 m;exact .inr ⟨q,x,mx,rfl⟩
 ·rw [zB5,zA4]; exact Q7 h3 _
def S31 (cf:CallF):Prop:=∀ s0 s1 s2 (most:Int) K,Sg2 s0 s1 s2->0<=most->most<=6->(∀ fs:List (List Nat),(∀ w∈fs,Gd s0 s1 s2 5 0 0 w/\w.length<=6)->fs.length<=400000->K (.list (fs.map text)))->cf.p 31 [sg s0 s1 s2,.int most] K
def g31 (s0 s1 s2:List Nat) (most:Int) (Jg H9:Slot) (i:Int) (fr:List (List Nat×Nat)) (w:List Nat) (d:Nat) (s8 s9:Slot):Gs:=[.v (sg s0 s1 s2),.v (.int most),Jg,H9,.v (.int i),.v (.list (fr.map rwV)),.v (text w),.v (.int d),s8,s9]
def vq {s0 s1 s2:List Nat} {most i:Int} {k:Nat} {fr:List (List Nat×Nat)} {w:List Nat} {d:Nat} {K:GT} (sk:Sg2 s0 s1 s2) (hm:most<=6) (hi:0<=i) (hk:k<=6) (gw:Gd s0 s1 s2 5 d 0 w/\w.length=k/\d<=5) (of:RwOk s0 s1 s2 (k+1) fr) (lf:fr.length<=700000)
  (n:∀ IJ,RwOk s0 s1 s2 (k+1) IJ->IJ.length<=fr.length+6->K none (g31 s0 s1 s2 most Jg H9 i IJ w d s8 s9)) :
  exs cf ym (g31 s0 s1 s2 most Jg H9 i fr w d s8 s9) K:=by
 obtain ⟨gw,lw,hd⟩:=gw;have ad:∀ {y:Nat},(w++[y]).length<=5000:=fun {y}=>DB (by exact lw.symm▸zB1 (succ_le_succ hk) (by decide));have ln:∀ {y:Nat},(w++[y]).length=k+1:=fun {y}=>by rw [zB5,lw]; rfl
 refine lL (t:=decide (i+1+(d:Int)<=most)) (fr:=fr) (w:=w) (d':=d) (s:=s2) ix ix (fun U=>⟨ix,fun x U=>aa (.two (aa (.two ix ix) (dL ad)) ix) rfl,sk.lc,zB1 lf (by decide)⟩) (fun f1 m1 l1=>?_) rfl;have o1:RwOk s0 s1 s2 (k+1) f1:=⟨fun p mp=>(m1 p mp).elim (of.gd p) fun Ih=>Ih.elim fun U Ib=>Ib.elim fun x JK=>JK.elim fun mx e=>by subst e; exact ⟨Bo gw mx,ln,hd⟩⟩;refine lL (t:=decide (i+2+(d:Int)<=most)) (fr:=f1) (w:=w) (d':=d+1) (s:=s0) ix ix (fun U=>⟨ix,fun x U=>aa (.two (aa (.two ix ix) (dL ad)) ix) rfl,sk.la,zB1 l1 (zB1 (add_le_add_right lf 2) (by decide))⟩) (fun f2 m2 l2=>?_) rfl;have o2:RwOk s0 s1 s2 (k+1) f2:=⟨fun p mp=>(m2 p mp).elim (o1.gd p) fun IM=>IM.elim fun q H'=>H'.elim fun x JG=>JG.elim fun mx e=>by
  have q:=IO q;have K1:d < 5:=by omega
  subst e; exact ⟨Bp gw mx K1,ln,K1⟩⟩
 have l2':f2.length<=fr.length+4:=zB1 l2 (add_le_add_right l1 2);refine lL (t:=decide (0 < (d:Int))) (fr:=f2) (w:=w) (d':=d - 1) (s:=s1) ix ix (fun q=>⟨ix,fun x U=>?_,sk.lb,zB1 l2' (zB1 (add_le_add_right lf 4) (by decide))⟩) (fun f3 m3 l3=>av (n f3 ⟨fun p mp=>(m3 p mp).elim (o2.gd p) fun ⟨q,x,mx,e⟩=>?_⟩ (zB1 l3 (add_le_add_right l2' 2)))) rfl
 ·have q:=IO q;refine aa (vs:=[text (w++[x]),.int ((d:Int) - 1)]) (.two (aa (.two ix ix) (dL ad)) ix) ?_;unfold rwV;rw [show ((d - 1:Nat):Int)=(d:Int) - 1 from Int.ofNat_sub (ofNat_lt.mp q)]; rfl
 ·have q:=IO q;subst e;cases d with
  | zero=>exact absurd q (by decide)
  | succ d=>exact ⟨yh gw mx,ln,le_of_succ_le hd⟩
def nL (s0 s1 s2:List Nat) (most:Int) (rs:List (List Nat×Nat)) (y3:V) (z4:Slot) (z5:Slot) (z6:Slot) (z7:Slot) (z8:Slot) (z9:Slot):Gs:=[.v (sg s0 s1 s2),.v (.int most),.v (.list (rs.map rwV)),.v y3,z4,z5,z6,z7,z8,z9]
inductive Ip31_1 (s0 s1 s2:List Nat) (most:Int) (xs:List V) (G:Gs):Prop
 | mk (is:List Int) (k:Nat) (rs:List (List Nat×Nat)) (fs:List (List Nat)) (s4 s5 s6 s7:Slot) (Lf:xs=is.map .int) (Le:(∀ i∈is,0<=i)) (M0:k+is.length<=7) (e8_:RwOk s0 s1 s2 k rs) (e9_:rs.length<=6 ^ k) (M4:(∀ w∈fs,Gd s0 s1 s2 5 0 0 w/\w.length<=6)) (M3:fs.length<=k * 46656) (M2:G=(nL s0 s1 s2 most rs (.list (fs.map text)) s4 s5 s6 s7 .unset .unset)):Ip31_1 s0 s1 s2 most xs G
inductive Ip31_2 (rs:List (List Nat×Nat)) (s0 s1 s2:List Nat) (k:Nat) (most:Int) (fs:List (List Nat)) (i:Int) (ys:List V) (G:Gs):Prop
 | mk (ps fr:List (List Nat×Nat)) (s6 s7:Slot) (e2_:ys=ps.map rwV) (M1:(∀ p∈ps,p∈rs)) (J':RwOk s0 s1 s2 (k+1) fr) (Lf:fr.length+6 * ps.length<=6 * rs.length) (Le:G=(nL s0 s1 s2 most rs (.list ((fs++(rs.filter fun p=>p.2==0).map Prod.fst).map text)) (.v (.int i)) (.v (.list (fr.map rwV))) s6 s7 .unset .unset)):Ip31_2 rs s0 s1 s2 k most fs i ys G
def p31 (cf:CallF):S31 (step cf):=fun s0 s1 s2 most K sk m0 m4 h=>by
 refine run (fn:=f31) rfl rfl rfl (ai (v:=.list ([(([]:List Nat),0)].map rwV)) ix (ai (v:=.list (([]:List (List Nat)).map text)) ix ?_));have mn:(most+1).toNat<=7:=toNat_le.mpr (Int.add_le_add_right m4 1);refine kg (P:=Ip31_1 s0 s1 s2 most)
  (c7 (aa (.two ix ix) rfl) (add_nonneg m0 (by decide)) (le_trans (Int.add_le_add_right m4 1) (by decide))) (eA (le_trans (Int.add_le_add_right m4 1) (by decide)))
  ⟨(List.range (most+1).toNat).map fun i:Nat=>0+(i:Int),0,[([],0)],[],_,_,_,_,by rw [range_eq,map_map]; rfl,fun i mi=>by obtain ⟨j,_,rfl⟩:=zA7 mi; exact add_nonneg (by decide) (natCast_nonneg j),by rw [zA4,length_range,zero_add]; exact mn,⟨forall_mem_singleton.mpr ⟨rfl,rfl,zero_le _⟩⟩,le_refl _,fun U q=>(nM q),zero_le _,rfl⟩ (fun G hP=>?_) fun x l G Kt hP nx rt=>?_
 ·obtain ⟨is,k,rs,fs,s4,s5,s6,s7,_,_,lk,_,_,of,lf,rfl⟩:=hP;exact aB (v:=.list (fs.map text)) ix (h fs of (zB1 lf (zB1 (Nat.mul_le_mul_right _ (zB1 (Q3 _ _) lk)) (by decide))))
 ·obtain ⟨is,k,rs,fs,s4,s5,s6,s7,e,hi,lk,o,lr,of,lf,rfl⟩:=hP;cases is with
  | nil=>(injection e; done)
  | cons i is=>
   obtain ⟨rfl,rfl⟩:=zA5 e;rw [zB4,<- add_assoc] at lk;have k4:k<=6:=Nat.le_of_succ_le_succ (zB1 (succ_le_succ (Q3 _ _)) lk);have r4:rs.length<=46656:=zB1 lr (Nat.pow_le_pow_right (by decide) k4);have f4:fs.length<=279936:=zB1 lf (Nat.mul_le_mul_right 46656 k4);have i0:=hi i (.head _);have sr:a9 (.list (rs.map rwV))=some (rs.map rwV):=kI (by rw [zA4]; exact zB1 r4 (by decide));have le:(fs++(rs.filter fun p=>p.2==0).map Prod.fst).length<=(k+1) * 46656:=by
    rw [zB5,zA4,succ_mul];exact add_le_add lf (zB1 (length_filter_le _ _) r4)
   refine ai (v:=.list ((fs++(rs.filter fun p=>p.2==0).map Prod.fst).map text)) (aa (.two (x:=.list (fs.map text)) ix (kD (g:=rwV) (f:=fun p=>text p.1) (p:=fun p=>p.2==0) (H:=fun p=>(nL s0 s1 s2 most rs (.list (fs.map text)) (.v (.int i)) s5 s6 s7 (.v (text p.1)) (.v (.int p.2)))) ix sr (fun p U=>rfl) (fun p U=>.one (ab (x:=.int p.2) ix ix ?_)) fun p U U=>ix)) ?_) ?_
   ·refine NO some ?_;cases p.2 <;> rfl
   ·refine map_append.symm▸map_map.symm▸?_;refine l6 ?_;rw [zB5,zA4,zA4];exact zB1 (add_le_add f4 (zB1 (length_filter_le _ _) r4)) (by decide)
   ·have of':∀ w∈fs++(rs.filter fun p=>p.2==0).map Prod.fst,Gd s0 s1 s2 5 0 0 w/\w.length<=6:=fun w mw=>by
     refine (mem_append.mp mw).elim (fun mw=>?_) fun mw=>?_
     ·exact of w mw
     ·obtain ⟨p,mp,rfl⟩:=zA7 mw;obtain ⟨mp,q⟩:=mem_filter.mp mp;refine (o.gd p mp).elim fun g1 Ia=>Ia.elim fun g2 U=>?_;rw [Id q] at g1;exact ⟨g1,g2▸k4⟩
    refine ai (v:=.list (([]:List (List Nat×Nat)).map rwV)) ix ?_;refine wK (P:=Ip31_2 rs s0 s1 s2 k most fs i) ix sr ⟨rs,[],_,_,rfl,fun U m=>m,⟨fun U q=>nM q⟩,by rw [length_nil,zero_add]; exact le_refl _,rfl⟩ (fun G hP=>?_) fun y l' G Kt' hP nx' rt'=>?_
    ·obtain ⟨ps,fr,s6,s7,_,_,o',l',rfl⟩:=hP;refine ai (v:=.list (fr.map rwV)) ix (av (nx _ ⟨is,k+1,fr,fs++(rs.filter fun p=>p.2==0).map Prod.fst,_,_,_,_,rfl,fun j mj=>hi j (.tail _ mj),by rw [add_right_comm]; exact lk,o',?_,of',le,rfl⟩));rw [pow_succ,mul_comm];exact zB1 (zB1 (Q3 _ _) l') (mul_le_mul_left 6 lr)
    ·obtain ⟨ps,fr,s6,s7,e,mp,o',l',rfl⟩:=hP;cases ps with
     | nil=>(injection e; done)
     | cons p ps=>
      obtain ⟨rfl,rfl⟩:=zA5 e;rw [zB4,Nat.mul_succ] at l';have lf':fr.length<=700000:=zB1 (zB1 (Q3 _ _) l') (zB1 (mul_le_mul_left 6 r4) (by decide));refine (?_:exs cf ym (nL s0 s1 s2 most rs (.list ((fs++(rs.filter fun p=>p.2==0).map Prod.fst).map text)) (.v (.int i)) (.v (.list (fr.map rwV))) (.v (text p.1)) (.v (.int p.2)) .unset .unset) Kt');refine vq (k:=k) sk m4 i0 k4 (o.gd p (mp p (.head _))) o' lf' fun IJ o'' l''=>nx' _ ⟨ps,IJ,_,_,rfl,fun q mq=>mp q (.tail _ mq),o'',?_,rfl⟩;refine zB1 (add_le_add_right l'' _) (zB1 (zB2 ?_) l');rw [add_assoc,add_comm 6]
theorem rI {ws:List W}:∀ {r:List V},(∀ y∈r,y∈ws.map W.v)->∃ us:List W,r=us.map W.v/\∀ u∈us,u∈ws
 | [],_=>⟨[],rfl,fun U q=>nM q⟩
 | y :: r,h=>by
  obtain ⟨us,e,hu⟩:=rI fun z q=>h z (.tail _ q);obtain ⟨w,mw,rfl⟩:=zA7 (h y (.head _));exact ⟨w :: us,by rw [e]; rfl,zA1 ⟨mw,hu⟩⟩
def zQ {ws:List W} (hd:Held st en (ws.map W.v) C' F1 r):∃ us:List W,r=us.map W.v/\us.Nodup/\∀ w,w∈us ↔ w∈ws:=by
 obtain ⟨us,rfl,hu⟩:=rI fun y q=>(hd.mem y).mp q;refine ⟨us,rfl,Pairwise.of_map W.v (fun a b h e=>h (NO _ e)) hd.nd,fun w=>⟨hu w,fun mw=>?_⟩⟩;obtain ⟨u,mu,eu⟩:=zA7 ((hd.mem w.v).mpr (mem_map.mpr ⟨w,mw,rfl⟩));exact xW eu▸mu
def wH (hd:Held st en (ws.map W.v) C' F1 r) (hu:∀ w,w∈us ↔ w∈ws) (w:List Nat):Acc us C' F1 w ↔ Acc ws st en w:=by
 unfold Acc;rw [oK hu,show st0 C'=st0 st from funext fun q=>funext fun p=>propext (and_congr_left fun U=>hd.p1.mem_iff)];exact exists_congr fun q=>exists_congr fun p=>and_congr_right fun U=>hd.p2.mem_iff
section
variable {s0 s1 s2:List Nat} {R:Int} {st en:List Int} {ws us:List W}
theorem PartsOk.mok (sk:SgOk s0 s1 s2) (p:PartsOk s0 s1 s2 R st en ws) (hl:us.length<=10) (hu:∀ w∈us,w∈ws):MOk s0 s1 s2 R us:=⟨sk,p.r4,zB1 hl (by decide),fun w m=>p.ok w (hu w m),_,p.ops,fun w m q=>mem_filter.mpr ⟨hu w m,q⟩⟩
theorem PartsOk.good (sk:SgOk s0 s1 s2) (p:PartsOk s0 s1 s2 R st en ws):ah s0 s1 s2 R st en ws:=⟨sk,p.r1,le_trans p.r4 (by decide),p.st,p.en,zB1 p.len (by decide),p.ok⟩
def iN (h:RoomsOk R l) (p:l'.Perm l):RoomsOk R l':=⟨by rw [p.length_eq]; exact h.len,p.nodup_iff.mpr h.nodup,fun i m=>h.rooms i (p.mem_iff.mp m)⟩
end
theorem Gives.few (g:Gives M st eo tb num d F1 l):num.length<=32:=g.pl.elim fun U h=>h.elim fun U h=>h.1.few
theorem Gives.len (g:Gives M st eo tb num d F1 l):l.length=num.length * (M.s2.length+(M.s0.length+M.s1.length * num.length)):=g.hs.length_eq.trans (pK _ _ _ _)
theorem Gives.ok (mo:M.Ok) (g:Gives M st eo tb num d F1 l):HsOk l:=⟨g.hs.nodup_iff.mpr (jv mo.m.sk),fun h m=>xy mo.m.sk (gt.mp (g.hs.mem_iff.mp m)),by rw [g.hs.length_eq]; exact kY mo.sg g.few⟩
def EP (a b:Bool):aO .Eq (.bool a) (.bool b)=some (a==b):=by
 cases a <;> cases b <;> rfl
def oA (h35:S35 cf) (mo:M.Ok) (g:Gives M st en tb num d F1 hs) (gw:Gd M.s0 M.s1 M.s2 5 0 0 w) (lw:w.length<=1000) (hb:b=true ↔ Acc M.ws st en w) (h1:Val cf G e1 (plV M.s0 M.s1 M.s2 num.length F1 d hs)) (h2:Val cf G e2 (.dict (hD (oV d) hs))) (h3:Val cf G e3 (text w)):Val cf G (.nd (.call 35) [e1,e2,e3]) (.bool (b != tb)):=
 aG (.cons h1 (.two h2 h3)) fun K k=>h35 M st en tb num d F1 hs w 5 K mo g gw lw fun x hx=>by
  have e:gH en x=b:=by
   have z:=hb.trans hx;cases h:gH en x <;> cases b <;> first | rfl | exact absurd (z.mp rfl) (by rw [h]; exact NK) | exact absurd (z.mpr h) NK
  rw [e]; exact k
def Cz (hs:FS.length<=63):∃ cs:List Int,cs.length<=20/\opN (.slice true true) [lS FS,.int 14,.int 34]=some (.list (cs.map .int)):=by
 have e:∀ {d n:Nat} {i:Int},0<=i->pz d n (some (.int i))=some (min i.toNat n):=fun h=>by
  refine (?_:some _=_);rw [NP h]
 refine ⟨(FS.drop (min 14 (FS.map PyData.int).length)).take (min 34 (FS.map PyData.int).length - min 14 (FS.map PyData.int).length),zB1 (length_take_le _ _) (Nat.sub_le_of_le_add (zB1 (le_min.mpr ⟨min_le_left _ _,zB1 (min_le_right _ _) (le_add_left _ _)⟩) (zB2 (Nat.add_min_add_left 20 14 _)))),?_⟩;rw [List.map_take,List.map_drop];exact rj (l:=FS.map .int) (f:=.list) (by rw [zA4]; exact zB1 hs (by decide)) (e (by decide)) (e (by decide)) (le_min.mpr ⟨zB1 (min_le_left _ _) (by decide),min_le_right _ _⟩)
section
variable {cf:CallF} {G:Gs} {K:GT} {f g k:Nat} {es fs:List E} {vs:List V} {r:List S} {P:V->Prop}
def Ar (hv:dR cf G es vs) (h:cf.p f vs fun y=>bj (evs cf fs) G fun us=>cf.p g us fun z=>okK (opN .list [z]) fun l=>okK (opN (.bin .Add) [y,l]) P):ev cf (adE (.nd (.call f) es) (.nd .list [.nd (.call g) fs])) G P:=hv _ h
end
def zr:∀ n,n < 7->0<=([6,6,6,5,4,3,3]:List Int).getD n 0/\([6,6,6,5,4,3,3]:List Int).getD n 0<=6:=by decide
structure All (cf:CallF):Prop where
 me:MethOk cf
 h20:S20 cf
 h21:S21 cf
 h23:S23 cf
 h26:S26 cf
 h27:S27 cf
 h29:S29 cf
 h30:S30 cf
 h31:S31 cf
 h34:S34 cf
 h35:S35 cf
 h37:S37 cf
 h39:S39 cf
 h40:S40 cf
 h41:S41 cf
def g42 (FS:List Int) (sv pv mv s4 s5:V) (s6 s7 s8 s9 Jf Hv IS L2:Slot):Gs:=[.v (lS FS),.v sv,.v pv,.v mv,.v s4,.v s5,s6,s7,s8,s9,Jf,Hv,IS,L2,.unset]
def plM (M:Mc) (num:List Sh) (en:List Int) (d:List (Hd×Nat)) (hs:List Hd):V:=a7 (sg M.s0 M.s1 M.s2) num.length [0] en (hs.map (wV d))
def plO (M:Mc) (num:List Sh) (en:List Int) (d:List (Hd×Nat)) (hs:List Hd):V:=plV M.s0 M.s1 M.s2 num.length en d hs
section
variable {cf:CallF} {FS:List Int} {M:Mc} {st en C' F1 e1 e2:List Int} {ws us:List W} {n1 n2:List Sh} {d1 d2:List (Hd×Nat)} {G8 Ho:List Hd} {K:V->Prop}
inductive I42 (f:Slot->Slot->Gs) (F0:List (List Nat)) (G:Gs):Prop
 | mk (Hv IS:Slot) (e:G=f Hv IS):I42 f F0 G
def yL (A:All cf) (mo:M.Ok) (m:MOk M.s0 M.s1 M.s2 M.R ws) (so:RoomsOk M.R st) (ac:∀ w,Acc M.ws C' F1 w ↔ Acc ws st en w) (g1:Gives M C' F1 false n1 d1 e1 G8) (g2:Gives M C' F1 true n2 d2 e2 Ho) {fs:List (List Nat)} (lf:fs.length<=500000) (gf:∀ w∈fs,Gd M.s0 M.s1 M.s2 5 0 0 w/\w.length<=40) (h:K (.bool true)) :
  exs cf [.mk (.forS 11) [vv 9] Bt [],.mk .ret [bb true] [] []] (g42 FS (sg M.s0 M.s1 M.s2) (cP (sg M.s0 M.s1 M.s2) M.R st en ws) mv s4 s5 (.v (plO M n1 e1 d1 G8)) (.v (plO M n2 e2 d2 Ho)) s8 (.v (.list (fs.map text))) (.v (.tuple [.dict (hD (oV d1) G8),.dict (hD (oV d2) Ho)])) Hv IS L2) fun fl U=>K (fl.getD .none):=by
 refine eM (g:=text) (ws:=fs) (v:=.list (fs.map text)) (I:=I42 fun Hv IS=>g42 FS (sg M.s0 M.s1 M.s2) (cP (sg M.s0 M.s1 M.s2) M.R st en ws) mv s4 s5 (.v (plO M n1 e1 d1 G8)) (.v (plO M n2 e2 d2 Ho)) s8 (.v (.list (fs.map text))) (.v (.tuple [.dict (hD (oV d1) G8),.dict (hD (oV d2) Ho)])) Hv IS L2) ix (kI (by rw [zA4]; exact zB1 lf (by decide))) ⟨_,_,rfl⟩ ?_ ?_
 ·rintro G ⟨Hv,IS,rfl⟩;exact aB ix h
 ·rintro w F0 G Kt mw ⟨Hv,IS,rfl⟩ nx _;obtain ⟨gw,lw⟩:=gf w mw;have lw:w.length<=1000:=zB1 lw (by decide);refine cw (vs:=[cP (sg M.s0 M.s1 M.s2) M.R st en ws,text w]) (.two ix ix) (A.h29 M.s0 M.s1 M.s2 M.R st en ws w _ m so gw lw fun b hb=>?_);have hb:=hb.trans (ac w).symm;refine aM (bH (.go (b:=false) ((show ((b != false) != b)=false by cases b <;> rfl)▸ab (oA A.h35 mo g1 gw lw hb ix ix ix) ix (BM _ _)) (.one' ((show ((b != true)==b)=false by cases b <;> rfl)▸ab (oA A.h35 mo g2 gw lw hb ix ix ix) ix (EP _ _))))) (av (nx _ ⟨_,_,rfl⟩))
def D1 (A:All cf) (hs:FS.length<=63) (mo:M.Ok) (m:MOk M.s0 M.s1 M.s2 M.R ws) (so:RoomsOk M.R st) (ac:∀ w,Acc M.ws C' F1 w ↔ Acc ws st en w) (g1:Gives M C' F1 false n1 d1 e1 G8) (g2:Gives M C' F1 true n2 d2 e2 Ho) (h:K (.bool true)) :
  exs cf (f42.body.drop 6) (g42 FS (sg M.s0 M.s1 M.s2) (cP (sg M.s0 M.s1 M.s2) M.R st en ws) mv (plM M n1 e1 d1 G8) (plM M n2 e2 d2 Ho) .unset .unset .unset .unset .unset .unset .unset .unset) fun fl U=>K (fl.getD .none):=by
 have k1:=g1.ok mo;have k2:=g2.ok mo;have sk:=mo.m.sk;have of:∀ {G:Gs} {e:E} {n:List Sh} {en:List Int} {d:List (Hd×Nat)} {l:List Hd},Val cf G e (plM M n en d l)->en.length<=40->l.length<=4000->Val cf G (.nd (.call 37) [e]) (plO M n en d l):=fun hv l1 l2=>aG (.one hv) fun K k=>A.h37 M.s0 M.s1 M.s2 _ [0] _ _ K (by decide) l1 (by rw [zA4]; exact l2) k;refine ai (of ix g1.el k1.len) (ai (of ix g2.el k2.len) ?_);have fs:=BL (ck (zZ sk) (by decide));have pl:∀ {G:Gs} {e:E} {n:List Sh} {eo en:List Int} {tb:Bool} {d:List (Hd×Nat)} {l:List Hd},Gives M C' eo tb n d en l->Val cf G e (plO M n en d l)->Val cf G (.nd .not [.nd (.call 41) [e]]) (.bool false):=fun g hv=>aD (t:=true) (aG (.one hv) fun K k=>A.h41 M.s0 M.s1 M.s2 _ _ _ _ K sk (g.ok mo) g.few g.len k);refine aM (bH (.go (b:=false) (ab (x:=sg M.s0 M.s1 M.s2) (y:=sg M.s0 M.s1 M.s2) ix ix fs) (.go (b:=false) (ab (x:=sg M.s0 M.s1 M.s2) (y:=sg M.s0 M.s1 M.s2) ix ix fs) (.go (b:=false) (pl g1 ix) (.one' (pl g2 ix)))))) ?_;have ll:(M.s0++M.s1++M.s2).length<=6:=by
  rw [zB5,zB5];exact add_le_add (add_le_add mo.sg.la mo.sg.lb) mo.sg.lc
 have l2:(M.s0++M.s1).length<=5000:=by
  rw [zB5];exact zB1 (add_le_add sk.la sk.lb) (by decide)
 obtain ⟨m0,m4⟩:=zr _ (lt_succ_of_le ll);have e7:=iQ (l:=[6,6,6,5,4,3,3]) (i:=((M.s0++M.s1++M.s2).length:Int)) (natCast_nonneg _) (ofNat_lt.mpr (lt_succ_of_le ll));rw [toNat_natCast] at e7;generalize ([6,6,6,5,4,3,3]:List Int).getD (M.s0++M.s1++M.s2).length 0=most at e7 m0 m4;refine ai (v:=.int most) (aa (vs:=[.list (([6,6,6,5,4,3,3]:List Int).map .int),.int ((M.s0++M.s1++M.s2).length:Int)]) (.two ix (aa (.one (aa (vs:=[text (M.s0++M.s1),text M.s2]) (.two (aa (vs:=[text M.s0,text M.s1]) (.two ix ix) (dL l2)) ix) (dL (zB1 ll (by decide))))) (il (zB1 ll (by decide))))) (fL (by decide) (natCast_nonneg _) (by rw [toNat_natCast]; exact e7))) ?_;obtain ⟨cs,lc,hc⟩:=Cz hs;refine gI (Ar (vs:=[sg M.s0 M.s1 M.s2,.int most]) (.two ix ix) (A.h31 M.s0 M.s1 M.s2 most _ mo.sg m0 m4 fun fs gf lf=>?_));have vc:dR cf (g42 FS (sg M.s0 M.s1 M.s2) (cP (sg M.s0 M.s1 M.s2) M.R st en ws) mv (plM M n1 e1 d1 G8) (plM M n2 e2 d2 Ho) (.v (plO M n1 e1 d1 G8)) (.v (plO M n2 e2 d2 Ho)) (.v (.int most)) .unset .unset .unset .unset .unset) [vv 1,.nd (.comp 13) [.nd (.slice true true) [vv 0,ii 14,ii 34],Bu]] [sg M.s0 M.s1 M.s2,.list ((cs.map fun c=>A0 c 9).map .int)]:=by
  refine .two ix ?_;rw [map_map];exact d9 (g:=.int) (aa (vs:=[lS FS,.int 14,.int 34]) (.cons ix (.two ix ix)) hc) (aT (by rw [zA4]; exact zB1 lc (by decide))) fun c U=>aG (.two ix ix) fun K k=>A.h21 _ _ K k
 refine vc _ (A.h30 M.s0 M.s1 M.s2 _ _ sk (by rw [zA4]; exact lc) fun w gw lw=>ag (z:=.list ([w].map text)) rfl ?_);have lz:((fs++[w]).map text).length<=af:=by
  rw [zA4,zB5];exact zB1 (add_le_add_right lf 1) (by decide)
 refine ag (z:=.list ((fs++[w]).map text)) (by rw [map_append] at lz ⊢; exact l6 lz) ?_;refine ai (v:=.tuple [.dict (hD (oV d1) G8),.dict (hD (oV d2) Ho)]) (aa (.two (aG (vs:=[plO M n1 e1 d1 G8]) (.one ix) fun K k=>A.h34 _ _ _ _ _ _ _ K k1 k) (aG (vs:=[plO M n2 e2 d2 Ho]) (.one ix) fun K k=>A.h34 _ _ _ _ _ _ _ K k2 k)) rfl) ?_;refine yL A mo m so ac g1 g2 (by rw [zB5]; exact zB1 (add_le_add_right lf 1) (by decide)) (fun v mv=>?_) h;rcases mem_append.mp mv with mv | mv
 ·exact ⟨(gf v mv).1,zB1 (gf v mv).2 (by decide)⟩
 ·rw [zA6 mv]; exact ⟨gw,lw⟩
end
def p42 (cf:CallF) (A:All cf) (FS:List Int) (hs:FS.length<=63) (K:V->Prop) (h:K (.bool true)):(step cf).p 42 [lS FS] K:=by
 obtain ⟨s0,s1,s2,sg2,hsg⟩:=A.h23 (bC FS 0);have sk:=sg2.sk;refine run (fn:=f42) rfl rfl rfl (ai (v:=sg s0 s1 s2) (aG (vs:=[.int (bC FS 0)]) (.one (aG (vs:=[lS FS,.int 0]) (.two ix ix) fun K k=>A.h20 FS 0 K hs (by decide) k)) hsg) ?_);refine cw (vs:=[lS FS,.int 1,sg s0 s1 s2,.int 4]) (.cons ix (.cons ix (.two ix ix))) (A.h26 FS 1 s0 s1 s2 _ hs (by decide) sk fun R st en ws po=>?_);have g:=po.good sk;refine cw (vs:=[cP (sg s0 s1 s2) R st en ws]) (.one ix) (A.h27 s0 s1 s2 R st en ws _ g fun C' F1 r hd=>?_);have fr:fj (.list r)=true:=ck (n:=2) (cB (ui sk po.ok fun y q=>(hd.mem y).mp q)) (by decide);obtain ⟨us,rfl,nd,hu⟩:=zQ hd;have lu:us.length<=10:=zB1 (cK nd fun w m=>(hu w).mp m) po.len;have mo:(⟨s0,s1,s2,R,us⟩:Mc).Ok:=⟨po.mok sk lu fun w m=>(hu w).mp m,sg2⟩;have so:=iN po.st hd.p1;have le:F1.length<=40:=(iN po.en hd.p2).len;refine cw (vs:=[mvM ⟨s0,s1,s2,R,us⟩ C' F1]) (.one ix) (A.h39 ⟨s0,s1,s2,R,us⟩ C' F1 _ mo so le fun n1 d1 e1 G8 g1=>?_);refine cw (vs:=[mvM ⟨s0,s1,s2,R,us⟩ C' F1]) (.one ix) (A.h40 ⟨s0,s1,s2,R,us⟩ C' F1 _ mo so le fun n2 d2 e2 Ho g2=>?_);have lr:(us.map W.v).length<=4000:=by rw [zA4]; exact zB1 lu (by decide)
 refine aM (ab (x:=.list (us.map W.v)) (y:=.list (us.map W.v)) (wM A.me ix lr) (fun K k=>?_) (BL fr)) ?_
 ·have l64:(ws.map W.v).length < 64:=by rw [zA4]; exact Q0 po.len (by decide)
  refine A.h27 s0 s1 s2 R st en ws _ g fun Gx en'' r' F6=>⟨rfl,?_⟩;obtain rfl:=tR sk po.ok hd.nd hd.mem (hd.up l64) F6.nd F6.mem (F6.up l64);exact A.me.m13 _ _ _ _ _ _ (zB1 lr (by decide)) k
 ·exact D1 A hs mo (po.mok sk po.len fun w m=>m) po.st (wH hd hu) g1 g2 h
def meths (cf:CallF):MethOk (step cf):=⟨fun U U U U U U=>p15,fun U U U U U U=>p16,fun U U U U U U=>p17,fun U U U U U U=>p18,fun U U U U U U=>p19⟩
def Dk (FS:List Int) (hs:FS.length<=63):(aj prog 8).p 42 [.list (FS.map .int)] fun y=>y=.bool true:=by
 have b:∀ n,S14 (aj prog (n+4)):=fun n=>p14 _ (p2 _ (p1 _ (p0 (aj prog n)))) (p10 (aj prog (n+2))) (p11 _ (p10 (aj prog (n+1)))) (p13 _ (p12 _ (p3 (aj prog n)) (p10 (aj prog n))));have h4:∀ n,S4 (aj prog (n+1)):=fun n=>p4 _;have GG:∀ n,S22 (aj prog (n+1)):=fun n=>p22 _;have Hj:∀ n,S24 (aj prog (n+2)):=fun n=>p24 _ (GG n);have me:∀ n,MethOk (aj prog (n+1)):=fun n=>meths _;have J9:∀ n,S32 (aj prog (n+3)):=fun n=>p32 _ (me (n+1)) (h4 (n+1)) (p8 (aj prog (n+1))) (GG (n+1)) (Hj n);have K7:∀ n,S33 (aj prog (n+4)):=fun n=>p33 _ (me (n+2)) (h4 (n+2)) (p6 (aj prog (n+2))) (p7 (aj prog (n+2))) (GG (n+2)) (Hj (n+1)) (J9 n);have J8:∀ n,S38 (aj prog (n+5)):=fun n=>p38 _ (me (n+3)) (p5 _ (me (n+2)) (h4 (n+2))) (p9 _ (me (n+2))) (b n) (Hj (n+2)) (K7 n) (p36 _ (me (n+2)));have A:All (aj prog 7):={
  me:=me 6
  h20:=p20 (aj prog 6)
  h21:=p21 (aj prog 6)
  h23:=p23 (aj prog 6)
  h26:=p26 _ (p20 (aj prog 5)) (p21 (aj prog 5)) (p25 (aj prog 5))
  h27:=p27 _ (b 2)
  h29:=p29 _ (p28 (aj prog 5))
  h30:=p30 (aj prog 6)
  h31:=p31 (aj prog 6)
  h34:=p34 (aj prog 6)
  h35:=p35 (aj prog 6)
  h37:=p37 _ (me 5)
  h39:=p39 _ (J8 1)
  h40:=p40 _ (J8 1)
  h41:=p41 (aj prog 6) }
 exact p42 _ A FS hs _ rfl
end Mine.L05
end
noncomputable section
open PySem PySem.W PyProof.Rows
namespace Mine.L05
def said:PySem.Challenge.rw_uf010006_05.wellSaid=true:=by kernel_rfl
def law05:PySem.Challenge.rw_uf010006_05.Holds:=by
 w_on
 refine holds_law said fun said=>?_;refine holds_open (q:=vw) (loose:=[]) (Xt:=vwX) (XP:=XL vw []) (Yf:=Hook.obs qA) (Ya:=Hook.val qA) (YP:=Hook.says qA) (N:=5496) CI (Hook.of qA) (Hook.keeps qA) (fun s e=>xl_of s (Bool.and_eq_true_iff.mp e).1) XL.keeps (by rfl) (by rfl) (by rfl) (fun s e=>recFacts_of (Bool.and_eq_true_iff.mp e).2) (by rfl) said (by decide +kernel) ⟨rfl,rfl,rfl,rfl,rfl,by decide +kernel⟩ ?hw ?hc
 case hw=>w_witness2
 intro w FO s₁ mg mb G Y fa o pm cd doc dV kV ho hd hcd hD hmg hg args vals as Js hlay hrd Mr HP;obtain ⟨K,KX,e,MJ⟩:=Y;have c:=Ax (g:=⟨PySem.Challenge.rw_uf010006_05.row.prog,w,s₁.heap,mg,mb,fun f=>fnA.getD f 0,fun c=>xN.getD c 0,K,fun c=>fldN.getD c [],s₁.os,prog,newf,fnN,conN⟩) KX e MJ rfl rfl rfl rfl rfl rfl rfl G.T.g G.T.b G.T.nolimit G.T.builtins 8;have hm:some (Value.ref fa)=some (Value.ref 383):=hmg.symm.trans (c.1.fns "law" 42 rfl);cases hm
 exact vX (l:=PySem.Challenge.rw_uf010006_05) rfl rfl c.2 rfl rfl rfl hg (f:=42) (by decide) Js Mr (fun FS hs=>Dk FS hs)
end Mine.L05
theorem PySem.Challenge.cw_uf010006_05_holds : PySem.Challenge.rw_uf010006_05.Holds :=
 Mine.L05.law05
end

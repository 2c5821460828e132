import PyProof.Rows.All
import PySem.SetTable
import PyProof.WalkLemmas
import PyProof.MinMaxWalk
import PyProof.CollectWalk
import PyProof.DictIter
import PyProof.TupleKey
import PyProof.DictRoadsH
import PyProof.Rows.RowHeap
import PyProof.DictWalks
import PyProof.IsRules
import PyProof.EqKinds
import PyProof.P3Eq
import PyProof.ListNew
import PyProof.ListMulAny
import PyProof.Rows.DictLoopRows2
import PyProof.SetKind
import PyProof.Rows.SortRunsK
import PyProof.SetRoads
import PyProof.SetNew
import PyProof.Rows.SetFrom
import OpenK.KDescr
import OpenK.KCls
import Open.Line
import OpenK.KWalk
import OpenK.KMore
import Wide.FinOn
import Wide.All
import Lean
import PySem.Challenge.RW_uf010006_10
set_option Elab.async false
set_option linter.all false
set_option genSizeOf false
set_option tactic.hygienic false
set_option genSizeOfSpec false
set_option genInjectivity false
set_option maxRecDepth 100000
set_option linter.unusedVariables false
set_option maxHeartbeats 4000000
set_option maxHeartbeats 8000000
open PySem.Around (under_plainId)
open Array (all_toList any_toList forIn_toList getElem?_eq_none getElem?_toList length_toList toList_append toList_extract toList_filterMap toList_inj toList_map toList_push)
open Bool (and_eq_true eq_false_iff false_eq_true not_eq_true' or_eq_true)
open Classical (byContradiction epsilon epsilon_spec)
open PySem.Heap (SameBut get?_push_of_some get?_push_size get?_update_other get?_update_self lt_size size_push)
open Int (le_natAbs le_trans lt_toNat natCast_nonneg ofNat ofNat_le ofNat_lt toNat_le toNat_lt toNat_of_nonneg)
open PyProof.Rows.KeyOrd (kle_antisymm kle_of_klt kle_refl kle_trans)
open List (Nodup Pairwise Perm Sublist all_eq_true any_eq_false any_eq_true append_assoc append_nil drop_nil drop_zero elem_iff ext_getElem? filter filterMap_cons find?_cons find?_eq_none findIdx?_cons flatMap_cons forIn_cons forall_mem_singleton getD_eq_getElem?_getD getElem?_append_left getElem?_append_right getElem?_eq_getElem getElem?_inj getElem?_map getElem?_of_mem getElem?_set_ne getElem?_set_self getElem_mem isEmpty_iff length_drop length_eq_zero_iff length_map length_range length_take lookup lookup_cons mapM_cons map_append map_congr_left map_cons map_eq_nil_iff map_id map_map map_set mem_append mem_append_left mem_append_right mem_cons mem_filter mem_flatMap mem_flatten mem_map mem_of_getElem? mem_of_mem_take mem_range mem_singleton nil_append nodup_append nodup_cons nodup_nil nodup_range not_mem_nil pairwise_map replicate set_set size_toArray sum_cons take_add_one take_length take_nil toArray)
open Nat (Coprime add_assoc add_comm add_le_add add_le_add_left add_le_add_right add_mod add_right_comm add_sub_cancel' le_add_right le_antisymm le_of_lt le_of_lt_succ le_of_not_lt le_of_succ_le le_refl le_sub_one_of_lt le_succ le_zero lt_asymm lt_irrefl lt_of_le_of_lt lt_of_le_of_ne lt_of_lt_of_le lt_of_mul_lt_mul_right lt_or_ge lt_succ_of_le lt_succ_self lt_trans lt_trichotomy max_eq_right max_le min_eq_left mod_lt mul_comm mul_le_mul_left mul_le_mul_right mul_two ne_of_gt ne_of_lt not_le not_lt not_lt_zero one_mul pow_succ sub_le sub_lt sub_self sub_zero succ_add succ_le_succ succ_mul succ_ne_self succ_pos two_mul zero_add zero_le)
open PySem.Obj (data_mapFields mapFields mapSeq putSet)
open Option (bind_eq_some_iff bind_some getD_some isNone_iff_eq_none isSome isSome_iff_exists map_eq_some_iff map_some)
open PySem.PyData (canLayAll0 depthAll eqvAll keyHash strOk)
open PySem.Str (ofString)
noncomputable section
namespace Mine
open PySem
abbrev J0:=@PySem.Heap.get?_push_size
abbrev J5:=@Nat.lt_of_le_of_lt
abbrev J6:=@Nat.lt_of_lt_of_le
abbrev J7:=@PySem.Heap.get?_push_of_some
abbrev J8:=@List.mem_of_getElem?
abbrev J9:=@List.getElem?_eq_getElem
abbrev Ja:=@Array.getElem?_toList
abbrev Jb:=@List.all_eq_true
abbrev Jc:=@List.getElem?_map
abbrev Jd:=@Nat.le_of_lt_succ
def zA1 {α:Type _} {p:α->Prop} {a:α} {l:List α} (h:p a/\∀ x∈l,p x):∀ x∈a::l,p x:=List.forall_mem_cons.mpr h
def zA2 {a b:Bool} (h:(a&&b)=true):a=true/\b=true:=(and_eq_true _ _).mp h
def zA3 {a b:Bool} (h:a=true/\b=true):(a&&b)=true:=(and_eq_true _ _).mpr h
def zA4 {α:Type _} {β:Type _} {f:α->β} {l:List α}:(l.map f).length=l.length:=length_map _
def zA5 {α:Type _} {a b:α} {l m:List α} (h:a::l=b::m):a=b/\l=m:=List.cons.inj h
def zA6 {α:Type _} {a b:α} (h:a∈[b]):a=b:=mem_singleton.mp h
def zB1 {n m k:Nat} (a:n<=m) (b:m<=k):n<=k:=Nat.le_trans a b
def zB2 {n m:Nat} (a:n=m):n<=m:=Nat.le_of_eq a
def zB3 {α:Type _} {a:Array α}:a.toList.length=a.size:=length_toList
def zB4 {α:Type _} {a:α} {l:List α}:(a::l).length=l.length+1:=rfl
def zB5 {α:Type _} {l m:List α}:(l++m).length=l.length+m.length:=List.length_append
def zC1 {α:Type _} {β:Type _} {M:Model} {A:Around} {m:Sem α} {f:α->Sem β} {Q:β->Shared->Prop} {E:Value->Shared->Prop} {s:Shared} (h:wpAny M A m (fun a s'=>wpAny M A (f a) Q E s') E s):wpAny M A (m>>=f) Q E s:=wpAny_bind h
def zC2 {α:Type _} {M:Model} {A:Around} {a:α} {Q:α->Shared->Prop} {E:Value->Shared->Prop} {s:Shared} (h:Q a s):wpAny M A (pure a) Q E s:=wpAny_pure h
def zA7 {α:Type _} {β:Type _} {f:α->β} {b:β} {l:List α} (h:b∈l.map f):∃ a,a∈l/\f a=b:=mem_map.mp h
def nB {C:Prop} (h:false=true):C:=absurd h Bool.false_ne_true
def nM {α:Type} {x:α} {C:Prop} (h:x∈([]:List α)):C:=absurd h not_mem_nil
def nN {α:Type} {x:α} {C:Prop} (h:some x=none):C:=absurd h (Option.some_ne_none x)
def aQ {G:Prop} (h:∀ P:Prop,(G->P)->P):G:=h G id
def bSt {β:Type} {pos:Pos} {f:Unit->Sem β} {Q:β->Shared->Prop} (h:wpAny M A (f ()) Q E s):wpAny M A (standAt pos >>= f) Q E s:=zC1 (wpAny_standAt h)
def bPu {α β:Type} {a:α} {f:α->Sem β} {Q:β->Shared->Prop} (h:wpAny M A (f a) Q E s):wpAny M A (pure a >>= f) Q E s:=zC1 (wpAny_pure h)
def bRu {β:Type} {f:Unit->Sem β} {Q:β->Shared->Prop} (h:wpAny M A (f ()) Q E s):wpAny M A (rule t >>= f) Q E s:=zC1 (wpAny_rule h)
def bFi {β:Type} {a:Addr} {o:Obj} {vs} {i:Nat} {x:Value} {f:Value->Sem β} {Q:β->Shared->Prop} (ho:s.heap.get? a=some o) (hd:o.data=.fields vs) (hi:vs[i]?=some x) (h:wpAny M A (f x) Q E s):wpAny M A (field (.ref a) i >>= f) Q E s:=zC1 (wpAny_field ho hd hi h)
def bI [Decidable c] (h:¬ c) (x:wpAny M A e Q E s):wpAny M A (if c then t else e) Q E s:=if_neg h▸x
noncomputable abbrev V:=PyData
noncomputable abbrev Sc:=Int ⊕ Str
inductive Fld where
 | val (x:V)
 | L (l:List V)
 | D (l:List (V×V))
 | N (l:List (V×V))
structure Ob where
 c:Nat
 fs:List Fld
inductive Slot where
 | unset
 | junk
 | v (x:V)
 | ownL (l:List V)
 | ownD (l:List (V×V))
 | ownI (o:Ob)
 | obj (o:Ob)
 | ali (k j i:Nat)
noncomputable abbrev Gs:=List Slot
set_option genCtorIdx false in
inductive Op where
 | lit (x:V)
 | var (k:Nat)
 | bin (o:Operator)
 | cmp (o:CmpOp)
 | chain
 | and | or | not
 | tuple | list | sub
 | slice (lo hi:Bool)
 | call (f:Nat)
 | meth (c f:Nat)
 | methJ (k c f:Nat)
 | attr (c j:Nat)
 | isinst (t:Nat)
 | len | listOf | sorted | sortedSet | sortedT | lenSet
 | join
 | getD | vals | maxL
 | peek | peekN
 | comp (k:Nat)
 | range | zip
inductive E where
 | nd (o:Op) (es:List E)
set_option genCtorIdx false in
inductive SOp where
 | assign (k:Nat)
 | assignM (ks:List Nat)
 | ownL (k:Nat)
 | ownD (k:Nat)
 | ownD1 (k:Nat)
 | ownC (k f:Nat)
 | append (k:Nat)
 | setD (k:Nat)
 | setAttr (k c j:Nat)
 | setAttrO (k c j:Nat) (f:Fld)
 | call (f:Nat)
 | ret
 | ite
 | forS (k:Nat)
 | forM (ks:List Nat)
 | while
 | freeze (k:Nat)
 | freezeD (k:Nat)
 | freezeO (k:Nat)
 | raise
 | mkO (k f:Nat)
 | oCall (k c f:Nat)
 | oPopC (k c j f:Nat)
 | oApp (k c j:Nat)
 | oSet (k c j:Nat)
 | oDefApp (k c j:Nat)
 | aliS (m k c j:Nat)
 | aliG (m k c j:Nat)
 | aliSet (m:Nat)
inductive S where
 | mk (o:SOp) (es:List E) (a b:List S)
section
variable {α:Type}
noncomputable def ac:Nat:=2 ^ 20
noncomputable def bN (l:List α) (z:β):Option β:=if l.length<=ac then some z else none
noncomputable def text (l:List Nat):V:=.str ⟨l.toArray⟩
noncomputable def gC (v:V):Bool:=v.canLay0&&decide (v.depth<=64)
noncomputable def cq (x:V) (f:Bool->Option α):Option α:=match x with
 | .bool b=>f b
 | _=>none
noncomputable def qS (x:V) (f:Int->Option α):Option α:=match x with
 | .int i=>f i
 | _=>none
noncomputable def uU (x:V) (f:List Nat->Option α):Option α:=match x with
 | .str s=>f s.cps.toList
 | _=>none
noncomputable def bz (x:V) (f:List V->Option α):Option α:=match x with
 | .list l=>f l
 | _=>none
noncomputable def Bt (x:V) (f:List V->Option α):Option α:=match x with
 | .tuple l=>f l
 | _=>none
noncomputable def nE (x y:V) (f:Int->Int->Option α):Option α:=qS x fun a=>qS y (f a)
end
noncomputable def BH (x y:V):Option V:=match x with
 | .int a=>qS y fun b=>some (.int (a+b))
 | .str a=>uU y fun b=>bN (a.cps.toList++b) (text (a.cps.toList++b))
 | .list a=>bz y fun b=>bN (a++b) (.list (a++b))
 | .tuple a=>Bt y fun b=>bN (a++b) (.tuple (a++b))
 | _=>none
noncomputable def sT (o:Operator) (x y:V):Option V:=match o with
 | .Add=>BH x y
 | .Sub=>nE x y fun a b=>some (.int (a - b))
 | .Mult=>nE x y fun a b=>if b.natAbs<=1000000\/a.natAbs<=1000000 then some (.int (a * b)) else none
 | .FloorDiv=>nE x y fun a b=>if b=0\/1000000 < b.natAbs then none else some (.int (a.fdiv b))
 | .Mod=>nE x y fun a b=>if b=0 then none else some (.int (a.fmod b))
 | _=>none
noncomputable def eqO (a b:V):Option Bool:=if (gC a&&gC b)=true then some (PyData.eqv a b) else none
noncomputable def isNone:V->Bool
 | .none=>true
 | _=>false
noncomputable def aG (x:V):Bool:=match x with
 | .int _=>true
 | .str s=>strOk s
 | _=>false
noncomputable def lvV (n:Nat):V->Bool:=Nat.rec (motive:=fun U=>V->Bool) aG (fun U ih x=>match x with | .none=>true | .tuple l=>l.all ih | x=>aG x) n
noncomputable def aJ (x:V):Bool:=match x with
 | .tuple l=>l.all (lvV 3)
 | _=>false
noncomputable def dkV (kvs:List (V×V)):Bool:=kvs.all fun p=>aJ p.1
noncomputable def bP (kvs:List (V×V)) (y:V):Option V:=(kvs.find? fun p=>PyData.eqv p.1 y).map (·.2)
noncomputable def cE (kvs:List (V×V)) (y v:V):List (V×V):=if (kvs.any fun p=>PyData.eqv p.1 y)=true then kvs.map fun p=>if PyData.eqv p.1 y=true then (p.1,v) else p else kvs++[(y,v)]
noncomputable def inO (a b:V):Option Bool:=match b with
 | .str t=>uU a fun s=>match s with | [c]=>some (t.cps.toList.elem c) | _=>none
 | .list l=>if (gC a&&gC (.list l))=true then some (l.any fun x=>PyData.eqv x a) else none
 | .tuple l=>if (gC a&&gC (.tuple l))=true then some (l.any fun x=>PyData.eqv x a) else none
 | .dict l=>if (dkV l&&aJ a)=true then some (bP l a).isSome else none
 | _=>none
noncomputable def bo (o:CmpOp) (x y:V):Option Bool:=match o with
 | .Eq=>eqO x y
 | .NotEq=>(eqO x y).map (!·)
 | .Lt=>nE x y fun a b=>some (decide (a < b))
 | .LtE=>nE x y fun a b=>some (decide (a<=b))
 | .Gt=>nE x y fun a b=>some (decide (b < a))
 | .GtE=>nE x y fun a b=>some (decide (b<=a))
 | .Is=>if isNone y=true then some (isNone x) else none
 | .IsNot=>if isNone y=true then some (!isNone x) else none
 | .In=>inO x y
 | .NotIn=>(inO x y).map (!·)
noncomputable def bL (s:List Nat):List V:=s.map fun c=>text [c]
noncomputable def bw (a b:Int):List V:=(List.range (b - a).toNat).map fun (i:Nat)=>.int (a+i)
noncomputable def rOk (i:Int):Bool:=Nat.ble i.natAbs 4611686018427387903
noncomputable def lN (a b:Int):Option V:=if rOk a=true/\rOk b=true then bN (bw a b) (.list (bw a b)) else none
noncomputable def lW (l:List α) (f:α->V) (y:V):Option V:=qS y fun i=>if l.length<=ac then (if 0<=i then l[i.toNat]? else if 0<=i+l.length then l[(i+l.length).toNat]? else none).map f else none
noncomputable def sN (x y:V):Option V:=match x with
 | .list l=>lW l id y
 | .tuple l=>lW l id y
 | .str s=>lW s.cps.toList (fun c=>text [c]) y
 | .dict kvs=>if (dkV kvs&&aJ y)=true then bP kvs y else none
 | _=>none
noncomputable def xw (d n:Nat) (y:Option V):Option Nat:=match y with
 | none=>some d
 | some x=>qS x fun i=>some (if 0<=i then min i.toNat n else (i+n).toNat)
noncomputable def sX (f:List α->V) (l:List α) (lo hi:Option V):Option V:=
 if l.length<=ac then (xw 0 l.length lo).bind fun i=>(xw l.length l.length hi).bind fun j=>if i<=j then some (f ((l.drop i).take (j - i))) else none else none
noncomputable def dG (a:V) (lo hi:Option V):Option V:=match a with
 | .list l=>sX .list l lo hi
 | .tuple l=>sX .tuple l lo hi
 | .str s=>sX text s.cps.toList lo hi
 | _=>none
noncomputable def hA:List String:=["str", "tuple", "list", "int", "bool"]
noncomputable def isT (x:V) (t:Nat):Option Bool:=match x with
 | .none=>some false
 | .bool _=>some (t==4||t==3)
 | .int _=>some (t==3)
 | .str _=>some (t==0)
 | .list _=>some (t==2)
 | .tuple _=>some (t==1)
 | .dict _=>none
noncomputable def wd (x:V):Option (List V):=match x with
 | .list l=>bN l l
 | .tuple l=>bN l l
 | .str s=>bN s.cps.toList (bL s.cps.toList)
 | _=>none
noncomputable def bM (x:V):Option (List V):=match x with
 | .dict kvs=>if dkV kvs=true then bN kvs (kvs.map (·.1)) else none
 | x=>wd x
noncomputable def fw (l:List V):Option (List (List Nat)):=l.mapM fun x=>uU x some
noncomputable def cT (l:List V):Option (List Int):=l.mapM fun x=>qS x some
noncomputable def gM (CJ:List Nat):List (List Nat)->List Nat
 | []=>[]
 | [x]=>x
 | x :: r=>x++CJ++gM CJ r
def okK {α:Type} (o:Option α) (K:α->Prop):Prop:=match o with
 | some z=>K z
 | none=>False
noncomputable abbrev D:=Gs->(V->Prop)->Prop
noncomputable abbrev B:=Gs->(Option V->Gs->Prop)->Prop
structure CallF where
 p:Nat->List V->(V->Prop)->Prop
 j:Nat->List V->(V->Prop)->Prop
 m:Nat->List V->(Ob->Prop)->Prop
 o:Nat->Ob->List V->(V->Ob->Prop)->Prop
noncomputable def getSlot (G:Gs) (k:Nat):Slot:=G.getD k .unset
noncomputable def uQ (G:Gs) (k:Nat):Option V:=match getSlot G k with
 | .v x=>some x
 | _=>none
noncomputable def gK (G:Gs) (k:Nat):Option (List V):=match getSlot G k with
 | .ownL l=>some l
 | _=>none
noncomputable def ib (G:Gs) (k:Nat):Option (List (V×V)):=match getSlot G k with
 | .ownD l=>some l
 | _=>none
noncomputable def ia (G:Gs) (k:Nat):Option Ob:=match getSlot G k with
 | .ownI o=>some o
 | _=>none
noncomputable def lf (G:Gs) (k:Nat):Option Ob:=match getSlot G k with
 | .obj o=>some o
 | _=>none
noncomputable def dC (G:Gs) (k c:Nat):Option Ob:=(lf G k).bind fun o=>if o.c=c then some o else none
noncomputable def dI (G:Gs) (k c:Nat):Option Ob:=(ia G k).bind fun o=>if o.c=c then some o else none
noncomputable def lZ (c:Nat) (l:List V):V:=.dict (l.map fun x=>(.int c,x))
noncomputable def Fld.v:Fld->V
 | .val x=>x
 | .L l=>.list l
 | .D l=>.dict l
 | .N l=>.dict l
noncomputable def Ob.v (o:Ob):V:=lZ o.c (o.fs.map Fld.v)
noncomputable def Ob.sl (o:Ob):Slot:=match o.fs with
 | []=>.junk
 | _ :: _=>.v o.v
noncomputable def qZ (o:Ob) (j:Nat):Option (List V):=match o.fs[j]? with
 | some (.L l)=>some l
 | _=>none
noncomputable def w5 (o:Ob) (j:Nat):Option (List (V×V)):=match o.fs[j]? with
 | some (.D l)=>some l
 | _=>none
noncomputable def fldN (o:Ob) (j:Nat):Option (List (V×V)):=match o.fs[j]? with
 | some (.N l)=>some l
 | _=>none
noncomputable def Ob.set (o:Ob) (j:Nat) (f:Fld):Ob:=⟨o.c,o.fs.set j f⟩
noncomputable def lC (G:Gs) (m:Nat):Option (Nat×Nat×Nat×Ob×List (V×V)×V×V):=match getSlot G m with
 | .ali k j i=>(lf G k).bind fun o=>(fldN o j).bind fun l=>(l[i]?).map fun p=>(k,j,i,o,l,p)
 | _=>none
noncomputable def w2 (G:Gs) (m:Nat) (s:Slot):Slot:=match s with
 | .ownL l=>.v (.list l)
 | .ownD l=>.v (.dict l)
 | .ownI _=>.junk
 | .obj o=>o.sl
 | .ali _ _ _=>match lC G m with | some (_,_,_,_,_,_,x)=>.v x | none=>.junk
 | s=>s
noncomputable def Ay (G l:Gs):Nat->Gs:=List.rec (motive:=fun U=>Nat->Gs) (fun U=>[]) (fun s U ih m=>w2 G m s :: ih (m+1)) l
noncomputable def eF (G:Gs):Gs:=Ay G G 0
theorem qX (G:Gs):∀ (l:Gs) (m k:Nat),(Ay G l m)[k]?=(l[k]?).map (w2 G (m+k))
 | [],_,_=>rfl
 | _ :: _,_,0=>rfl
 | _ :: l,m,k+1=>(qX G l (m+1) k).trans (by rw [add_right_comm]; rfl)
def frz_at (G:Gs) (k:Nat):(eF G)[k]?=(G[k]?).map (w2 G k):=(qX G G 0 k).trans (by rw [zero_add])
theorem nJ (G:Gs):∀ (l:Gs) (m:Nat),(Ay G l m).length=l.length
 | [],_=>rfl
 | _ :: l,m=>congrArg (· + 1) (nJ G l (m+1))
noncomputable def flN (n:Nat):V->Bool:=Nat.rec (motive:=fun U=>V->Bool) (fun x=>match x with | .tuple _=>false | .list _=>false | .dict _=>false | _=>true) (fun U ih x=>match x with | .tuple l=>l.all ih | .list _=>false | .dict _=>false | _=>true) n
noncomputable def fJ:V->Bool:=flN 4
noncomputable def eU (x:V):Bool:=match x with
 | .list l=>l.all fJ
 | _=>false
def be (ds:List D) (G:Gs):(List V->Prop)->Prop:=
 List.rec (motive:=fun U=>(List V->Prop)->Prop) (fun f=>f []) (fun d U ih f=>d G fun x=>ih fun xs=>f (x :: xs)) ds
def eR (ds:List D) (G:Gs) (f:V->Prop):Prop:=match ds with
 | [d]=>d G f
 | _=>False
def cm (b:Bool) (ds:List D) (G:Gs):(Bool->Prop)->Prop:=
 List.rec (motive:=fun U=>(Bool->Prop)->Prop) (fun f=>f b) (fun d U ih f=>d G fun x=>okK (cq x some) fun c=>if c=b then ih f else f c) ds
def Ae (ds:List D) (G:Gs) (K:V->Prop):Prop:=match ds with
 | [a,b,c]=>a G fun x=>b G fun y=>okK (bo .LtE x y) fun t=>if t=true then c G fun z=>okK (bo .Lt y z) fun u=>K (.bool u) else K (.bool false)
 | _=>False
noncomputable def jm (k:Nat) (G:Gs) (x:V):Option Gs:=some (G.set k (.v x))
noncomputable def bu (ks:List Nat) (G:Gs) (x:V):Option Gs:=match x with
 | .tuple xs=>if xs.length=ks.length then some ((ks.zip xs).foldl (fun G p=>G.set p.1 (.v p.2)) G) else none
 | _=>none
def iH (e:D) (ts:List D) (b:Gs->V->Option Gs) (G:Gs) (xs:List V):(List V->Prop)->Prop:=
 List.rec (motive:=fun U=>(List V->Prop)->Prop) (fun f=>f [])
  (fun x U ih f=>okK (b G x) fun G'=>cm true ts G' fun c=>if c=true then e G' fun y=>ih fun ys=>f (y :: ys) else ih f) xs
def vT (b:Gs->V->Option Gs) (ds:List D) (G:Gs) (K:V->Prop):Prop:=match ds with
 | s :: e :: ts=>s G fun x=>okK (bM x) fun xs=>iH e ts b G xs fun ys=>K (.list ys)
 | _=>False
noncomputable def one {α:Type} (xs:List V) (f:V->Option α):Option α:=match xs with
 | [x]=>f x
 | _=>none
noncomputable def two {α:Type} (xs:List V) (f:V->V->Option α):Option α:=match xs with
 | [x,y]=>f x y
 | _=>none
noncomputable def y8 (lo hi:Bool) (xs:List V):Option V:=match xs,lo,hi with
 | [x],false,false=>dG x none none
 | [x,y],true,false=>dG x (some y) none
 | [x,y],false,true=>dG x none (some y)
 | [x,y,z],true,true=>dG x (some y) (some z)
 | _,_,_=>none
noncomputable def og (l r:List V):List V:=List.zipWith (fun a b=>.tuple [a,b]) l r
noncomputable def fC (x:V):Option (List V):=match x with
 | .list l=>bN l l
 | .tuple l=>bN l l
 | _=>none
noncomputable def kOf (x:V):Sc:=match x with
 | .int i=>.inl i
 | .str t=>.inr t
 | _=>.inl 0
noncomputable def oh (x:V):Bool:=match x with
 | .tuple (.str t :: l)=>(PyData.str t :: l).all aG
 | _=>false
noncomputable def jo (x:V):Bool:=match x with
 | .tuple (y :: l)=>(aG y&&l.all aG)
 | _=>false
noncomputable def au (x:V):List Sc:=match x with
 | .tuple l=>l.map kOf
 | _=>[]
noncomputable def ltK:List Sc->List Sc->Bool
 | k :: ks,m :: ms=>if k=m then ltK ks ms else k.isLeft==m.isLeft
 | _,_=>true
noncomputable def gA:Sc->Sc->Bool
 | .inl a,.inl b=>decide (a < b)
 | .inr x,.inr y=>decide (x.cps.toList < y.cps.toList)
 | .inl _,.inr _=>true
 | .inr _,.inl _=>false
noncomputable def bf:List Sc->List Sc->Bool
 | k :: ks,m :: ms=>if k=m then bf ks ms else gA k m
 | [],_ :: _=>true
 | _,[]=>false
def lex_cc (k m:Sc) (ks ms:List Sc):bf (k :: ks) (m :: ms)=if k=m then bf ks ms else gA k m:=rfl
def zD (k m:Sc) (ks ms:List Sc):ltK (k :: ks) (m :: ms)=if k=m then ltK ks ms else k.isLeft==m.isLeft:=rfl
def fM (r:List V):Prop:=r.Pairwise fun x y=>bf (au y) (au x)=false
open Classical in
noncomputable def jn (x:V):Option Nat:=match x with
 | .str s=>if s.cps.toList.Nodup/\s.cps.size < 4000 then some s.cps.size else none
 | .list l=>(cT l).bind fun is=>if is.Nodup/\is.length < 4000 then some is.length else none
 | _=>none
noncomputable def ikO (kvs:List (V×V)):Option Nat:=match kvs with
 | (.int c,_) :: _=>some c.toNat
 | _=>none
noncomputable def lY (c:Nat) (x:V):Bool:=match x with
 | .dict kvs=>ikO kvs==some c
 | _=>false
noncomputable def ya (x:V):Option (List V):=match x with
 | .dict kvs=>if dkV kvs=true then bN kvs (kvs.map (·.1)) else none
 | x=>fC x
noncomputable def opN (o:Op) (xs:List V):Option V:=match o with
 | .bin o=>two xs (sT o)
 | .tuple=>bN xs (.tuple xs)
 | .list=>bN xs (.list xs)
 | .sub=>two xs sN
 | .slice lo hi=>y8 lo hi xs
 | .attr c j=>one xs fun x=>match x with | .dict kvs=>if ikO kvs=some c then (kvs[j]?).map (·.2) else none | _=>none
 | .isinst t=>one xs fun x=>(isT x t).map .bool
 | .len=>one xs fun x=>(bM x).map fun l=>.int l.length
 | .listOf=>one xs fun x=>(ya x).map .list
 | .lenSet=>one xs fun x=>(jn x).map fun (n:Nat)=>PyData.int n
 | .join=>two xs fun x y=>uU x fun CJ=>bz y fun l=>(fw l).bind fun ss=>if (ss.map List.length).sum+ss.length * CJ.length<=ac then some (text (gM CJ ss)) else none
 | .getD=>match xs with
  | [.dict kvs,y,z]=>if (dkV kvs&&aJ y)=true then some ((bP kvs y).getD z) else none
  | _=>none
 | .vals=>one xs fun x=>match x with | .dict kvs=>if dkV kvs=true then bN kvs (.list (kvs.map (·.2))) else none | _=>none
 | .range=>match xs with
  | [x]=>qS x fun b=>lN 0 b
  | [x,y]=>nE x y lN
  | _=>none
 | .zip=>two xs fun x y=>(fC x).bind fun l=>(fC y).map fun r=>.list (og l r)
 | _=>none
noncomputable def isStr (x:V):Bool:=match x with
 | .str _=>true
 | _=>false
def BN (ok:V->Bool) (ds:List D) (G:Gs) (f:V->V->Prop):Prop:=match ds with
 | [a,b]=>a G fun x=>ok x=true/\b G fun y=>f x y
 | _=>False
def xX (ok:V->Bool) (ds:List D) (G:Gs) (f:V->List V->Prop):Prop:=match ds with
 | a :: r=>a G fun x=>ok x=true/\be r G fun xs=>f x xs
 | _=>False
noncomputable def pG (x:V):Bool:=match x with
 | .dict kvs=>dkV kvs
 | _=>false
noncomputable def vJ (x:V):Option (List V):=match x with
 | .list l=>some l
 | .dict kvs=>if dkV kvs=true then some (kvs.map (·.1)) else none
 | _=>none
def bF (cf:CallF) (o:Op) (ds:List D) (G:Gs) (K:V->Prop):Prop:=match o with
 | .lit x=>K x
 | .var k=>okK (uQ G k) K
 | .cmp o=>be ds G fun xs=>okK (two xs (bo o)) fun b=>K (.bool b)
 | .not=>eR ds G fun x=>okK (cq x some) fun b=>K (.bool (!b))
 | .chain=>Ae ds G K
 | .and=>cm true ds G fun b=>K (.bool b)
 | .or=>cm false ds G fun b=>K (.bool b)
 | .call f=>be ds G fun xs=>cf.p f xs K
 | .meth c f=>xX (lY c) ds G fun x xs=>cf.p f (x :: xs) K
 | .getD=>xX pG ds G fun x xs=>okK (opN .getD (x :: xs)) K
 | .methJ k c f=>okK (dI G k c) fun U=>be ds G fun xs=>cf.j f xs K
 | .sorted=>eR ds G fun x=>okK (bz x cT) fun is=>is.length < 64/\∀ r:List Int,r.Perm is->r.Pairwise (·<=·)->K (.list (r.map .int))
 | .sortedSet=>eR ds G fun x=>okK (bz x some) fun l=>(l.all oh&&decide (l.length<=ac))=true/\(∀ x∈l,∀ y∈l,ltK (au x) (au y)=true)/\(∃ m:List V,m.length < 64/\∀ x∈l,x∈m)/\∀ r:List V,r.Nodup->(∀ y,y∈r ↔ y∈l)->fM r->K (.list r)
 | .sortedT=>eR ds G fun x=>okK (vJ x) fun l=>(l.all jo&&decide (l.length < 64))=true/\(∀ x∈l,∀ y∈l,ltK (au x) (au y)=true)/\∀ r:List V,r.Perm l->fM r->K (.list r)
 | .maxL=>eR ds G fun x=>okK (bz x cT) fun is=>is.length<=ac/\∀ m:Int,(is=[]->m=1)->(is≠[]->m∈is/\∀ x∈is,x<=m)->K (.int m)
 | .peek=>eR ds (eF G) fun y=>fJ y=true/\K y
 | .peekN=>eR ds (eF G) fun y=>eU y=true/\K y
 | .comp k=>vT (jm k) ds G K
 | .join=>BN isStr ds G fun x y=>okK (opN .join [x,y]) K
 | o=>be ds G fun xs=>okK (opN o xs) K
noncomputable def ev (cf:CallF) (e:E):D:=
 E.rec (motive_1:=fun U=>D) (motive_2:=fun U=>List D) (fun o U ih=>bF cf o ih) [] (fun U U i is=>i :: is) e
noncomputable def jv (b:Gs->V->Option Gs) (A:B) (xs:List V):B:=
 List.rec (motive:=fun U=>B) (fun G K=>K none G)
  (fun x U ih G K=>okK (b G x) fun G'=>A G' fun fl EO=>match fl with | none=>ih EO K | some y=>K (some y) EO) xs
def uP (T:D) (X:B) (G:Gs) (K:Option V->Gs->Prop):Prop:=∃ P:Nat->Gs->Prop,(∃ n,P n G)/\∀ n G,P n G->T G fun x=>okK (cq x some) fun t=>if t=true then X G fun fl G'=>(match fl with | none=>∃ m,m < n/\P m G' | some y=>K (some y) G') else K none G
def yX (ds:List D) (X:B) (G:Gs) (K:Option V->Gs->Prop):Prop:=match ds with
 | [d]=>uP d X G K
 | _=>False
noncomputable def idxD (kvs:List (V×V)) (y:V):Option Nat:=kvs.findIdx? fun p=>PyData.eqv p.1 y
noncomputable def gL (s:Slot):Bool:=match s with
 | .ali _ _ _=>false
 | _=>true
def kh (o:Ob) (j:Nat) (l:List (V×V)) (y e:V) (K:Ob->Nat->Prop):Prop:=match idxD l y with
 | some i=>K o i
 | none=>K (o.set j (.N (l++[(y,e)]))) l.length
def xy (k c j:Nat) (ds:List D) (G:Gs) (K:Option V->Gs->Prop):Prop:=match ds with
 | [a,b]=>okK (dC G k c) fun o=>okK (fldN o j) fun l=>l.length<=ac/\a G fun y=>aJ y=true/\kh o j l y (.list []) fun o' i=>okK (fldN o' j) fun l'=>okK (l'[i]?) fun p=>okK (bz p.2 some) fun m=>b (G.set k (.obj o')) fun x=>m.length < ac/\K none (G.set k (.obj (o'.set j (.N (l'.set i (p.1,.list (m++[x])))))))
 | _=>False
def c8 (cf:CallF) (o:SOp) (ds:List D) (X Y:B) (G:Gs) (K:Option V->Gs->Prop):Prop:=match o with
 | .assign k=>eR ds G fun x=>K none (G.set k (.v x))
 | .assignM ks=>eR ds G fun x=>okK (bu ks G x) (K none)
 | .ownL k=>be ds G fun xs=>xs.length<=ac/\K none (G.set k (.ownL xs))
 | .ownD k=>K none (G.set k (.ownD []))
 | .ownD1 k=>be ds G fun xs=>okK (two xs fun y v=>if aJ y=true then some (y,v) else none) fun p=>K none (G.set k (.ownD [p]))
 | .ownC k f=>be ds G fun xs=>cf.p f xs fun y=>eU y=true/\okK (bz y some) fun l=>K none (G.set k (.ownL l))
 | .append k=>okK (gK G k) fun l=>eR ds G fun x=>l.length < ac/\K none (G.set k (.ownL (l++[x])))
 | .setD k=>okK (ib G k) fun l=>be ds G fun xs=>okK (two xs fun v x=>if (aJ x&&decide (l.length < ac))=true then some (cE l x v) else none) fun l'=>K none (G.set k (.ownD l'))
 | .setAttr k c j=>eR ds G fun x=>okK (dI G k c) fun o=>o.fs.length=j/\K none (G.set k (.ownI ⟨o.c,o.fs++[.val x]⟩))
 | .setAttrO k c j f=>okK (dI G k c) fun o=>o.fs.length=j/\K none (G.set k (.ownI ⟨o.c,o.fs++[f]⟩))
 | .call f=>be ds G fun xs=>cf.p f xs fun y=>isNone y=true/\K none G
 | .ret=>eR ds G fun x=>K (some x) G
 | .ite=>eR ds G fun x=>okK (cq x some) fun t=>if t=true then X G K else Y G K
 | .forS k=>eR ds G fun x=>okK (bM x) fun xs=>jv (jm k) X xs G K
 | .forM ks=>eR ds G fun x=>okK (bM x) fun xs=>jv (bu ks) X xs G K
 | .while=>yX ds X G K
 | .freeze k=>okK (gK G k) fun l=>K none (G.set k (.v (.list l)))
 | .freezeD k=>okK (ib G k) fun l=>K none (G.set k (.v (.dict l)))
 | .freezeO k=>okK (lf G k) fun o=>K none (G.set k o.sl)
 | .raise=>False
 | .mkO k f=>(G.all gL=true/\getSlot G k=.unset)/\be ds G fun xs=>cf.m f xs fun o=>K none (G.set k (.obj o))
 | .oCall k c f=>okK (dC G k c) fun o=>be ds G fun xs=>cf.o f o xs fun y o'=>isNone y=true/\K none (G.set k (.obj o'))
 | .oPopC k c j f=>okK (dC G k c) fun o=>okK (qZ o j) fun l=>l.length<=ac/\okK l.head? fun y=>cf.o f (o.set j (.L l.tail)) [y] fun z o'=>isNone z=true/\K none (G.set k (.obj o'))
 | .oApp k c j=>okK (dC G k c) fun o=>okK (qZ o j) fun l=>eR ds G fun x=>l.length < ac/\K none (G.set k (.obj (o.set j (.L (l++[x])))))
 | .oSet k c j=>okK (dC G k c) fun o=>okK (w5 o j) fun l=>be ds G fun xs=>okK (two xs fun v x=>if (aJ x&&decide (l.length < ac))=true then some (cE l x v) else none) fun l'=>K none (G.set k (.obj (o.set j (.D l'))))
 | .oDefApp k c j=>xy k c j ds G K
 | .aliS m k c j=>okK (dC G k c) fun o=>okK (fldN o j) fun l=>l.length<=ac/\eR ds G fun y=>aJ y=true/\kh o j l y (.dict []) fun o' i=>K none ((G.set k (.obj o')).set m (.ali k j i))
 | .aliG m k c j=>okK (dC G k c) fun o=>okK (fldN o j) fun l=>l.length<=ac/\eR ds G fun y=>aJ y=true/\match idxD l y with | some i=>K none (G.set m (.ali k j i)) | none=>K none (G.set m (.v (.dict [])))
 | .aliSet m=>okK (lC G m) fun (k,j,i,o,l,p)=>be ds G fun xs=>okK (two xs fun v x=>match p.2 with | .dict d=>if (aJ x&&decide (d.length < ac))=true then some (cE d x v) else none | _=>none) fun d=>K none (G.set k (.obj (o.set j (.N (l.set i (p.1,.dict d))))))
noncomputable def ex (cf:CallF) (s:S):B:=
 S.rec (motive_1:=fun U=>B) (motive_2:=fun U=>B) (fun o es U U x y=>c8 cf o (es.map (ev cf)) x y) (fun G K=>K none G)
  (fun U U i is G K=>i G fun fl G'=>match fl with | none=>is G' K | some x=>K (some x) G') s
noncomputable def exs (cf:CallF) (l:List S):B:=
 List.rec (motive:=fun U=>B) (fun G K=>K none G) (fun s U is G K=>ex cf s G fun fl G'=>match fl with | none=>is G' K | some x=>K (some x) G') l
inductive Fk where
 | fn | cls (c n:Nat) | ocls (c:Nat) | jun | met
structure Fn where
 npar:Nat
 nslots:Nat
 kind:Fk
 body:List S
structure Prog where
 fns:List Fn
noncomputable def fr0 (fn:Fn) (hd:List Slot) (args:List V):Gs:=hd++args.map .v++replicate (fn.nslots - fn.npar) .unset
def yG (P:Prog) (cf:CallF) (f:Nat) (args:List V) (K:V->Prop):Prop:=okK (P.fns[f]?) fun fn=>match fn.kind with
 | .fn=>args.length=fn.npar/\exs cf fn.body (fr0 fn [] args) fun fl U=>K (fl.getD .none)
 | .cls c n=>args.length+1=fn.npar/\exs cf fn.body (fr0 fn [.ownI ⟨c,[]⟩] args) fun fl G=>fl=none/\okK (ia G 0) fun o=>o.c=c/\∃ l:List V,o.fs=l.map .val/\l.length=n/\K (lZ c l)
 | _=>False
def yJ (P:Prog) (cf:CallF) (f:Nat) (args:List V) (K:V->Prop):Prop:=okK (P.fns[f]?) fun fn=>match fn.kind with
 | .jun=>args.length+1=fn.npar/\exs cf fn.body (fr0 fn [.junk] args) fun fl U=>K (fl.getD .none)
 | _=>False
def yI (P:Prog) (cf:CallF) (f:Nat) (args:List V) (K:Ob->Prop):Prop:=okK (P.fns[f]?) fun fn=>match fn.kind with
 | .ocls c=>args.length+1=fn.npar/\exs cf fn.body (fr0 fn [.ownI ⟨c,[]⟩] args) fun fl G=>fl=none/\okK (ia G 0) fun o=>o.c=c/\K o
 | _=>False
def yH (P:Prog) (cf:CallF) (f:Nat) (o:Ob) (args:List V) (K:V->Ob->Prop):Prop:=okK (P.fns[f]?) fun fn=>match fn.kind with
 | .met=>args.length+1=fn.npar/\exs cf fn.body (fr0 fn [.obj o] args) fun fl G=>okK (lf G 0) fun o'=>K (fl.getD .none) o'
 | _=>False
noncomputable def xT (P:Prog) (cf:CallF):CallF:=⟨yG P cf,yJ P cf,yI P cf,yH P cf⟩
noncomputable def ak (P:Prog) (d:Nat):CallF:=
 Nat.rec (motive:=fun U=>CallF) ⟨fun U U U=>False,fun U U U=>False,fun U U U=>False,fun U U U U=>False⟩ (fun U cf=>xT P cf) d
end Mine
end
noncomputable section
namespace Mine
open PySem PySem.Calls PyProof.Rows PySem.W
noncomputable def pE (a:List Nat):List Nat->Bool:=List.rec (motive:=fun U=>List Nat->Bool) (fun b=>match b with | []=>true | _=>false) (fun x U ih b=>match b with | []=>false | y :: r=>Nat.beq x y&&ih r) a
theorem listEq_iff:∀ a b:List Nat,pE a b=true ↔ a=b
 | [],[]=>⟨fun U=>rfl,fun U=>rfl⟩
 | [],_ :: _=>⟨fun h=>(nomatch h),fun h=>(nomatch h)⟩
 | _ :: _,[]=>⟨fun h=>(nomatch h),fun h=>(nomatch h)⟩
 | x :: a,y :: b=>by
  refine (?_:(Nat.beq x y&&pE a b)=true ↔ _);rw [and_eq_true,listEq_iff a b,Nat.beq_eq,List.cons.injEq]
set_option warn.classDefReducibility false in
noncomputable def lr:BEq Str:=⟨fun a b=>pE a.cps.toList b.cps.toList⟩
def q9:lr=instBEqOfDecidableEq:=congrArg BEq.mk (funext fun a=>funext fun b=>by
 rw [Bool.eq_iff_iff,listEq_iff,decide_eq_true_iff];exact ⟨fun h=>by cases a; cases b; exact congrArg Str.mk (toList_inj.mp h),fun h=>by rw [h]⟩)
noncomputable def pw [BEq Str]:List Str->Bool
 | []=>true
 | x :: r=>!r.elem x&&pw r
theorem ng:∀ {l:List Str},pw l=true->l.Nodup
 | [],_=>nodup_nil
 | x :: r,h=>by
  have h:=zA2 h;exact nodup_cons.mpr ⟨fun m=>by rw [elem_iff.mpr m] at h; exact (nB h.1),ng h.2⟩
noncomputable def aL [BEq Str] (x:Str):Bool:=!(x==("__debug__" : Str))&&!(x==("__classdict__" : Str))
noncomputable def bC:List (Str×Value):=[("len",.builtin "len"),("isinstance",.builtin "isinstance"),("str",.type "str"),("int",.type "int"),("bool",.type "bool"),("list",.type "list"),("tuple",.type "tuple"),
 ("set",.type "set"),("range",.type "range"),("zip",.type "zip"),("sorted",.builtin "sorted"),("max",.builtin "max")]
noncomputable def bH (e:Expr):Bool:=e.ctorIdx != 7
noncomputable def aj (e:Expr):Bool:=e.ctorIdx != 22
noncomputable def bK [BEq Str] (sc:List (Str×NameKind)) (x:Str):Bool:=(sc.lookup x==some .globalImplicit)&&aL x
noncomputable def gb (c:Const) (x:V):Bool:=match x with
 | .none=>c==.none
 | .bool b=>c==.bool b
 | .int i=>c==.int i
 | .str t=>c==.str t
 | _=>false
noncomputable def bR (e:Expr):Bool:=!(Nat.ble 8 e.ctorIdx&&Nat.ble e.ctorIdx 10)
noncomputable def pz (e:Expr):Bool:=bR e&&e.ctorIdx != 25
noncomputable def gJ [BEq Str] (sc names:List (Str×NameKind)):List (Str×NameKind):=names.map fun (n,k)=>if k==.free&&sc.lookup n==some .cell then (n,.cell) else (n,k)
structure Sx where
 sc:List (Str×NameKind)
 ρ:List (Str×Nat)
 nf:Nat
 ns:Nat
 nw:Bool
set_option genCtorIdx false in
inductive Pz where
 | val
 | test
 | new
 | src (st:Bool) (T:Expr)
 | asg (y:Str) (py sp:Pos)
noncomputable abbrev Kid:=Sx×Pz×Expr
structure Zx where
 fns:List (Str×Nat)
 cons:List (Str×V)
 flds:List (List Str)
 meths:List (Nat×Str×Nat)
 newf:Nat->Bool
noncomputable def bX (xs:List Expr):Bool:=xs.all aj
noncomputable def bm (x:Expr):Option (Str×Pos):=if h:x.ctorIdx=23 then some (Expr.Name.elim (motive_1:=fun U=>Str×Pos) x h fun n p=>(n,p)) else none
noncomputable def sV (x:Expr):Option (List Expr×Nat×Pos):=if h:x.ctorIdx=25 then some (Expr.Tuple.elim (motive_1:=fun U=>List Expr×Nat×Pos) x h fun xs k p=>(xs,k,p)) else none
noncomputable def uT (x:Expr):Option (List Expr×Pos):=if h:x.ctorIdx=24 then some (Expr.List.elim (motive_1:=fun U=>List Expr×Pos) x h fun xs p=>(xs,p)) else none
noncomputable def qe (x:Expr):Option (Expr×Expr×Pos):=if h:x.ctorIdx=21 then some (Expr.Subscript.elim (motive_1:=fun U=>Expr×Expr×Pos) x h fun v s p=>(v,s,p)) else none
noncomputable def xM (x:Expr):Option (Option Expr×Option Expr×Option Expr×Pos):=if h:x.ctorIdx=26 then some (Expr.Slice.elim (motive_1:=fun U=>Option Expr×Option Expr×Option Expr×Pos) x h fun l u st p=>(l,u,st,p)) else none
noncomputable def g8 (x:Expr):Option (Expr×List Expr×List Keyword×Pos):=if h:x.ctorIdx=16 then some (Expr.Call.elim (motive_1:=fun U=>Expr×List Expr×List Keyword×Pos) x h fun u xs ks p=>(u,xs,ks,p)) else none
noncomputable def bt (e:Expr):Bool:=e.ctorIdx==19||e.ctorIdx==20||e.ctorIdx==23||(g8 e).any fun c=>!c.2.1.isEmpty
noncomputable def g9 (x:Expr):Option (Expr×Str×Pos):=if h:x.ctorIdx=20 then some (Expr.Attribute.elim (motive_1:=fun U=>Expr×Str×Pos) x h fun o n q=>(o,n,q)) else none
noncomputable def oj (x:Expr):Option (List (Option Expr)×List Expr×Pos):=if h:x.ctorIdx=6 then some (Expr.Dict.elim (motive_1:=fun U=>List (Option Expr)×List Expr×Pos) x h fun ks vs p=>(ks,vs,p)) else none
noncomputable def gx {α:Type}:List α->Option α
 | [y]=>some y
 | _=>none
noncomputable def two? {α:Type}:List α->Option (α×α)
 | [y,z]=>some (y,z)
 | _=>none
noncomputable def x3 (x y:V):Bool:=match x with
 | .int i=>(match y with | .int j=>i==j | _=>false)
 | .str s=>(match y with | .str t=>s==t | _=>false)
 | _=>false
noncomputable def gQ (x:Expr):Option (Const×Nat×Pos):=if h:x.ctorIdx=19 then some (Expr.Constant.elim (motive_1:=fun U=>Const×Nat×Pos) x h fun c k p=>(c,k,p)) else none
noncomputable def xP (x:Expr):Option (Expr×Operator×Expr×Pos):=if h:x.ctorIdx=2 then some (Expr.BinOp.elim (motive_1:=fun U=>Expr×Operator×Expr×Pos) x h fun l o r p=>(l,o,r,p)) else none
noncomputable def v8 (x:Expr):Option (Expr×List CmpOp×List Expr×Pos):=if h:x.ctorIdx=15 then some (Expr.Compare.elim (motive_1:=fun U=>Expr×List CmpOp×List Expr×Pos) x h fun l o r p=>(l,o,r,p)) else none
noncomputable def om (x:Expr):Option (BoolOp×List Expr×Pos):=if h:x.ctorIdx=0 then some (Expr.BoolOp.elim (motive_1:=fun U=>BoolOp×List Expr×Pos) x h fun o xs p=>(o,xs,p)) else none
noncomputable def vUn (x:Expr):Option (UnaryOp×Expr×Pos):=if h:x.ctorIdx=3 then some (Expr.UnaryOp.elim (motive_1:=fun U=>UnaryOp×Expr×Pos) x h fun o y p=>(o,y,p)) else none
noncomputable def sM (x:Expr):Option (Expr×List Comprehension×Scope×Pos):=if h:x.ctorIdx=8 then some (Expr.ListComp.elim (motive_1:=fun U=>Expr×List Comprehension×Scope×Pos) x h fun y gs sc p=>(y,gs,sc,p)) else none
@[irreducible] def nCall [BEq Str] (X:Sx) (nm:Str) (x:Expr) (f:List Expr->Bool):Bool:=(g8 x).any fun c=>(bm c.1).any fun n=>n.1==nm&&(bK X.sc nm&&(c.2.2.1.isEmpty&&f c.2.1))
noncomputable def dc [BEq Str] (X:Sx) (nm:Str) (x:Expr) (f:Expr->Bool):Bool:=nCall X nm x fun xs=>(gx xs).any f
@[irreducible] def mCall (x:Expr) (f:Expr->Str->List Expr->Bool):Bool:=(g8 x).any fun c=>(g9 c.1).any fun a=>c.2.2.1.isEmpty&&(a.2.2.endLine==c.2.2.2.line&&f a.1 a.2.1 c.2.1)
noncomputable def vf [BEq Str] (X:Sx) (k:List Kid->Bool) (nm:Str) (x:Expr):Bool:=mCall x fun y n xs=>n==nm&&(bt y&&(gx xs).any fun e=>aj e&&k [(X,.val,y),(X,.val,e)])
noncomputable def lz [BEq Str] (X:Sx) (scope:Scope) (x x':Str):Bool:=scope.kind==.function&&(scope.names.lookup x==some .local&&(scope.names.lookup x'==some .local&&(scope.names.all (fun p=>p.2 != .cell)&&(scope.names.all (fun p=>p.2 != .local||scope.names.lookup p.1==some .local)&&(scope.names.all (fun p=>p.2 != .free||((X.sc.lookup p.1==some .cell||X.sc.lookup p.1==some .free)&&(X.ρ.lookup p.1).isSome))&&decide (X.nf+2<=X.ns))))))
noncomputable def Sx.comp [BEq Str] (X:Sx) (scope:Scope) (x x':Str):Sx:=⟨gJ X.sc scope.names,(x,X.nf) :: (x',X.nf+1) :: X.ρ.filter (fun p=>scope.names.lookup p.1==some .free),X.nf+2,X.ns,X.nw⟩
@[irreducible] def cCall [BEq Str] (Z:Zx) (X:Sx) (f:Nat) (x:Expr) (k:List Expr->Bool):Bool:=(g8 x).any fun c=>(bm c.1).any fun n=>Z.fns.lookup n.1==some f&&(bK X.sc n.1&&(c.2.2.1.isEmpty&&k c.2.1))
noncomputable def AS:Pz->Bool
 | .val=>true
 | _=>false
noncomputable def isComp (o:Op):Bool:=match o with
 | .comp _=>true
 | _=>false
noncomputable def ym (xs:List Expr):Bool:=bX xs&&decide (xs.length < 30)
noncomputable def oA [BEq Str] (Z:Zx) (c f:Nat) (nm:Str):Bool:=Z.meths.any fun m=>m.1==c&&(m.2.1==nm&&m.2.2==f)
noncomputable def oM [BEq Str] (Z:Zx) (c j:Nat) (nm:Str):Bool:=(Z.flds[c]?).any fun l=>l[j]?==some nm
noncomputable def lT [BEq Str] (X:Sx) (i:Nat) (y:Expr):Bool:=(bm y).any fun m=>X.ρ.lookup m.1==some i&&aL m.1
noncomputable def jF [BEq Str] (Z:Zx) (X:Sx) (i c j:Nat) (y:Expr):Bool:=(g9 y).any fun q=>oM Z c j q.2.1&&lT X i q.1
noncomputable def jx (x:Expr):Bool:=(oj x).any fun q=>q.1.isEmpty&&q.2.1.isEmpty
noncomputable def pK (x:Expr):Bool:=(uT x).any fun q=>q.1.isEmpty
section
variable [BEq Str] (Z:Zx) (o:Op) (k:List Kid->Bool) (X:Sx)
noncomputable def nT (p:Pz) (x:Expr):Bool:=match o with
 | .lit v=>(gQ x).any (fun q=>gb q.1 v&&k [])||(bm x).any fun m=>bK X.sc m.1&&((Z.cons.lookup m.1).any (x3 v)&&k [])
 | .var j=>(bm x).any fun m=>X.ρ.lookup m.1==some j&&(aL m.1&&k [])
 | .bin op=>(xP x).any fun q=>decide (op=q.2.1)&&k [(X,.val,q.1),(X,.val,q.2.2.1)]
 | .cmp c=>(v8 x).any fun q=>(gx q.2.1).any fun c'=>decide (c=c')&&(gx q.2.2.1).any fun r=>bH r&&k [(X,.val,q.1),(X,.val,r)]
 | .chain=>(v8 x).any fun q=>(two? q.2.1).any fun c=>decide (.LtE=c.1)&&(decide (.Lt=c.2)&&(two? q.2.2.1).any fun r=>bH r.2&&k [(X,.val,q.1),(X,.val,r.1),(X,.val,r.2)])
 | .and=>(om x).any fun q=>decide (.And=q.1)&&(!q.2.1.isEmpty&&k (q.2.1.map fun x=>(X,p,x)))
 | .or=>(om x).any fun q=>decide (.Or=q.1)&&(!q.2.1.isEmpty&&k (q.2.1.map fun x=>(X,p,x)))
 | .not=>(vUn x).any fun q=>decide (.Not=q.1)&&k [(X,p,q.2.1)]
 | .tuple=>(sV x).any fun q=>bX q.1&&k (q.1.map fun x=>(X,.val,x))
 | .list=>(uT x).any fun q=>bX q.1&&k (q.1.map fun x=>(X,.val,x))
 | .sub=>(qe x).any fun q=>k [(X,.val,q.1),(X,.val,q.2.1)]
 | .slice bl bh=>(qe x).any fun v=>(xM v.2.1).any fun q=>q.2.2.1.isNone&&(q.1.isSome==bl&&(q.2.1.isSome==bh&&k ((X,.val,v.1) :: (q.1.toList++q.2.1.toList).map fun x=>(X,.val,x))))
 | .attr c j=>(g9 x).any fun q=>bt q.1&&(oM Z c j q.2.1&&k [(X,.val,q.1)])
 | .comp j=>(sM x).any fun q=>(gx q.2.1).any fun c=>c.is_async==0&&(bm c.target).any fun n=>lz X q.2.2.1 n.1 n.1&&(j==X.nf&&(bH c.iter&&k ((X,.src false (.Name n.1 n.2),c.iter) :: (X.comp q.2.2.1 n.1 n.1,.val,q.1) :: c.ifs.map fun x=>(X.comp q.2.2.1 n.1 n.1,.test,x))))
 | .peek=>k [(X,p,x)]
 | .peekN=>AS p&&k [(X,.new,x)]
 | .getD=>mCall x fun y nm xs=>nm==("get" : Str)&&(bt y&&(two? xs).any fun e=>aj e.1&&(aj e.2&&k [(X,.val,y),(X,.val,e.1),(X,.val,e.2)]))
 | .vals=>dc X "list" x fun z=>mCall z fun d nm xs=>nm==("values" : Str)&&(bt d&&(xs.isEmpty&&k [(X,.val,d)]))
 | .maxL=>(g8 x).any fun c=>(bm c.1).any fun n=>n.1==("max" : Str)&&(bK X.sc n.1&&((gx c.2.2.1).any (fun q=>q.arg==some ("default" : Str)&&(gQ q.value).any fun z=>gb z.1 (.int 1))&&(gx c.2.1).any fun y=>aj y&&k [(X,.val,y)]))
 | .isinst t=>nCall X "isinstance" x fun xs=>(two? xs).any fun y=>aj y.1&&(bm y.2).any fun T=>bK X.sc T.1&&((hA[t]?).any (fun T'=>T.1==ofString T')&&k [(X,.val,y.1)])
 | .len=>dc X "len" x fun y=>aj y&&k [(X,.val,y)]
 | .lenSet=>dc X "len" x fun y=>dc X "set" y fun z=>aj z&&k [(X,.val,z)]
 | .listOf=>dc X "list" x fun y=>aj y&&k [(X,.val,y)]
 | .sorted=>dc X "sorted" x fun y=>aj y&&k [(X,.val,y)]
 | .sortedT=>dc X "sorted" x fun y=>aj y&&k [(X,.val,y)]
 | .sortedSet=>dc X "sorted" x fun y=>dc X "set" y fun z=>aj z&&k [(X,.val,z)]
 | .call f=>cCall Z X f x fun xs=>bX xs&&k (xs.map fun x=>(X,.val,x))
 | .join=>vf X k "join" x
 | .meth c f=>mCall x fun y nm xs=>bt y&&(oA Z c f nm&&(ym xs&&k ((X,.val,y) :: xs.map fun x=>(X,.val,x))))
 | .methJ i c f=>mCall x fun y nm xs=>lT X i y&&(oA Z c f nm&&(ym xs&&k (xs.map fun x=>(X,.val,x))))
 | _=>false
noncomputable def AC (f:Str) (x:Expr):Bool:=nCall X f x fun xs=>bX xs&&k (xs.map fun x=>(X,.val,x))
noncomputable def yF (x:Expr):Bool:=bR x&&nT Z o k X .val x||isComp o&&nT Z o k X .val x
noncomputable def Bw:Bool:=match o with
 | .listOf=>true
 | .sortedT=>true
 | _=>false
noncomputable def yE (p:Pz) (x:Expr):Bool:=match p with
 | .val=>nT Z o k X .val x
 | .test=>nT Z o k X .test x
 | .new=>Bw o&&nT Z o k X .val x
 | .src st T=>match o with
  | .range=>AC k X "range" x
  | .zip=>(sV T).any fun U=>AC k X "zip" x
  | _=>nT Z o k X .val x
 | .asg _ _ _=>yF Z o k X x
end
noncomputable abbrev Ck:=Kid->Bool
noncomputable def oE (cs:List Ck):List Kid->Bool:=
 List.rec (motive:=fun U=>List Kid->Bool) (fun ts=>ts.isEmpty) (fun c U ih ts=>match ts with | []=>false | t :: r=>c t&&ih r) cs
noncomputable def xG [BEq Str] (Z:Zx) (e:E):Ck:=
 E.rec (motive_1:=fun U=>Ck) (motive_2:=fun U=>List Ck) (fun o U ih t=>yE Z o (oE ih) t.1 t.2.1 t.2.2) [] (fun U U i is=>i :: is) e
noncomputable def eP [BEq Str] (X:Sx) (m:Str) (j:Nat):Bool:=X.ρ.lookup m==some j&&!(X.sc.lookup m==some .free)
noncomputable def lJ [BEq Str] (X:Sx):List Expr->List Nat->Bool
 | [],js=>js.isEmpty
 | t :: r,js=>(bm t).any fun m=>match js with | []=>false | j :: q=>eP X m.1 j&&lJ X r q
noncomputable def fQ (x:Stmt) (f:Expr->Expr->Pos->Bool):Bool:=if h:x.ctorIdx=5 then Stmt.Assign.elim (motive_2:=fun U=>Bool) x h fun ts v p=>(gx ts).any fun t=>f t v p else false
noncomputable def v7 (x:Stmt) (f:Expr->Bool):Bool:=if h:x.ctorIdx=24 then Stmt.Expr.elim (motive_2:=fun U=>Bool) x h fun e U=>f e else false
noncomputable def xN (x:Stmt) (f:Expr->Bool):Bool:=if h:x.ctorIdx=3 then Stmt.Return.elim (motive_2:=fun U=>Bool) x h fun e U=>e.any f else false
noncomputable def xO (x:Stmt) (f:Expr->List Stmt->List Stmt->Bool):Bool:=if h:x.ctorIdx=12 then Stmt.If.elim (motive_2:=fun U=>Bool) x h fun c a b U=>f c a b else false
noncomputable def v6 (x:Stmt) (f:Expr->Expr->List Stmt->Bool):Bool:=if h:x.ctorIdx=9 then Stmt.For.elim (motive_2:=fun U=>Bool) x h fun T it body el U=>el.isEmpty&&f T it body else false
noncomputable def vRs (x:Stmt):Bool:=x.ctorIdx==16
noncomputable def vWh (x:Stmt) (f:Expr->List Stmt->Bool):Bool:=if h:x.ctorIdx=11 then Stmt.While.elim (motive_2:=fun U=>Bool) x h fun t body el U=>el.isEmpty&&f t body else false
noncomputable def BF:Fld->Bool
 | .L []=>true
 | .D []=>true
 | .N []=>true
 | _=>false
noncomputable def Aw:Fld->Bool
 | .L _=>false
 | _=>true
noncomputable def uS (x:Stmt) (f:Expr->Str->List Expr->Bool):Bool:=v7 x fun e=>mCall e f
noncomputable abbrev CkS:=Sx->List Stmt->Bool
noncomputable abbrev CkM:=Sx->List Stmt->(List Stmt->Bool)->Bool
noncomputable def Bv (c:Stmt->Bool) (rest:List Stmt->Bool):List Stmt->Bool
 | []=>false
 | x :: r=>c x&&rest r
section
variable [BEq Str] (Z:Zx) (o:SOp) (k:List Kid->Bool) (ca cb:CkS) (X:Sx)
noncomputable def vV (x:Stmt):Bool:=match o with
 | .assign j=>fQ x fun t v p=>(bm t).any fun m=>eP X m.1 j&&k [(X,.asg m.1 m.2 p,v)]
 | .assignM js=>fQ x fun t v p=>(sV t).any fun q=>lJ X q.1 js&&(pz v&&k [(X,.val,v)])
 | .ownL j=>fQ x fun t v p=>(bm t).any fun m=>eP X m.1 j&&(uT v).any fun q=>bX q.1&&k (q.1.map fun x=>(X,.val,x))
 | .ownD j=>fQ x fun t v p=>(bm t).any fun m=>eP X m.1 j&&(jx v&&k [])
 | .ownD1 j=>fQ x fun t v p=>(bm t).any fun m=>eP X m.1 j&&(oj v).any fun q=>(gx q.1).any fun a=>a.any fun a=>(gx q.2.1).any fun b=>k [(X,.val,a),(X,.val,b)]
 | .ownC j f=>fQ x fun t v p=>(bm t).any fun m=>eP X m.1 j&&(Z.newf f&&cCall Z X f v fun xs=>bX xs&&k (xs.map fun x=>(X,.val,x)))
 | .setD j=>fQ x fun t v p=>(qe t).any fun q=>(bm q.1).any fun m=>X.ρ.lookup m.1==some j&&(aL m.1&&(bR v&&k [(X,.val,v),(X,.val,q.2.1)]))
 | .setAttr i c j=>fQ x fun t v p=>(g9 t).any fun u=>(bm u.1).any fun m=>X.ρ.lookup m.1==some i&&(aL m.1&&(oM Z c j u.2.1&&(bR v&&k [(X,.val,v)])))
 | .setAttrO i c j f=>fQ x fun t v p=>(g9 t).any fun u=>(bm u.1).any fun m=>X.ρ.lookup m.1==some i&&(aL m.1&&(oM Z c j u.2.1&&(BF f&&((if Aw f=true then jx v else pK v)&&k []))))
 | .call f=>v7 x fun e=>cCall Z X f e fun xs=>bX xs&&k (xs.map fun x=>(X,.val,x))
 | .append j=>uS x fun y nm xs=>nm==("append" : Str)&&((gx xs).any (fun e=>aj e&&k [(X,.val,e)])&&(bm y).any fun m=>X.ρ.lookup m.1==some j&&aL m.1)
 | .ret=>xN x fun e=>if X.nw then k [(X,.new,e)] else k [(X,.val,e)]
 | .ite=>xO x fun c a b=>k [(X,.test,c)]&&(ca X a&&cb X b)
 | .while=>vWh x fun c a=>k [(X,.test,c)]&&ca X a
 | .forS j=>v6 x fun T it body=>bH it&&(ca X body&&(bm T).any fun m=>eP X m.1 j&&k [(X,.src true (.Name m.1 m.2),it)])
 | .forM js=>v6 x fun T it body=>bH it&&(ca X body&&(sV T).any fun q=>lJ X q.1 js&&k [(X,.src true (.Tuple q.1 q.2.1 q.2.2),it)])
 | .raise=>vRs x
 | .mkO j f=>fQ x fun t v p=>(bm t).any fun m=>eP X m.1 j&&cCall Z X f v fun xs=>bX xs&&k (xs.map fun x=>(X,.val,x))
 | .oCall i c f=>uS x fun y nm xs=>lT X i y&&(oA Z c f nm&&(ym xs&&k (xs.map fun x=>(X,.val,x))))
 | .oPopC i c j f=>uS x fun y nm xs=>lT X i y&&(oA Z c f nm&&(gx xs).any fun z=>k []&&mCall z fun u n zs=>n==("pop" : Str)&&(jF Z X i c j u&&(gx zs).any fun w=>(gQ w).any fun q=>gb q.1 (.int 0)))
 | .oApp i c j=>uS x fun y nm xs=>nm==("append" : Str)&&(jF Z X i c j y&&(gx xs).any fun e=>aj e&&k [(X,.val,e)])
 | .oSet i c j=>fQ x fun t v p=>(qe t).any fun q=>jF Z X i c j q.1&&(bR v&&k [(X,.val,v),(X,.val,q.2.1)])
 | .oDefApp i c j=>uS x fun y nm xs=>nm==("append" : Str)&&(gx xs).any fun e=>aj e&&mCall y fun u n zs=>n==("setdefault" : Str)&&(jF Z X i c j u&&(two? zs).any fun z=>aj z.1&&(pK z.2&&k [(X,.val,z.1),(X,.val,e)]))
 | .aliS m i c j=>fQ x fun t v p=>(bm t).any fun q=>eP X q.1 m&&mCall v fun u n zs=>n==("setdefault" : Str)&&(jF Z X i c j u&&(two? zs).any fun z=>aj z.1&&(jx z.2&&k [(X,.val,z.1)]))
 | .aliG m i c j=>fQ x fun t v p=>(bm t).any fun q=>eP X q.1 m&&mCall v fun u n zs=>n==("get" : Str)&&(jF Z X i c j u&&(two? zs).any fun z=>aj z.1&&(jx z.2&&k [(X,.val,z.1)]))
 | .aliSet m=>fQ x fun t v p=>(qe t).any fun q=>lT X m q.1&&(bR v&&k [(X,.val,v),(X,.val,q.2.1)])
 | _=>false
noncomputable def vX (Cn:List Stmt) (rest:List Stmt->Bool):Bool:=match o with
 | .freeze _=>rest Cn
 | .freezeD _=>rest Cn
 | .freezeO _=>rest Cn
 | _=>Bv (vV Z o k ca cb X) rest Cn
end
noncomputable def AB [BEq Str] (Z:Zx) (s:S):CkM:=
 S.rec (motive_1:=fun U=>CkM) (motive_2:=fun U=>CkS) (fun o es U U a b X Cn rest=>vX Z o (oE (es.map (xG Z))) a b X Cn rest) (fun U Cn=>Cn.isEmpty) (fun U U i is X Cn=>i X Cn (is X)) s
noncomputable def vW [BEq Str] (Z:Zx) (l:List S):CkS:=List.rec (motive:=fun U=>CkS) (fun U Cn=>Cn.isEmpty) (fun s U is X Cn=>AB Z s X Cn (is X)) l
noncomputable def lA [BEq Str] (K:Frag) (cd:Value) (q:Str):Bool:=match cd with
 | .ref c=>(match K.lookup c with
  | some ⟨_,_,.fields vs,_⟩=>(match (vs[1]?:Option Value) with | some (.str q' _)=>q'==q | _=>false)
  | _=>false)
 | _=>false
noncomputable def AM:Value->Bool
 | .none=>true
 | _=>false
noncomputable abbrev fO:=List Stmt×Scope×Arguments
noncomputable def eJ (K:Frag) (a:Addr):Option fO:=match K.lookup a with
 | some ⟨_,_,.func fd,_⟩=>(match fd.body with
  | .stmts body=>some (body,fd.scope,fd.params)
  | _=>none)
 | _=>none
noncomputable def pJ [BEq Str] (K:Frag) (a:Addr):Bool:=match K.lookup a with
 | some ⟨_,_,.func fd,_⟩=>lA K fd.code fd.qualname&&(fd.globals==mainGlobals&&(fd.builtins==builtinsNs&&(fd.closure.isEmpty&&AM fd.defaults)))
 | _=>false
noncomputable def iN [BEq Str] (Z:Zx) (fn:Fn) (nms:List Str) (nw:Bool) (b:Option fO):Bool:=match b with
 | some (body,scope,params)=>!scope.isCoroutine&&(!scope.isGenerator&&(scope.kind==.function&&(params.posonlyargs.isEmpty&&((params.args.map (·.arg))==nms.take fn.npar&&(params.kwonlyargs.isEmpty&&(params.vararg.isNone&&(params.kwarg.isNone &&
    (pw nms&&(decide (fn.npar<=nms.length)&&(decide (nms.length<=fn.nslots)&&(nms.all (fun x=>scope.names.lookup x==some .local||scope.names.lookup x==some .cell) &&
    vW Z fn.body ⟨scope.names,nms.zipIdx,nms.length,fn.nslots,nw⟩ body)))))))))))
 | none=>false
noncomputable def nS (K:Frag) (u:Value) (v:V):Bool:=match v with
 | .int j=>Value.isInt j u
 | .str l=>Value.isStrOf l u
 | _=>false
noncomputable def nsF [BEq Str] (K:Frag) (ns:Addr) (name:Str):Option (Option Value):=match K.lookup ns with
 | some ⟨_,_,.dict es _,_⟩=>(match es.toList.find? (fun e=>match e.key with | .str s _=>s==name | _=>false) with
   | some e=>some (some e.val)
   | none=>if es.toList.any (·.refKey) then none else some none)
 | _=>none
set_option tactic.hygienic true in
def u8 (K:Frag) (ns:Addr) (name:Str):nsF K ns name=nsIn K ns name:=by
 unfold nsF nsIn;split
 ·rename_i c d es n sl h;have e:(fun e:DictEntry=>match e.key with | .str s _=>s==name | _=>false)=fun e=>e.key.isStr name:=funext fun e=>by cases e.key <;> rfl
  rw [h,e]; rfl
 ·rename_i h;split
  ·rename_i c d es n sl h';exact (h c d es n sl h').elim
  ·rfl
noncomputable def pM [BEq Str] (K:Frag) (p:Str×V):Bool:=match nsF K mainGlobals p.1 with | some (some u)=>nS K u p.2 | _=>false
noncomputable def pP (K:Frag) (C:Addr) (flds:List Str):Bool:=
 findIn K (.ref C) "__getattribute__"==some (some (.builtin "object.__getattribute__"))&&(findIn K (.ref C) "__getattr__"==some none&&(findIn K (.ref C) "__setattr__"==some (some (.builtin "object.__setattr__"))&&(plainOver K C&&((clsIn K C).any (·.hasDict) &&
 (flds.all (fun x=>findIn K (.ref C) x==some none)&&(makesIn K C&&(decide flds.Nodup&&decide (flds.length<=1000))))))))
noncomputable def vd [BEq Str] (K:Frag) (C:Addr) (flds:List Str) (fn:Nat->Addr) (p:Str×Nat):Bool:=!flds.elem p.1&&(findIn K (.ref C) p.1==some (some (.ref (fn p.2)))&&(typeIn K (.ref (fn p.2))==some (.type "function")&&keepIn K (.ref (fn p.2))))
end Mine
end
noncomputable section
namespace Mine.L10
open PySem
noncomputable def abc:Str:=⟨#[97,98,99,100,101,102,103,104,105,106,107,108,109,110,111,112,113,114,115,116,117,118,119,120,121,122]⟩
noncomputable def a6:Str:=⟨#[111,112,101,110]⟩
noncomputable def aE:Str:=⟨#[99,108,111,115,101]⟩
noncomputable def kOn:Str:=⟨#[111,110]⟩
noncomputable def k0:Str:=⟨#[]⟩
noncomputable def ii (i:Int):E:=.nd (.lit (.int i)) []
noncomputable def ss (t:Str):E:=.nd (.lit (.str t)) []
noncomputable def bb (b:Bool):E:=.nd (.lit (.bool b)) []
noncomputable def nn:E:=.nd (.lit .none) []
noncomputable abbrev sbE (a b:E):E:=.nd .sub [a,b]
noncomputable abbrev mdE (a b:E):E:=.nd (.bin .Mod) [a,b]
noncomputable abbrev fdE (a b:E):E:=.nd (.bin .FloorDiv) [a,b]
noncomputable abbrev adE (a b:E):E:=.nd (.bin .Add) [a,b]
noncomputable abbrev mlE (a b:E):E:=.nd (.bin .Mult) [a,b]
noncomputable abbrev siE (a b:E):E:=.nd (.bin .Sub) [a,b]
noncomputable abbrev eqE (a b:E):E:=.nd (.cmp .Eq) [a,b]
noncomputable abbrev neE (a b:E):E:=.nd (.cmp .NotEq) [a,b]
noncomputable abbrev lnE (a:E):E:=.nd .len [a]
noncomputable def vv (k:Nat):E:=.nd (.var k) []
noncomputable def BW:List S:=[.mk .ite [.nd (.cmp .NotIn) [vv 1,ss abc]] [.mk .ret [bb false] [] []] []]
noncomputable def f0:Fn:=⟨1,2,.fn,[.mk .ite [.nd .or [.nd .not [.nd (.isinst 0) [vv 0]],.nd (.cmp .Gt) [(lnE (vv 0)),ii 4]]] [.mk .ret [bb false] [] []] [],
  .mk (.forS 1) [vv 0] BW [],
  .mk .ret [bb true] [] []]⟩
noncomputable def n0:List Str:=["thing", "sign"]
noncomputable def BV:List S:=[.mk .ite [.nd .not [.nd (.call 0) [vv 1]]] [.mk .ret [bb false] [] []] []]
noncomputable def f1:Fn:=⟨1,3,.fn,[.mk .ite [.nd .or [.nd .not [.nd (.isinst 1) [vv 0]],neE (lnE (vv 0)) (ii 3)]] [.mk .ret [bb false] [] []] [],
  .mk (.forS 1) [vv 0] BV [],
  .mk (.assign 2) [adE (adE (sbE (vv 0) (ii 0)) (sbE (vv 0) (ii 1))) (sbE (vv 0) (ii 2))] [] [],
  .mk .ret [eqE (.nd .lenSet [vv 2]) (lnE (vv 2))] [] []]⟩
noncomputable def n1:List Str:=["thing", "text", "whole"]
noncomputable def f2:Fn:=⟨1,1,.fn,[.mk .ite [.nd .not [.nd (.call 1) [vv 0]]] [.mk .raise [] [] []] []]⟩
noncomputable def n2:List Str:=["signs"]
noncomputable def w7:List S:=[.mk .ite [.nd (.cmp .In) [vv 1,vv 2]] [.mk .ret [vv 3] [] []] []]
noncomputable def f3:Fn:=⟨2,4,.fn,[.mk .ite [.nd .or [.nd .not [.nd (.isinst 0) [vv 1]],neE (lnE (vv 1)) (ii 1)]] [.mk .ret [ss k0] [] []] [],
  .mk (.forM [2,3]) [.nd .zip [vv 0,.nd .list [ss a6,ss aE,ss kOn]]] w7 [],
  .mk .ret [ss k0] [] []]⟩
noncomputable def n3:List Str:=["signs", "thing", "text", "kind"]
noncomputable def f4:Fn:=⟨3,3,.cls 1 2,[.mk (.setAttr 0 1 0) [.nd (.meth 0 15) [vv 1]] [] [],
  .mk (.setAttr 0 1 1) [.nd .list [.nd (.methJ 0 1 5) [vv 1],.nd (.methJ 0 1 5) [vv 2]]] [] []]⟩
noncomputable def n4:List Str:=["self", "one", "other"]
noncomputable def BU:List S:=[.mk .ite [eqE (sbE (vv 3) (ii 0)) (ss a6)] [.mk (.setD 2) [.nd (.slice true false) [vv 3,ii 3],.nd (.slice false true) [vv 3,ii 3]] [] []] [.mk (.setD 2) [sbE (vv 3) (ii 4),.nd (.slice false true) [vv 3,ii 4]] [] []]]
noncomputable def BT:List S:=[.mk .ite [eqE (sbE (vv 3) (ii 0)) (ss kOn)] [.mk (.setD 2) [sbE (vv 3) (ii 3),.nd (.slice false true) [vv 3,ii 3]] [] []] BU]
noncomputable def f5:Fn:=⟨2,4,.jun,[.mk (.ownD 2) [] [] [],
  .mk (.forS 3) [.nd (.meth 0 19) [vv 1]] BT [],
  .mk (.freezeD 2) [] [] [],
  .mk .ret [vv 2] [] []]⟩
noncomputable def n5:List Str:=["self", "machine", "found", "way"]
noncomputable def f6:Fn:=⟨3,3,.fn,[.mk .ret [.nd .tuple [(sbE (sbE (.nd (.attr 1 1) [vv 0]) (ii 0)) (.nd .tuple [ss kOn,sbE (vv 1) (ii 0),vv 2])),sbE (sbE (.nd (.attr 1 1) [vv 0]) (ii 1)) (.nd .tuple [ss kOn,sbE (vv 1) (ii 1),vv 2])]] [] []]⟩
noncomputable def n6:List Str:=["self", "rooms", "sign"]
noncomputable def f7:Fn:=⟨3,5,.fn,[.mk (.assign 3) [sbE (sbE (.nd (.attr 1 1) [vv 0]) (ii 0)) (.nd .tuple [ss a6,sbE (vv 1) (ii 0),vv 2])] [] [],
  .mk (.assign 4) [sbE (sbE (.nd (.attr 1 1) [vv 0]) (ii 1)) (.nd .tuple [ss a6,sbE (vv 1) (ii 1),vv 2])] [] [],
  .mk .ret [.nd .tuple [.nd .tuple [(sbE (vv 3) (ii 0)),sbE (vv 4) (ii 0)],.nd .tuple [(sbE (vv 3) (ii 1)),sbE (vv 4) (ii 1)]]] [] []]⟩
noncomputable def n7:List Str:=["self", "rooms", "sign", "first", "second"]
noncomputable def f8:Fn:=⟨4,5,.fn,[.mk (.assign 4) [sbE (sbE (.nd (.attr 1 1) [vv 0]) (ii 0)) (.nd .tuple [ss aE,sbE (vv 1) (ii 0),sbE (vv 2) (ii 0),vv 3])] [] [],
  .mk .ret [.nd .tuple [vv 4,sbE (sbE (.nd (.attr 1 1) [vv 0]) (ii 1)) (.nd .tuple [ss aE,sbE (vv 1) (ii 1),sbE (vv 2) (ii 1),vv 3])]] [] []]⟩
noncomputable def n8:List Str:=["self", "rooms", "kept", "sign", "first"]
noncomputable def f9:Fn:=⟨2,2,.ocls 2,[.mk (.setAttr 0 2 0) [vv 1] [] [],
  .mk (.setAttrO 0 2 1 (.D [])) [] [] [],
  .mk (.setAttrO 0 2 2 (.L [])) [] [] [],
  .mk (.setAttrO 0 2 3 (.N [])) [] [] [],
  .mk (.setAttrO 0 2 4 (.N [])) [] [] []]⟩
noncomputable def n9:List Str:=["self", "steps"]
noncomputable def f10:Fn:=⟨2,2,.fn,[.mk .ret [.nd .and [.nd (.isinst 3) [vv 0],.nd .not [.nd (.isinst 4) [vv 0]],.nd .chain [ii 0,vv 0,vv 1]]] [] []]⟩
noncomputable def n10:List Str:=["thing", "rooms"]
noncomputable def Bj:List S:=[.mk .ite [.nd .not [.nd (.call 10) [vv 2,vv 1]]] [.mk .ret [bb false] [] []] []]
noncomputable def f11:Fn:=⟨2,3,.fn,[.mk .ite [.nd .not [.nd (.isinst 2) [vv 0]]] [.mk .ret [bb false] [] []] [],
  .mk (.forS 2) [vv 0] Bj [],
  .mk .ret [eqE (.nd .lenSet [vv 0]) (lnE (vv 0))] [] []]⟩
noncomputable def n11:List Str:=["thing", "rooms", "room"]
noncomputable def Bi:List S:=[.mk .ret [.nd .and [(eqE (lnE (vv 0)) (ii 4)),eqE (.nd (.call 3) [vv 1,sbE (vv 0) (ii 2)]) (ss kOn),.nd (.call 10) [(sbE (vv 0) (ii 3)),vv 2]]] [] []]
noncomputable def f12:Fn:=⟨3,3,.fn,[.mk .ite [.nd .or [.nd .not [.nd (.isinst 1) [vv 0]],.nd (.cmp .Lt) [(lnE (vv 0)),ii 4],.nd .not [.nd (.call 10) [(sbE (vv 0) (ii 1)),vv 2]]]] [.mk .ret [bb false] [] []] [],
  .mk .ite [.nd .not [.nd (.isinst 0) [(sbE (vv 0) (ii 0))]]] [.mk .ret [bb false] [] []] [],
  .mk .ite [eqE (sbE (vv 0) (ii 0)) (ss kOn)] Bi [],
  .mk .ite [.nd .or [(neE (lnE (vv 0)) (ii 5)),.nd .not [.nd (.call 10) [(sbE (vv 0) (ii 4)),vv 2]]]] [.mk .ret [bb false] [] []] [],
  .mk .ite [eqE (sbE (vv 0) (ii 0)) (ss a6)] [.mk .ret [.nd .and [(eqE (.nd (.call 3) [vv 1,sbE (vv 0) (ii 2)]) (ss a6)),.nd (.call 10) [(sbE (vv 0) (ii 3)),vv 2]]] [] []] [],
  .mk .ret [.nd .and [(eqE (sbE (vv 0) (ii 0)) (ss aE)),.nd (.call 10) [(sbE (vv 0) (ii 2)),vv 2],eqE (.nd (.call 3) [vv 1,sbE (vv 0) (ii 3)]) (ss aE)]] [] []]⟩
noncomputable def n12:List Str:=["thing", "signs", "rooms"]
noncomputable def Bh:List S:=[.mk .ite [.nd .not [.nd (.call 12) [vv 3,vv 1,vv 2]]] [.mk .ret [bb false] [] []] []]
noncomputable def f13:Fn:=⟨3,4,.fn,[.mk .ite [.nd .or [.nd .not [.nd (.isinst 2) [vv 0]],.nd (.cmp .Gt) [(lnE (vv 0)),ii 4000]]] [.mk .ret [bb false] [] []] [],
  .mk (.forS 3) [vv 0] Bh [],
  .mk .ret [bb true] [] []]⟩
noncomputable def n13:List Str:=["thing", "signs", "rooms", "way"]
noncomputable def f14:Fn:=⟨6,6,.cls 0 5,[.mk (.call 2) [vv 1] [] [],
  .mk .ite [.nd .or [.nd .not [.nd (.call 10) [vv 2,adE (ii 40) (ii 1)]],.nd (.cmp .Lt) [vv 2,ii 1]]] [.mk .raise [] [] []] [],
  .mk .ite [.nd .or [.nd .not [.nd (.call 11) [vv 3,vv 2]],.nd .not [.nd (.call 11) [vv 4,vv 2]],.nd .not [.nd (.call 13) [vv 5,vv 1,vv 2]]]] [.mk .raise [] [] []] [],
  .mk (.setAttr 0 0 0) [vv 1] [] [],
  .mk (.setAttr 0 0 1) [vv 2] [] [],
  .mk (.setAttr 0 0 2) [.nd .sorted [vv 3]] [] [],
  .mk (.setAttr 0 0 3) [.nd .sorted [vv 4]] [] [],
  .mk (.setAttr 0 0 4) [.nd .sortedSet [vv 5]] [] []]⟩
noncomputable def n14:List Str:=["self", "signs", "rooms", "starts", "ends", "ways"]
noncomputable def f15:Fn:=⟨1,1,.fn,[.mk .ret [.nd (.attr 0 0) [vv 0]] [] []]⟩
noncomputable def n15:List Str:=["self"]
noncomputable def f16:Fn:=⟨1,1,.fn,[.mk .ret [.nd (.attr 0 1) [vv 0]] [] []]⟩
noncomputable def n16:List Str:=["self"]
noncomputable def f17:Fn:=⟨1,1,.fn,[.mk .ret [.nd .listOf [.nd (.attr 0 2) [vv 0]]] [] []]⟩
noncomputable def n17:List Str:=["self"]
noncomputable def f18:Fn:=⟨1,1,.fn,[.mk .ret [.nd .listOf [.nd (.attr 0 3) [vv 0]]] [] []]⟩
noncomputable def n18:List Str:=["self"]
noncomputable def f19:Fn:=⟨1,1,.fn,[.mk .ret [.nd .listOf [.nd (.attr 0 4) [vv 0]]] [] []]⟩
noncomputable def n19:List Str:=["self"]
noncomputable def f20:Fn:=⟨2,2,.fn,[.mk .ite [.nd (.cmp .Lt) [vv 1,lnE (vv 0)]] [.mk .ret [sbE (vv 0) (vv 1)] [] []] [],
  .mk .ret [ii 0] [] []]⟩
noncomputable def n20:List Str:=["_law_script", "_law_k"]
noncomputable def f21:Fn:=⟨2,2,.fn,[.mk .ret [mdE (adE (mlE (vv 0) (ii 48271)) (mlE (ii 7919) (vv 1))) (ii 1000003)] [] []]⟩
noncomputable def n21:List Str:=["_law_cell", "_law_k"]
noncomputable def yB:List S:=[.mk .ite [.nd .peek [.nd (.cmp .NotIn) [vv 1,.nd (.attr 2 1) [vv 0]]]] [.mk (.oDefApp 0 2 4) [sbE (vv 1) (ii 0),vv 1] [] []] [],
  .mk (.oSet 0 2 1) [.nd .tuple [vv 2,vv 3],vv 1] [] [],
  .mk (.oApp 0 2 2) [vv 1] [] []]
noncomputable def f22:Fn:=⟨4,4,.met,[.mk .ite [.nd (.cmp .Gt) [vv 2,ii 100]] [.mk (.assign 2) [adE (ii 100) (ii 1)] [] [],
  .mk (.assign 3) [ss k0] [] []] [],
  .mk .ite [.nd .or [.nd .peek [.nd (.cmp .NotIn) [vv 1,.nd (.attr 2 1) [vv 0]]],.nd .peek [.nd (.cmp .Lt) [vv 2,sbE (sbE (.nd (.attr 2 1) [vv 0]) (vv 1)) (ii 0)]]]] yB []]⟩
noncomputable def n22:List Str:=["self", "row", "length", "word"]
noncomputable def Bg:List S:=[.mk (.assign 10) [.nd .tuple [(sbE (vv 1) (ii 0)),.nd .peek [.nd (.meth 1 8) [.nd (.attr 2 0) [vv 0],sbE (vv 4) (ii 1),vv 3,vv 9]]]] [] [],
  .mk (.oCall 0 2 22) [vv 10,adE (adE (vv 5) (vv 7)) (ii 2),adE (adE (adE (vv 6) (vv 2)) (vv 8)) (vv 9)] [] []]
noncomputable def f23:Fn:=⟨5,11,.met,[.mk (.assignM [5,6]) [.nd .peek [(sbE (.nd (.attr 2 1) [vv 0]) (vv 1))]] [] [],
  .mk (.assignM [7,8]) [.nd .peek [(sbE (.nd (.attr 2 1) [vv 0]) (vv 4))]] [] [],
  .mk (.forS 9) [.nd .peek [(sbE (.nd (.attr 1 0) [.nd (.attr 2 0) [vv 0]]) (ii 1))]] Bg []]⟩
noncomputable def n23:List Str:=["self", "row", "sign", "kept", "within", "length", "word", "more", "middle", "last", "later"]
noncomputable def yA:List S:=[.mk (.oCall 0 2 22) [.nd .tuple [(sbE (vv 1) (ii 0)),.nd .peek [.nd (.meth 1 6) [.nd (.attr 2 0) [vv 0],sbE (vv 1) (ii 1),vv 4]]],adE (vv 2) (ii 1),adE (vv 3) (vv 4)] [] []]
noncomputable def yz:List S:=[.mk (.oCall 0 2 23) [vv 1,vv 4,vv 6,vv 8] [] []]
noncomputable def yy:List S:=[.mk (.assignM [5,6]) [.nd .peek [.nd (.meth 1 7) [.nd (.attr 2 0) [vv 0],sbE (vv 1) (ii 1),vv 4]]] [] [],
  .mk (.aliS 7 0 2 3) [vv 5] [] [],
  .mk (.aliSet 7) [vv 6,.nd .tuple [vv 1,vv 4]] [] [],
  .mk (.oCall 0 2 22) [.nd .tuple [vv 5,vv 5],ii 0,ss k0] [] [],
  .mk (.forS 8) [.nd .peekN [.nd .listOf [(sbE (.nd (.attr 2 4) [vv 0]) (vv 5))]]] yz []]
noncomputable def yx:List S:=[.mk (.oCall 0 2 23) [vv 10,vv 4,.nd .peek [(sbE (vv 9) (.nd .tuple [vv 10,vv 4]))],vv 1] [] []]
noncomputable def f24:Fn:=⟨2,11,.met,[.mk (.assignM [2,3]) [.nd .peek [(sbE (.nd (.attr 2 1) [vv 0]) (vv 1))]] [] [],
  .mk (.forS 4) [.nd .peek [(sbE (.nd (.attr 1 0) [.nd (.attr 2 0) [vv 0]]) (ii 2))]] yA [],
  .mk (.forS 4) [.nd .peek [(sbE (.nd (.attr 1 0) [.nd (.attr 2 0) [vv 0]]) (ii 0))]] yy [],
  .mk (.aliG 9 0 2 3) [sbE (vv 1) (ii 0)] [] [],
  .mk (.forM [10,4]) [.nd .peekN [.nd .listOf [vv 9]]] yx []]⟩
noncomputable def n24:List Str:=["self", "row", "length", "word", "sign", "inside", "kept", "callers", "within", "some", "caller"]
noncomputable def Bf:E:=(.nd .peek [(neE (.nd (.attr 2 2) [vv 2]) (.nd .list []))])
noncomputable def Be:List S:=[.mk (.oPopC 2 2 2 24) [] [] []]
noncomputable def f25:Fn:=⟨2,4,.fn,[.mk (.mkO 2 9) [.nd (.call 4) [vv 0,vv 1]] [] [],
  .mk (.assign 3) [.nd .tuple [(sbE (.nd (.meth 0 17) [vv 0]) (ii 0)),sbE (.nd (.meth 0 17) [vv 1]) (ii 0)]] [] [],
  .mk (.oCall 2 2 22) [.nd .tuple [vv 3,vv 3],ii 0,ss k0] [] [],
  .mk .while [Bf] Be [],
  .mk (.freezeO 2) [] [] [],
  .mk .ret [.nd (.attr 2 1) [vv 2]] [] []]⟩
noncomputable def n25:List Str:=["one", "other", "rows", "start"]
noncomputable def Bd:E:=(adE (sbE (vv 2) (ii 0)) (sbE (vv 2) (ii 1)))
noncomputable def f26:Fn:=⟨2,4,.fn,[.mk (.call 31) [vv 0,vv 1] [] [],
  .mk .ite [.nd .or [.nd .not [.nd (.call 28) [vv 0]],.nd .not [.nd (.call 28) [vv 1]]]] [.mk .raise [] [] []] [],
  .mk .ret [.nd .sortedT [.nd (.comp 2) [.nd (.call 25) [vv 0,vv 1],Bd]]] [] []]⟩
noncomputable def n26:List Str:=["one", "other"]
noncomputable def f27:Fn:=⟨1,1,.fn,[.mk .ret [.nd (.call 14) [(sbE (vv 0) (ii 0)),sbE (vv 0) (ii 1),.nd .listOf [(sbE (vv 0) (ii 2))],.nd .listOf [(sbE (vv 0) (ii 3))],.nd .listOf [(sbE (vv 0) (ii 4))]]] [] []]⟩
noncomputable def n27:List Str:=["_law_parts"]
noncomputable def Bc:List S:=[.mk (.assign 3) [.nd (.slice false true) [vv 2,ii 3]] [] [],
  .mk .ite [eqE (sbE (vv 2) (ii 0)) (ss aE)] [.mk (.assign 3) [.nd (.slice false true) [vv 2,ii 4]] [] []] [],
  .mk (.setD 1) [adE (.nd .peek [.nd .getD [vv 1,vv 3,ii 0]]) (ii 1),vv 3] [] []]
noncomputable def f28:Fn:=⟨1,9,.fn,[.mk .ite [neE (lnE (.nd (.meth 0 17) [vv 0])) (ii 1)] [.mk .ret [bb false] [] []] [],
  .mk (.ownD 1) [] [] [],
  .mk (.forS 2) [.nd (.meth 0 19) [vv 0]] Bc [],
  .mk (.assignM [4,5,6]) [.nd (.meth 0 15) [vv 0]] [] [],
  .mk (.assign 7) [.nd (.meth 0 16) [vv 0]] [] [],
  .mk (.assign 8) [adE (mlE (vv 7) (adE (lnE (vv 4)) (lnE (vv 6)))) (mlE (mlE (vv 7) (vv 7)) (lnE (vv 5)))] [] [],
  .mk (.freezeD 1) [] [] [],
  .mk .ret [.nd .and [(eqE (lnE (vv 1)) (vv 8)),eqE (.nd .maxL [.nd .vals [vv 1]]) (ii 1)]] [] []]⟩
noncomputable def n28:List Str:=["machine", "counts", "way", "place", "opening", "closing", "others", "rooms", "wanted"]
noncomputable def Bb:List S:=[.mk .ite [.nd .or [(neE (.nd (.isinst 0) [vv 4]) (.nd (.isinst 0) [vv 5])),.nd (.isinst 4) [vv 4],neE (vv 4) (vv 5)]] [.mk .ret [bb false] [] []] []]
noncomputable def Ba:List S:=[.mk .ite [.nd .or [.nd .not [.nd (.isinst 1) [vv 2]],neE (lnE (vv 2)) (lnE (vv 3))]] [.mk .ret [bb false] [] []] [],
  .mk (.forM [4,5]) [.nd .zip [vv 2,vv 3]] Bb []]
noncomputable def f29:Fn:=⟨2,6,.fn,[.mk .ite [.nd .or [.nd .not [.nd (.isinst 2) [vv 0]],neE (lnE (vv 0)) (lnE (vv 1))]] [.mk .ret [bb false] [] []] [],
  .mk (.forM [2,3]) [.nd .zip [vv 0,vv 1]] Ba [],
  .mk .ret [bb true] [] []]⟩
noncomputable def n29:List Str:=["_law_found", "_law_due", "_law_one", "_law_other", "_law_part", "_law_partner"]
noncomputable def A9:E:=(.nd (.call 21) [.nd (.call 20) [vv 0,adE (vv 1) (mdE (vv 10) (ii 9))],vv 10])
noncomputable def A8:List S:=[.mk (.append 5) [.nd .tuple [ss kOn,vv 6,vv 7,mdE (.nd .peek [(sbE (vv 4) (lnE (vv 5)))]) (vv 3)]] [] []]
noncomputable def A7:List S:=[.mk (.append 5) [.nd .tuple [ss a6,vv 6,vv 7,mdE (.nd .peek [(sbE (vv 4) (lnE (vv 5)))]) (vv 3),mdE (fdE (.nd .peek [(sbE (vv 4) (lnE (vv 5)))]) (ii 4)) (vv 3)]] [] []]
noncomputable def A6:List S:=[.mk (.append 5) [.nd .tuple [ss aE,vv 6,vv 8,vv 7,mdE (.nd .peek [(sbE (vv 4) (lnE (vv 5)))]) (vv 3)]] [] []]
noncomputable def yw:List S:=[.mk (.forS 7) [sbE (vv 2) (ii 1)] A6 []]
noncomputable def yu:List S:=[.mk (.forS 7) [sbE (vv 2) (ii 2)] A8 [],
  .mk (.forS 7) [sbE (vv 2) (ii 0)] A7 [],
  .mk (.forS 8) [.nd .range [vv 3]] yw []]
noncomputable def f30c6:E:=(vv 10)
noncomputable def f30:Fn:=⟨4,12,.fn,[.mk (.assign 4) [.nd (.comp 10) [.nd .range [ii 60],A9]] [] [],
  .mk (.ownL 5) [] [] [],
  .mk (.forS 6) [.nd .range [vv 3]] yu [],
  .mk (.assign 9) [.nd (.comp 10) [.nd .range [vv 3],f30c6,eqE (mdE (fdE (sbE (vv 4) (ii 59)) (adE (vv 10) (ii 3))) (ii 2)) (ii 0)]] [] [],
  .mk (.freeze 5) [] [] [],
  .mk .ret [.nd .tuple [vv 2,vv 3,.nd .list [(mdE (sbE (vv 4) (ii 58)) (vv 3))],vv 9,vv 5]] [] []]⟩
noncomputable def n30:List Str:=["_law_script", "_law_at", "_law_signs", "_law_rooms", "_law_cells", "_law_ways", "_law_room", "_law_sign", "_law_kept", "_law_ends"]
noncomputable def f31:Fn:=⟨2,2,.fn,[.mk .ite [neE (.nd (.meth 0 15) [vv 0]) (.nd (.meth 0 15) [vv 1])] [.mk .raise [] [] []] []]⟩
noncomputable def n31:List Str:=["one", "other"]
noncomputable def A5:List S:=[.mk .ite [eqE (sbE (vv 2) (ii 0)) (ss aE)] [.mk (.setD 1) [sbE (vv 2) (ii 4),.nd (.slice false true) [vv 2,ii 4]] [] []] [.mk (.setD 1) [.nd (.slice true false) [vv 2,ii 3],.nd (.slice false true) [vv 2,ii 3]] [] []]]
noncomputable def f32:Fn:=⟨1,3,.fn,[.mk (.ownD 1) [] [] [],
  .mk (.forS 2) [sbE (vv 0) (ii 4)] A5 [],
  .mk (.freezeD 1) [] [] [],
  .mk .ret [vv 1] [] []]⟩
noncomputable def n32:List Str:=["_law_parts", "_law_found", "_law_way"]
noncomputable def yt:List S:=[.mk (.assign 7) [.nd .tuple [(sbE (sbE (sbE (vv 2) (ii 0)) (.nd .tuple [ss kOn,sbE (vv 3) (ii 2),vv 6])) (ii 0)),sbE (sbE (sbE (vv 2) (ii 1)) (.nd .tuple [ss kOn,sbE (vv 3) (ii 3),vv 6])) (ii 0)]] [] [],
  .mk (.append 5) [adE (vv 4) (vv 7)] [] []]
noncomputable def yr:List S:=[.mk (.assign 7) [.nd .tuple [(sbE (sbE (vv 2) (ii 0)) (.nd .tuple [ss aE,sbE (vv 10) (ii 2),sbE (sbE (vv 8) (ii 0)) (ii 1),vv 11]))]] [] [],
  .mk (.append 5) [adE (adE (vv 4) (vv 7)) (.nd .tuple [(sbE (sbE (vv 2) (ii 1)) (.nd .tuple [ss aE,sbE (vv 10) (ii 3),sbE (sbE (vv 8) (ii 1)) (ii 1),vv 11]))])] [] []]
noncomputable def yq:List S:=[.mk .ite [eqE (.nd (.slice false true) [vv 10,ii 2]) (vv 9)] [.mk (.forS 11) [sbE (vv 1) (ii 1)] yr []] []]
noncomputable def yp:List S:=[.mk (.assign 8) [.nd .tuple [(sbE (sbE (vv 2) (ii 0)) (.nd .tuple [ss a6,sbE (vv 3) (ii 2),vv 6])),sbE (sbE (vv 2) (ii 1)) (.nd .tuple [ss a6,sbE (vv 3) (ii 3),vv 6])]] [] [],
  .mk (.assign 9) [.nd .tuple [(sbE (sbE (vv 8) (ii 0)) (ii 0)),sbE (sbE (vv 8) (ii 1)) (ii 0)]] [] [],
  .mk (.append 5) [adE (vv 9) (vv 9)] [] [],
  .mk (.forS 10) [vv 0] yq []]
noncomputable def f33:Fn:=⟨4,12,.fn,[.mk (.assign 4) [.nd (.slice false true) [vv 3,ii 2]] [] [],
  .mk (.ownL 5) [] [] [],
  .mk (.forS 6) [sbE (vv 1) (ii 2)] yt [],
  .mk (.forS 6) [sbE (vv 1) (ii 0)] yp [],
  .mk (.freeze 5) [] [] [],
  .mk .ret [vv 5] [] []]⟩
noncomputable def n33:List Str:=["_law_rows_here", "_law_signs", "_law_paths_here", "_law_row", "_law_begin", "_law_found", "_law_sign", "_law_there", "_law_entry", "_law_first", "_law_other", "_law_last"]
noncomputable def A4:E:=(.nd .peek [.nd (.cmp .Lt) [vv 4,lnE (vv 3)]])
noncomputable def A3:List S:=[.mk (.setD 3) [bb true,vv 6] [] []]
noncomputable def yo:List S:=[.mk (.forS 6) [.nd (.call 33) [.nd .peekN [.nd .listOf [vv 3]],sbE (sbE (vv 0) (ii 0)) (ii 0),vv 1,vv 5]] A3 []]
noncomputable def A2:List S:=[.mk (.assign 4) [.nd .peek [(lnE (vv 3))]] [] [],
  .mk (.forS 5) [.nd .peekN [.nd .listOf [vv 3]]] yo []]
noncomputable def f34:Fn:=⟨1,7,.fn,[.mk (.assign 1) [.nd .tuple [.nd (.call 32) [(sbE (vv 0) (ii 0))],.nd (.call 32) [(sbE (vv 0) (ii 1))]]] [] [],
  .mk (.assign 2) [.nd .tuple [(sbE (sbE (sbE (vv 0) (ii 0)) (ii 2)) (ii 0)),sbE (sbE (sbE (vv 0) (ii 1)) (ii 2)) (ii 0)]] [] [],
  .mk (.ownD1 3) [adE (vv 2) (vv 2),bb true] [] [],
  .mk (.assign 4) [ii 0] [] [],
  .mk .while [A4] A2 [],
  .mk (.freezeD 3) [] [] [],
  .mk .ret [.nd .sortedT [vv 3]] [] []]⟩
noncomputable def n34:List Str:=["_law_parts", "_law_paths_here", "_law_start", "_law_rows_here", "_law_before", "_law_row", "_law_fresh"]
noncomputable def f35:Fn:=⟨1,1,.fn,[.mk .ret [.nd .tuple [.nd (.meth 0 15) [vv 0],.nd (.meth 0 16) [vv 0],.nd (.meth 0 17) [vv 0],.nd (.meth 0 18) [vv 0],.nd (.meth 0 19) [vv 0]]] [] []]⟩
noncomputable def n35:List Str:=["_law_machine"]
noncomputable def A1:E:=(sbE (vv 2) (mdE (adE (vv 1) (mlE (ii 5) (vv 13))) (ii 26)))
noncomputable def A0:List S:=[.mk (.assign 4) [.nd .list [.nd .tuple [ss k0,ss k0,.nd (.slice false true) [vv 3,ii 2]],.nd .tuple [.nd (.slice false true) [vv 3,ii 2],.nd (.slice true true) [vv 3,ii 2,ii 3],ss k0],.nd .tuple [.nd (.slice false true) [vv 3,ii 1],ss k0,.nd (.slice true false) [vv 3,ii 2]],.nd .tuple [ss k0,.nd (.slice false true) [vv 3,ii 1],.nd (.slice true true) [vv 3,ii 1,ii 2]]]] [] [],
  .mk (.assign 5) [sbE (vv 4) (mdE (fdE (vv 1) (ii 624)) (ii 4))] [] []]
noncomputable def yn:List S:=[.mk (.ownC 11 26) [sbE (vv 7) (ii 0),sbE (vv 7) (ii 1)] [] [],
  .mk .ite [.nd .not [.nd .peek [.nd (.call 29) [vv 11,vv 8]]]] [.mk .ret [bb false] [] []] [],
  .mk (.append 11) [ii 0] [] [],
  .mk (.freeze 11) [] [] [],
  .mk (.append 9) [vv 11] [] []]
noncomputable def f36c3:E:=(vv 13)
noncomputable def AZ:E:=(.nd (.call 35) [vv 13])
noncomputable def AY:E:=(.nd (.call 35) [vv 13])
noncomputable def f36:Fn:=⟨1,15,.fn,[.mk (.assign 1) [.nd (.call 20) [vv 0,ii 0]] [] [],
  .mk (.assign 2) [ss abc] [] [],
  .mk (.assign 3) [.nd .join [ss k0,.nd (.comp 13) [.nd .range [ii 4],A1]]] [] [],
  .mk (.assign 4) [.nd .list [.nd .tuple [.nd (.slice false true) [vv 3,ii 1],.nd (.slice true true) [vv 3,ii 1,ii 2],.nd (.slice true true) [vv 3,ii 2,ii 3]],.nd .tuple [.nd (.slice false true) [vv 3,ii 1],.nd (.slice true true) [vv 3,ii 1,ii 2],ss k0],.nd .tuple [.nd (.slice false true) [vv 3,ii 1],.nd (.slice true true) [vv 3,ii 1,ii 3],.nd (.slice true false) [vv 3,ii 3]]]] [] [],
  .mk (.assign 5) [sbE (vv 4) (mdE (fdE (vv 1) (ii 26)) (ii 3))] [] [],
  .mk .ite [eqE (mdE (fdE (vv 1) (ii 78)) (ii 8)) (ii 1)] A0 [],
  .mk (.ownL 6) [.nd (.call 30) [vv 0,ii 2,vv 5,adE (ii 1) (mdE (.nd (.call 20) [vv 0,ii 1]) (ii 3))]] [] [],
  .mk (.append 6) [.nd (.call 30) [vv 0,ii 11,vv 5,adE (ii 1) (mdE (fdE (.nd (.call 20) [vv 0,ii 1]) (ii 3)) (.nd .peek [(sbE (.nd .list [ii 3,ii 2,ii 1]) (siE (sbE (sbE (vv 6) (ii 0)) (ii 1)) (ii 1)))]))]] [] [],
  .mk (.freeze 6) [] [] [],
  .mk (.assign 7) [.nd .list [.nd (.call 27) [(sbE (vv 6) (ii 0))],.nd (.call 27) [(sbE (vv 6) (ii 1))]]] [] [],
  .mk (.assign 8) [.nd (.call 34) [vv 6]] [] [],
  .mk (.ownL 9) [] [] [],
  .mk (.forS 10) [.nd .range [ii 2]] yn [],
  .mk (.freeze 9) [] [] [],
  .mk .ite [neE (.nd (.comp 13) [vv 9,f36c3,neE (vv 13) (adE (vv 8) (.nd .list [ii 0]))]) (.nd .list [])] [.mk .ret [bb false] [] []] [],
  .mk (.assign 12) [.nd .list [.nd (.call 27) [(sbE (vv 6) (ii 0))],.nd (.call 27) [(sbE (vv 6) (ii 1))]]] [] [],
  .mk .ret [eqE (.nd (.comp 13) [vv 7,AZ]) (.nd (.comp 13) [vv 12,AY])] [] []]⟩
noncomputable def n36:List Str:=["_law_script", "_law_cell", "_law_letters", "_law_row", "_law_some", "_law_signs", "_law_parts", "_law_machines", "_law_due", "_law_held", "_law_turn", "_law_found", "_law_again"]
noncomputable def fns:List Fn:=[f0,f1,f2,f3,f4,f5,f6,f7,f8,f9,f10,f11,f12,f13,f14,f15,f16,f17,f18,f19,f20,f21,f22,f23,f24,f25,f26,f27,f28,f29,f30,f31,f32,f33,f34,f35,f36]
noncomputable def prog:Prog:=⟨fns⟩
noncomputable def newf (f:Nat):Bool:=f==26
noncomputable def fnM:List (Str×Nat):=[("_law_paths",32),("_law_grown",33),("_law_table",34),("_law_of",35),("law",36)]
noncomputable def fnN:List (Str×Nat):=("are_letters",0) :: ("are_signs",1) :: ("need_signs",2) :: ("kind_of",3) :: ("Steps",4) :: ("Rows",9) :: ("is_room",10) :: ("are_rooms",11) :: ("is_way",12) :: ("are_ways",13) :: ("Machine",14) :: ("_law_cell_at",20) :: ("_law_mixed",21) :: ("found_rows",25) :: ("table",26) :: ("_law_made",27) :: ("is_plain",28) :: ("_law_rows",29) :: ("_law_full",30) :: ("need_alike",31) :: fnM
noncomputable def metN:List (Nat×Str×Nat):=[(0, "signs",15),(0, "rooms",16),(0, "starts",17),(0, "ends",18),(0, "ways",19),(1, "ways_of",5),(1, "on",6),(1, "opens",7),(1, "closes",8),(2, "put",22),(2, "put_closed",23),(2, "go",24)]
noncomputable def fldN:List (List Str):=[["marks", "many", "first", "last", "told"],["marks", "going"],["steps", "known", "waiting", "callers", "inner"]]
noncomputable def conN:List (Str×V):=[("LETTERS",.str abc),("MOST_SIGNS",.int 4),("MOST_ROOMS",.int 40),("MOST_WAYS",.int 4000),("MOST_WORD",.int 100)]
end Mine.L10
end
noncomputable section
namespace Mine.L10
open PySem PySem.Calls PyProof.Rows PySem.W
noncomputable def Z:Zx:=⟨fnN,conN,fldN,metN,newf⟩
noncomputable def vA:List Addr:=[183,246,288]
noncomputable def yh:List Addr:=[145,215,264]
noncomputable def fnA:List Addr:=[82,89,96,103,246,222,229,236,243,288,110,117,124,131,183,152,159,166,173,180,311,318,271,278,285,299,304,358,201,332,344,194,351,365,372,339,377]
noncomputable def fnB:List Addr:=[82,89,96,103,215,222,229,236,243,264,110,117,124,131,145,152,159,166,173,180,311,318,271,278,285,299,304,358,201,332,344,194,351,365,372,339,377]
noncomputable def AD:List Addr:=[3,1,183,182,188,246,245,251,288,287,293]++fnB++[81,88,95,102,214,221,228,235,242,263,109,116,123,130,144,151,158,165,172,179,310,317,270,277,284,298,303,357,200,331,343,193,350,364,371,338,376]
noncomputable def nms:List (List Str):=[n0,n1,n2,n3,n4,n5,n6,n7,n8,n9,n10,n11,n12,n13,n14,n15,n16,n17,n18,n19,n20,n21,n22,n23,n24,n25,n26,n27,n28,n29,n30,n31,n32,n33,n34,n35,n36]
noncomputable def txt (s:Stmt):Option fO:=if h:s.ctorIdx=0 then Stmt.FunctionDef.elim (motive_2:=fun U=>Option fO) s h fun U args body U U U scope U U U=>some (body,scope,args) else none
noncomputable def xE (s:Stmt):List Stmt:=if h:s.ctorIdx=2 then Stmt.ClassDef.elim (motive_2:=fun U=>List Stmt) s h fun U U U body U U U U U U U=>body else []
noncomputable def dK (i:Nat):Option fO:=(PySem.Challenge.rw_uf010006_10.row.prog.main.body[i]?).bind txt
noncomputable def gU (c i:Nat):Option fO:=((PySem.Challenge.rw_uf010006_10.row.prog.main.body[c]?).bind fun c=>(xE c)[i]?).bind txt
noncomputable def v4:List (Option fO):=[dK 9,dK 10,dK 11,dK 12,gU 27 0,gU 27 1,gU 27 2,gU 27 3,gU 27 4,gU 28 0,dK 16,dK 17,dK 18,dK 19,gU 20 0,gU 20 1,gU 20 2,gU 20 3,gU 20 4,gU 20 5,dK 32,dK 33,gU 28 1,gU 28 2,gU 28 3,dK 29,dK 30,dK 39,dK 24,dK 35,dK 37,dK 22,dK 38,dK 40,dK 41,dK 36,dK 42]
noncomputable def iO [BEq Str]:Nat->List Fn->List (List Str)->List (Option fO)->Bool
 | _,[],_,_=>true
 | i,fn :: r,n :: m,a :: b=>iN Z fn n (newf i) a&&iO (i+1) r m b
 | _,_,_,_=>false
noncomputable def l8 (K:Frag) (c:Nat):Bool:=pP K (vA.getD c 0) (fldN.getD c [])&&(findIn K (.ref (vA.getD c 0)) "__init__"==some (some (.ref (yh.getD c 0)))&&typeIn K (.ref (yh.getD c 0))==some (.type "function"))
noncomputable def chk [BEq Str] (K:Frag):Bool:=
 (K.lookup sysModules).isSome&&(l8 K 0&&(l8 K 1&&(l8 K 2&&(fnN.all (fun p=>nsF K mainGlobals p.1==some (some (.ref (fnA.getD p.2 0))))&&(conN.all (pM K)&&(bC.all (fun p=>nsF K mainGlobals p.1==some none)&&(fnN.all (fun p=>keepIn K (.ref (fnA.getD p.2 0))) &&
 (metN.all (fun m=>decide (m.1 < 3)&&vd K (vA.getD m.1 0) (fldN.getD m.1 []) (fun f=>fnA.getD f 0) m.2)&&fnB.all (pJ K)))))))))
noncomputable def di (h:Heap):List Addr->Frag
 | []=>[]
 | a :: r=>match h.get? a with
  | some o=>(a,o) :: di h r
  | none=>di h r
theorem gk (h:Heap):∀ as:List Addr,Frag.In (di h as) h
 | [],a,o,e=>nN e.symm
 | b :: r,a,o,e=>by
  unfold di at e;cases hb:h.get? b with
  | none=>rw [hb] at e; exact gk h r a o e
  | some p=>
   rw [hb] at e;by_cases q:a=b
   ·subst q;have:lookup a ((a,p) :: di h r)=some p:=List.lookup_cons_self;rw [hb]; exact this.symm.trans e
   ·have:lookup a ((b,p) :: di h r)=lookup a (di h r):=by rw [lookup_cons,beq_false_of_ne q]
    exact gk h r a o (this.symm.trans e)
noncomputable def oJ:Hook:=⟨Bool×List (Option fO),fun s=>(@chk lr (di s.heap AD),fnB.map (eJ (di s.heap AD))),fun U=>(true,v4),fun U h=>∃ K:Frag,K.In h/\chk K=true/\fnB.map (eJ K)=v4,fun U s e=>⟨di s.heap AD,gk _ _,q9▸congrArg Prod.fst e,congrArg Prod.snd e⟩,fun U U U y k=>y.elim fun K x=>⟨K,fun a o e=>k a o (x.1 a o e),x.2⟩⟩
end Mine.L10
end
noncomputable section
open PySem PySem.W PyProof.Rows
namespace Mine.L10
noncomputable abbrev pg:Program:=PySem.Challenge.rw_uf010006_10.row.toRowW.prog
noncomputable def vw:Program:=view pg [1,2,3,4,5,7,8,9,10,11,12,14,15,16,17,18,19,20,22,24,26,27,28,29,30,32,33,34,35,36,37,38,39,40,41,42]
noncomputable def vwX (s:Shared):Bool:=xlAt vw [] s&&recOk (RowW.records PySem.Challenge.rw_uf010006_10.row.toRowW) s
def Bz {α β γ:Type} {o:Option α} {f:α->β} {g:α->γ} {x:β} {y:γ} (h:o.map f=some x) (h':o.map g=some y):o.map (fun s=>(f s,g s))=some (x,y):=by
 cases o with
 | none=>(injection h; done)
 | some s=>exact congrArg some (Prod.ext (Option.some.inj h) (Option.some.inj h'))
noncomputable def pA {α β:Type} (p:α×β):α:=Prod.rec (fun a U=>a) p
noncomputable def pB {α β:Type} (p:α×β):β:=Prod.rec (fun U b=>b) p
noncomputable abbrev sO (s:Shared):=openSeen vw [] (importedModules pg.main.body) vwX true s
def AQ:∀ w,(openEnds treeTable pg w 6014).map (fun s=>((sO s).1,(sO s).2.1,(sO s).2.2.1))=some (pA (openGood vw []),pA (pB (openGood vw [])),pA (pB (pB (openGood vw [])))):=fun w=>by kernel_rfl
def AP:∀ w,(openEnds treeTable pg w 6014).map (fun s=>(sO s).2.2.2)=some (pB (pB (pB (openGood vw [])))):=fun w=>by kernel_rfl
def AO:∀ w,(openEnds treeTable pg w 6014).map oJ.obs=some (oJ.val w):=fun w=>by kernel_rfl
def zI:LeftO pg vw [] vwX (Hook.obs oJ) (Hook.val oJ) 6014:=fun w=>by
 have z:=congrArg (Option.map fun z=>((z.1.1,z.1.2.1,z.1.2.2,z.2.1),z.2.2)) (Bz (AQ w) (Bz (AP w) (AO w)));rw [Option.map_map] at z;exact z
end Mine.L10
end
noncomputable section
namespace Mine
open PySem
noncomputable def uY:Sc->Value->Bool
 | .inl i,v=>Value.isInt i v
 | .inr x,v=>Value.isStrOf x v
def a9 {C:Sc->Value->Prop} (h:uY k v=true) (hi:∀ i t,C (.inl i) (.int i t)) (hs:∀ x t,C (.inr x) (.str x t)):C k v:=by
 cases k with
 | inl i=>obtain ⟨t,rfl⟩:=Value.isInt_shape h; exact hi i t
 | inr x=>obtain ⟨t,rfl⟩:=Value.isStrOf_shape h; exact hs x t
noncomputable def av (prog:Program) (w:World):KeyKind prog w Sc where
 is:=uY
 hash:=fun k=>match k with | .inl i=>hashInt i | .inr x=>hashStr w x
 inj:=fun v a b ha hb=>a9 (C:=fun a v=>uY b v=true->a=b) ha (fun i t hb=>by cases b with | inl j=>exact congrArg _ (Value.isInt_inj (.int i t) i j (by simp [Value.isInt]) hb) | inr y=>(injection hb; done))
  (fun x t hb=>by cases b with | inl j=>(injection hb; done) | inr y=>exact congrArg _ (Value.isStrOf_inj (.str x t) x y (by simp [Value.isStrOf]) hb)) hb
 byValue:=fun k v h=>a9 (C:=fun U v=>carriedByValue v=true) h (fun U U=>rfl) fun U U=>rfl
 pyHash:=fun {A E s k v Q} h hq=>a9 (C:=fun k v=>Q (match k with | .inl i=>hashInt i | .inr x=>hashStr w x) { s with toks:=s.toks+1 }->wpAny (model prog w) A (PySem.pyHash v) Q E s) h (fun U U hq=>wpAny_pyHash_int hq) (fun U U hq=>wpAny_pyHash_str hq) hq
 eqBool:=fun {A E s a b u v Q} hu hv hq=>a9 (C:=fun a u=>Q (decide (a=b)) s->wpAny (model prog w) A (PySem.eqBool u v) Q E s) hu
  (fun i t hq=>a9 (C:=fun b v=>Q (decide (Sum.inl i=b)) s->wpAny (model prog w) A (PySem.eqBool (.int i t) v) Q E s) hv (fun j u hq=>wpAny_eqBool_int (by rw [show (i==j)=decide ((Sum.inl i:Sc)=.inl j) by by_cases e:i=j <;> simp [e]]; exact hq)) (fun y u hq=>SeqAt.EqAt.int_str i t y u _ _ _ _ (by simpa using hq)) hq)
  (fun x t hq=>a9 (C:=fun b v=>Q (decide (Sum.inr x=b)) s->wpAny (model prog w) A (PySem.eqBool (.str x t) v) Q E s) hv (fun j u hq=>SeqAt.EqAt.str_int x t j u _ _ _ _ (by simpa using hq)) (fun y u hq=>wpAny_eqBool_str (by rw [show decide (x=y)=decide ((Sum.inr x:Sc)=.inr y) by by_cases e:x=y <;> simp [e]]; exact hq)) hq) hq
 «strs»:=fun k x t v h=>by
  cases k with
  | inl i=>(injection h; done)
  | inr y=>exact (strKind prog w).«strs» y x t v h
end Mine
end
noncomputable section
namespace Mine
open PySem PySem.W
noncomputable def scH (w:World) (x:V):Int:=match x with
 | .int i=>hashInt i
 | .str s=>hashStr w s
 | _=>0xFCA86420
noncomputable def An (l:List Int):Int:=reduceHash (Builtin.Tuple.tupleHashOf l)
noncomputable def lvH (w:World) (n:Nat):V->Int:=Nat.rec (motive:=fun U=>V->Int) (scH w) (fun U ih x=>match x with | .tuple l=>An (l.map ih) | x=>scH w x) n
noncomputable def oF (w:World) (x:V):Int:=match x with
 | .tuple l=>An (l.map (lvH w 3))
 | _=>0
noncomputable def lvN (n:Nat):V->Nat:=Nat.rec (motive:=fun U=>V->Nat) (fun U=>1) (fun U ih x=>match x with | .tuple l=>(l.map ih).sum+1 | _=>1) n
noncomputable def sW (x:V):Nat:=match x with
 | .tuple l=>(l.map (lvN 3)).sum+1
 | _=>0
section
variable {prog:Program} {w:World} {A:Around} {E:Value->Shared->Prop} {s:Shared}
def jD (prog:Program) (w:World) (A:Around) (E:Value->Shared->Prop) (ok:V->Bool) (H:V->Int) (N:V->Nat):Prop:=∀ x v as (s:Shared) (Q:Int->Shared->Prop),ok x=true->Reads s.heap v x as->Q (H x) { s with toks:=s.toks+N x }->wpAny (model prog w) A (pyHash v) Q E s
theorem j5 (hk:jD prog w A E ok H N):∀ (xs:List V) (vs:List Value) (as:List Addr) (s:Shared) (b:Array Int) (Q:Array Int->Shared->Prop),xs.all ok=true->ReadsAll s.heap vs xs as->(∀ b',b'.toList=b.toList++xs.map H->Q b' { s with toks:=s.toks+(xs.map N).sum }) ->
  wpAny (model prog w) A (forIn vs b fun x r=>do let h <- pyHash x; pure PUnit.unit; pure (ForInStep.yield (r.push h))) Q E s
 | [],_,_,s,b,Q,_,r,h=>by
  cases r
  exact zC2 (h b (append_nil _).symm)
 | x :: xs,_,_,s,b,Q,ok,r,h=>by
  cases r with
  | cons r rs=>
  have ok:=zA2 ok;rw [forIn_cons];refine zC1 (zC1 (hk x _ _ s _ ok.1 r ((bPu (zC2 ?_)))));refine j5 hk xs _ _ _ _ Q ok.2 rs fun b' hb=>?_;have q:=h b' (by rw [hb,toList_push,append_assoc]; rfl);rw [map_cons,sum_cons,<- add_assoc] at q;exact q
def nG (hk:jD prog w A.in1 E ok H N) (hu:A.units < cLine) (ho:s.heap.get? a=some o) (hc:o.cls=.type "tuple") (hd:o.data=.seq vs n) (hl:l.all ok=true) (r:ReadsAll s.heap vs.toList l as)
  (h:Q (An (l.map H)) { s with toks:=s.toks+((l.map N).sum+1) }):wpAny (model prog w) A (pyHash (.ref a)) Q E s:=by
 refine pyHash_slot (T:="tuple") ⟨o,ho,hc⟩ F.slot_tuple_hash F.entry_tuple_hash (F.args_tuple_hash_1 _) (beq_builtin_none _) (.inr hu) ?_;refine (?_:wpAny _ _ (Builtin.Tuple.tupleItemsOf (.ref a) >>= _) _ _ s);refine zC1 (wpAny_tupleItemsOf ho hd (zC1 ?_));rw [<- forIn_toList];refine j5 hk l _ _ s #[] _ hl r fun b hb=>?_;refine (?_:wpAny _ _ (retInt (Builtin.Tuple.tupleHashOf b.toList)) _ _ _);exact hb.symm▸zC1 (wpAny_mkInt (zC2 ⟨_,_,rfl,h⟩))
def wS:jD prog w A E aG (scH w) (fun U=>1):=fun x v as s Q ok r h=>by
 cases r with
 | int i t=>exact wpAny_pyHash_int h
 | str x t=>exact wpAny_pyHash_str h
 | _=>exact nB ok
theorem qT:∀ (n:Nat) {A:Around},A.units+n < cLine->jD prog w A E (lvV n) (lvH w n) (lvN n)
 | 0,_,_=>wS
 | n+1,A,hu=>fun x v as s Q ok r h=>by
  have hu1:A.units+1+n < cLine:=add_right_comm A.units n 1▸hu;have hu0:A.units < cLine:=J5 (le_add_right _ _) hu;cases r with
  | none=>exact pyHash_slot (T:="NoneType") rfl F.slot_NoneType_hash F.entry_NoneType_hash (F.args_NoneType_hash_1 _) (beq_builtin_none _) (.inr hu0) ((bPu (zC1 (wpAny_mkInt (zC2 ⟨_,_,rfl,h⟩)))))
  | int i t=>exact wpAny_pyHash_int h
  | str x t=>exact wpAny_pyHash_str h
  | tuple ho hc hd hl=>exact nG (qT n (A:=A.in1) hu1) hu0 ho hc hd ok hl h
  | _=>exact nB ok
def uj (hu:A.units+4 < cLine):jD prog w A E aJ (oF w) sW:=fun x v as s Q ok r h=>by
 cases r with
 | tuple ho hc hd hl=>exact nG (qT 3 (A:=A.in1) hu) (J5 (le_add_right _ _) hu) ho hc hd ok hl h
 | _=>exact nB ok
def zb (h:aG x=true):x.canLay0=true/\x.depth<=0:=by
 cases x with
 | int=>exact ⟨rfl,le_refl _⟩
 | str=>exact ⟨h,le_refl _⟩
 | _=>exact nB h
theorem lB (hk:∀ x,ok x=true->x.canLay0=true/\x.depth<=n):∀ l:List V,l.all ok=true->canLayAll0 l=true/\depthAll l<=n
 | [],_=>⟨rfl,zero_le _⟩
 | x :: l,h=>by
  have h:=zA2 h;have q:=lB hk l h.2;exact ⟨zA3 ⟨(hk x h.1).1,q.1⟩,max_le.mpr ⟨(hk x h.1).2,q.2⟩⟩
theorem vg:∀ (n:Nat) {x:V},lvV n x=true->x.canLay0=true/\x.depth<=n
 | 0,_,h=>zb h
 | n+1,x,h=>by
  cases x with
  | none=>exact ⟨rfl,zero_le _⟩
  | tuple l=>exact (lB (fun x=>vg n) l h).imp id succ_le_succ
  | int=>exact ⟨rfl,zero_le _⟩
  | str=>exact ⟨h,zero_le _⟩
  | _=>exact nB h
def fU (h:aJ x=true):x.canLay0=true/\x.depth<=4:=by
 cases x with
 | tuple l=>exact (lB (fun x=>vg 3) l h).imp id succ_le_succ
 | _=>exact nB h
def sU (ok:V->Bool):Prop:=∀ x y,ok x=true->ok y=true->(PyData.eqv x y=true ↔ x=y)
theorem ly (hk:sU ok):∀ l m:List V,l.all ok=true->m.all ok=true->(eqvAll l m=true ↔ l=m)
 | [],[],_,_=>⟨fun U=>rfl,fun U=>rfl⟩
 | [],_ :: _,_,_=>iff_of_false nofun nofun
 | _ :: _,[],_,_=>iff_of_false nofun nofun
 | x :: l,y :: m,h1,h2=>by
  have h1:=zA2 h1;have h2:=zA2 h2;refine (?_:(PyData.eqv x y&&eqvAll l m)=true ↔ _);rw [and_eq_true,hk x y h1.1 h2.1,ly hk l m h1.2 h2.2,List.cons.injEq]
def jw:sU aG:=fun x y hx hy=>by
 cases x with
 | int i=>cases y with
  | int j=>exact ⟨fun h=>congrArg _ (eq_of_beq h),fun h=>by (injection h with h; subst h); exact beq_self_eq_true i⟩
  | str t=>exact iff_of_false nofun nofun
  | _=>exact nB hy
 | str s=>cases y with
  | int j=>exact iff_of_false nofun nofun
  | str t=>exact ⟨fun h=>congrArg _ (eq_of_beq h),fun h=>by (injection h with h; subst h); exact beq_self_eq_true s⟩
  | _=>exact nB hy
 | _=>exact nB hx
theorem vz:∀ n:Nat,sU (lvV n)
 | 0=>jw
 | n+1=>fun x y hx hy=>by
  cases x with
  | none=>cases y with
   | none=>exact ⟨fun U=>rfl,fun U=>rfl⟩
   | _=>exact iff_of_false nofun nofun
  | tuple l=>cases y with
   | tuple m=>exact (ly (vz n) l m hx hy).trans ⟨fun h=>congrArg _ h,fun h=>PyData.tuple.inj h⟩
   | _=>exact iff_of_false nofun nofun
  | int i=>cases y with
   | int j=>exact jw _ _ hx hy
   | str t=>exact jw _ _ hx hy
   | bool=>exact nB hy
   | _=>exact iff_of_false nofun nofun
  | str s=>cases y with
   | int j=>exact jw _ _ hx hy
   | str t=>exact jw _ _ hx hy
   | _=>exact iff_of_false nofun nofun
  | _=>exact nB hx
def bg:sU aJ:=fun x y hx hy=>by
 cases x with
 | tuple l=>cases y with
  | tuple m=>exact (ly (vz 3) l m hx hy).trans ⟨fun h=>congrArg _ h,fun h=>PyData.tuple.inj h⟩
  | _=>exact nB hy
 | _=>exact nB hx
end
section
variable {prog:Program} {w:World} {A:Around} {E:Value->Shared->Prop} {s:Shared}
def iR (prog:Program) (w:World) (A:Around) (E:Value->Shared->Prop) (ok:V->Bool) (m:Nat):Prop:=∀ x v as (s:Shared) (Q:Bool->Shared->Prop),ok x=true->Reads s.heap v x as->Q true s->wpAny (model prog w) A (eqIsQuiet m v) Q E s
def jO (hk:iR prog w A E ok m) (ho:s.heap.get? a=some o) (hc:o.cls=.type "tuple") (hd:o.data=.seq vs n) (hl:l.all ok=true) (r:ReadsAll s.heap vs.toList l as) (h:Q true s) :
  wpAny (model prog w) A (eqIsQuiet (m+1) (.ref a)) Q E s:=by
 have hT:s.TypeIs (.ref a) "tuple":=⟨o,ho,hc⟩;unfold eqIsQuiet;refine zC1 (wpAny_specialOf hT F.slot_tuple_eq.lookup ?_);refine (?_:wpAny _ _ (isInstance (.ref a) (.type "tuple") >>= _) _ _ s);refine zC1 (wpAny_isInstance hT isSubtype_tuple_tuple ?_);refine bI (c:=(!true)=true) Bool.false_ne_true (zC1 (wpAny_seqItems ho hd (zC1 ?_)));refine (?_:wpAny _ _ (forIn vs _ _) _ _ s);rw [<- forIn_toList];refine wpAny_forIn_list _ (fun rest r s'=>r.1=none/\s'=s/\∃ l' as',l'.all ok=true/\ReadsAll s.heap rest l' as') _ ?_ ?_ _ _ ⟨rfl,rfl,l,as,hl,r⟩
 ·rintro v rest r s' ⟨hr,rfl,l',as',CP,rr⟩;cases rr with
  | cons r1 rs=>
   have q:=zA2 CP;refine zC1 (hk _ _ _ s' _ q.1 r1 ?_);exact bI (c:=(!true)=true) Bool.false_ne_true (zC2 ⟨rfl,rfl,_,_,q.2,rs⟩)
 ·rintro ⟨r1,r2⟩ s' ⟨hr,rfl,_⟩;obtain rfl:r1=none:=hr;exact wpAny_pure h
def cX (hv:carriedByValue v=true) (h:Q true s):wpAny (model prog w) A (eqIsQuiet m v) Q E s:=by
 rw [eqIsQuiet_byValue _ hv]; exact wpAny_pure h
def tI:iR prog w A E aG m:=fun x v as s Q ok r h=>by
 cases r with
 | int i t=>exact cX rfl h
 | str x t=>exact cX rfl h
 | _=>exact nB ok
theorem mY:∀ n m:Nat,iR prog w A E (lvV n) (m+n)
 | 0,_=>tI
 | n+1,m=>fun x v as s Q ok r h=>by
  cases r with
  | none=>exact cX rfl h
  | int i t=>exact cX rfl h
  | str x t=>exact cX rfl h
  | tuple ho hc hd hl=>exact jO (m:=m+n) (mY n m) ho hc hd ok hl h
  | _=>exact nB ok
def rZ:iR prog w A E aJ 8:=fun x v as s Q ok r h=>by
 cases r with
 | tuple ho hc hd hl=>exact jO (m:=7) (mY 3 4) ho hc hd ok hl h
 | _=>exact nB ok
end
def l9 (h h':Heap) (ok:V->Bool):Prop:=∀ x v as,ok x=true->Reads h v x as->Reads h' v x as
section
variable {h h':Heap}
theorem pQ (hk:l9 h h' ok):∀ (l:List V) (vs:List Value) (as:List Addr),l.all ok=true->ReadsAll h vs l as->ReadsAll h' vs l as
 | [],_,_,_,r=>by
  cases r; exact .nil
 | x :: l,_,_,q,r=>by
  cases r with
  | cons r rs=>exact .cons (hk x _ _ (zA2 q).1 r) (pQ hk l _ _ (zA2 q).2 rs)
def AI:l9 h h' aG:=fun x v as ok r=>by
 cases r with
 | int i t=>exact .int i t
 | str x t=>exact .str x t
 | _=>exact nB ok
theorem xY (k:∀ b o vs n,h.get? b=some o->o.data=.seq vs n->h'.get? b=some o):∀ n:Nat,l9 h h' (lvV n)
 | 0=>AI
 | n+1=>fun x v as ok r=>by
  cases r with
  | none=>exact .none
  | int i t=>exact .int i t
  | str x t=>exact .str x t
  | tuple ho hc hd hl=>exact .tuple (k _ _ _ _ ho hd) hc hd (pQ (xY k n) _ _ _ ok hl)
  | _=>exact nB ok
def zK (k:∀ b o vs n,h.get? b=some o->o.data=.seq vs n->h'.get? b=some o):l9 h h' aJ:=fun x v as ok r=>by
 cases r with
 | tuple ho hc hd hl=>exact .tuple (k _ _ _ _ ho hd) hc hd (pQ (xY k 3) _ _ _ ok hl)
 | _=>exact nB ok
end
def KIs (h:Heap) (x:V) (a:Addr):Prop:=aJ x=true/\∃ as,Reads h (.ref a) x as
theorem KIs.keep (r:KIs h x a) (k:∀ b o vs n,h.get? b=some o->o.data=.seq vs n->h'.get? b=some o):KIs h' x a:=⟨r.1,r.2.imp fun as q=>zK k x _ _ r.1 q⟩
def ww {h:Heap} {d:Addr} {o o':Obj} {es:Array DictEntry} {ep n:Nat} {vs:Array Value} (hd:o.data=.dict es ep) (ho:h.get? d=some o) (c:o'.data=.seq vs n) (e:h.get? d=some o'):False:=by
 rw [ho] at e;injection e with e
 subst e;exact nomatch hd.symm.trans c
noncomputable def cC:DecidableEq V:=fun a b=>Classical.propDecidable (a=b)
def lw (hx:aJ x=true) (hy:aJ y=true):PyData.eqv x y=@decide (x=y) (cC x y):=by
 rw [Bool.eq_iff_iff,bg x y hx hy];exact (@decide_eq_true_iff _ (cC x y)).symm
noncomputable def cy (prog:Program) (w:World):@HeapKind prog w V cC:=
 @HeapKind.mk prog w V cC KIs (oF w) sW (fun A=>A.units+4 < cLine)
  (fun hx hy=>hx.2.elim fun U r=>hy.2.elim fun U r'=>SeqAt.Reads.unique _ _ _ _ _ (fU hx.1).1 r r')
  (fun r ho hd hs=>r.keep fun b o' vs n e c=>(hs.2 b fun q=>ww hd ho c (q▸e)).trans e)
  (fun hu hk h=>hk.2.elim fun U r=>uj hu _ _ _ _ _ hk.1 r h)
  (fun hu hx hy h=>hx.2.elim fun U r=>hy.2.elim fun U r'=>SeqAt.eqBoolOverData _ _ _ _ _ _ _ _ _ _ _ _ r r' (fU hx.1).1 (fU hy.1).1 (J5 (add_le_add_left (zB1 (Nat.min_le_right _ _) (fU hy.1).2) _) hu) ((lw hx.1 hy.1).symm▸h))
  (fun hk h=>hk.2.elim fun U r=>rZ _ _ _ _ _ hk.1 r h)
end Mine
end
noncomputable section
namespace Mine
open PySem PySem.Calls PyProof.Rows PySem.W
section
def ah (h h':Heap):Prop:=∀ b o,h.get? b=some o->h'.get? b=some o
def aI (h:Heap) (a:Addr):Prop:=∃ o,h.get? a=some o
theorem ah.refl (h:Heap):ah h h:=fun U U e=>e
theorem ah.trans (x:ah Cs Df) (y:ah Df CH):ah Cs CH:=fun b o e=>y b o (x b o e)
theorem ah.live (x:ah h h'):aI h a->aI h' a:=fun q=>q.elim fun o e=>⟨o,x a o e⟩
def jC (h:Heap) (v:Value):Prop:=∀ a b,v=.ref a->aI h b->b < a
theorem jC.le (x:jC h' v) (k:∀ b,aI h b->aI h' b):jC h v:=fun a b e l=>x a b e (k b l)
def d7 (q:h.objs.size<=n):jC h (.ref n):=fun a b e Es=>Es.elim fun o l=>by (injection e with e; subst e); exact J6 (lt_size l) q
def ag (h:Heap):h.get? h.objs.size=none:=by
 cases e:h.get? h.objs.size with
 | none=>rfl
 | some o=>exact absurd (lt_size e) (lt_irrefl _)
def aH (l:aI h a->aI h' a) (e:h'.get? a=none):h.get? a=none:=by
 cases q:h.get? a with
 | none=>rfl
 | some o=>obtain ⟨o',e'⟩:=l ⟨o,q⟩; rw [e] at e'; (injection e'; done)
def ae (h:Heap) (o:Obj):ah h (h.push o):=fun U U e=>J7 _ e
structure Gl where
 prog:Program
 w:World
 h0:Heap
 mg:Str->Option Value
 mb:Str->Option Value
 fn:Nat->Addr
 C:Nat->Addr
 K:Frag
 flds:Nat->List Str
 os:OsState
 P:Prog
 newf:Nat->Bool
 fns:List (Str×Nat)
 cons:List (Str×V)
structure Base (g:Gl) (s:Shared):Prop where
 stays:ah g.h0 s.heap
 os:s.os=g.os
 gens:s.gens=#[]
def b6 (g:Gl) (c:Nat) (o:Obj) (ws:List Value):Prop:=o.ExactDict/\∃ es n,o.data=.dict es n/\es.toList.map (·.val)=ws/\∀ (j:Nat) e,es[j]?=some e->∃ x t,(g.flds c)[j]?=some x/\e.key=.str x t
def DOk (w:World) (kvs:List (V×V)) (es:Array DictEntry):Prop:=dkV kvs=true/\(kvs.map (·.1)).Nodup/\es.toList.map (·.hash)=kvs.map fun p=>oF w p.1
mutual
inductive Rp (g:Gl) (bad:Addr->Prop) (h:Heap):Value->V->Prop
 | none:Rp g bad h .none .none
 | bool (b:Bool):Rp g bad h (.bool b) (.bool b)
 | int (i:Int) (t:Tok):Rp g bad h (.int i t) (.int i)
 | str (x:Str) (t:Tok):Rp g bad h (.str x t) (.str x)
 | list {a:Addr} {o:Obj} {vs:Array Value} {n:Nat} {l:List V}:¬ bad a->h.get? a=some o->o.cls=.type "list"/\o.dict=none->o.data=.seq vs n->RpAll g bad h vs.toList l->Rp g bad h (.ref a) (.list l)
 | tuple {a:Addr} {o:Obj} {vs:Array Value} {n:Nat} {l:List V}:¬ bad a->h.get? a=some o->o.cls=.type "tuple"->o.data=.seq vs n->RpAll g bad h vs.toList l->Rp g bad h (.ref a) (.tuple l)
 | inst {a d:Addr} {c:Nat} {o:Obj} {ws:List Value} {kvs:List (V×V)} {l:List V}:¬ bad a->¬ bad d->h.get? a=some (instObj (g.C c) d)->h.get? d=some o->b6 g c o ws->ikO kvs=some c->kvs.map (·.2)=l->RpAll g bad h ws l->Rp g bad h (.ref a) (.dict kvs)
 | dict {a:Addr} {o:Obj} {es:Array DictEntry} {n:Nat} {kvs:List (V×V)} {l m:List V}:¬ bad a->a≠sysModules->h.get? a=some o->o.ExactDict->o.data=.dict es n->DOk g.w kvs es->kvs.map (·.1)=l->kvs.map (·.2)=m->RpAll g bad h (es.toList.map (·.key)) l->RpAll g bad h (es.toList.map (·.val)) m->Rp g bad h (.ref a) (.dict kvs)
inductive RpAll (g:Gl) (bad:Addr->Prop) (h:Heap):List Value->List V->Prop
 | nil:RpAll g bad h [] []
 | cons {v:Value} {vs:List Value} {x:V} {l:List V}:Rp g bad h v x->RpAll g bad h vs l->RpAll g bad h (v :: vs) (x :: l)
end
section
variable {g:Gl} {bad B4:Addr->Prop} {h h':Heap} {v:Value} {x:V} {vs ws:List Value} {l m:List V}
def a7 (bad B4:Addr->Prop) (h h':Heap):Prop:=∀ a o,h.get? a=some o->¬ bad a->¬ B4 a/\h'.get? a=some o
theorem Rp.ind {C:Value->V->Prop} {D:List Value->List V->Prop} (none:C .none .none) (bool:∀ b,C (.bool b) (.bool b)) (int:∀ i t,C (.int i t) (.int i)) (str:∀ x t,C (.str x t) (.str x))
  (list:∀ a (o:Obj) vs n l,¬ bad a->h.get? a=some o->o.cls=.type "list"/\o.dict=.none->o.data=.seq vs n->RpAll g bad h vs.toList l->D vs.toList l->C (.ref a) (.list l))
  (tuple:∀ a (o:Obj) vs n l,¬ bad a->h.get? a=some o->o.cls=.type "tuple"->o.data=.seq vs n->RpAll g bad h vs.toList l->D vs.toList l->C (.ref a) (.tuple l))
  (inst:∀ a d c o ws kvs,¬ bad a->¬ bad d->h.get? a=some (instObj (g.C c) d)->h.get? d=some o->b6 g c o ws->ikO kvs=some c->RpAll g bad h ws (kvs.map (·.2))->D ws (kvs.map (·.2))->C (.ref a) (.dict kvs))
  (dict:∀ a (o:Obj) es n kvs,¬ bad a->a≠sysModules->h.get? a=some o->o.ExactDict->o.data=.dict es n->DOk g.w kvs es->RpAll g bad h (es.toList.map (·.key)) (kvs.map (·.1))->RpAll g bad h (es.toList.map (·.val)) (kvs.map (·.2))->D (es.toList.map (·.key)) (kvs.map (·.1))->D (es.toList.map (·.val)) (kvs.map (·.2))->C (.ref a) (.dict kvs))
  (nil:D [] []) (cons:∀ v vs x l,Rp g bad h v x->RpAll g bad h vs l->C v x->D vs l->D (v :: vs) (x :: l)):(Rp g bad h v x->C v x)/\(RpAll g bad h vs l->D vs l):=by
 constructor
 ·exact fun r=>Rp.rec (motive_1:=fun v x U=>C v x) (motive_2:=fun vs l U=>D vs l) none bool int str (fun a b c d e i=>list _ _ _ _ _ a b c d e i) (fun a b c d e i=>tuple _ _ _ _ _ a b c d e i) (fun a b c d e k q r i=>by subst q; exact inst _ _ _ _ _ _ a b c d e k r i) (fun a f b c d e q1 q2 r1 r2 i j=>by subst q1 q2; exact dict _ _ _ _ _ a f b c d e r1 r2 i j) nil (fun a b c d=>cons _ _ _ _ a b c d) r
 ·exact fun r=>RpAll.rec (motive_1:=fun v x U=>C v x) (motive_2:=fun vs l U=>D vs l) none bool int str (fun a b c d e i=>list _ _ _ _ _ a b c d e i) (fun a b c d e i=>tuple _ _ _ _ _ a b c d e i) (fun a b c d e k q r i=>by subst q; exact inst _ _ _ _ _ _ a b c d e k r i) (fun a f b c d e q1 q2 r1 r2 i j=>by subst q1 q2; exact dict _ _ _ _ _ a f b c d e r1 r2 i j) nil (fun a b c d=>cons _ _ _ _ a b c d) r
def u2 (k:a7 bad B4 h h'):(Rp g bad h v x->Rp g B4 h' v x)/\(RpAll g bad h vs l->RpAll g B4 h' vs l):=
 Rp.ind .none .bool .int .str (fun a o vs n l hb ha hc hd U ih=>let q:=k a o ha hb; .list q.1 q.2 hc hd ih) (fun a o vs n l hb ha hc hd U ih=>let q:=k a o ha hb; .tuple q.1 q.2 hc hd ih)
  (fun a d c o ws kvs hb DI ha hd hf hi r ih=>let q:=k a _ ha hb; let q':=k d o hd DI; .inst q.1 q'.1 q.2 q'.2 hf hi rfl ih)
  (fun a o es n kvs hb hm ha hc hd he U U i j=>let q:=k a o ha hb; .dict q.1 hm q.2 hc hd he rfl rfl i j) .nil fun U U U U U U i j=>.cons i j
theorem Rp.map (r:Rp g bad h v x) (k:a7 bad B4 h h'):Rp g B4 h' v x:=(u2 (vs:=[]) (l:=[]) k).1 r
theorem RpAll.map (r:RpAll g bad h vs l) (k:a7 bad B4 h h'):RpAll g B4 h' vs l:=(u2 (v:=.none) (x:=.none) k).2 r
theorem ah.mapK (k:ah h h'):a7 bad bad h h':=fun a o e n=>⟨n,k a o e⟩
theorem Rp.keep (r:Rp g bad h v x) (k:ah h h'):Rp g bad h' v x:=r.map k.mapK
theorem RpAll.keep (r:RpAll g bad h vs l) (k:ah h h'):RpAll g bad h' vs l:=r.map k.mapK
theorem RpAll.ind {D:List Value->List V->Prop} (r:RpAll g bad h vs l) (n:D [] []) (c:∀ v vs x l,Rp g bad h v x->RpAll g bad h vs l->D vs l->D (v :: vs) (x :: l)):D vs l:=
 (Rp.ind (v:=.none) (x:=.none) (C:=fun U U=>True) trivial (fun U=>trivial) (fun U U=>trivial) (fun U U=>trivial) (fun U U U U U U U U U U U=>trivial) (fun U U U U U U U U U U U=>trivial) (fun U U U U U U U U U U U U U U=>trivial) (fun U U U U U U U U U U U U U U U=>trivial) n fun v vs x l r rs U i=>c v vs x l r rs i).2 r
theorem RpAll.length (r:RpAll g bad h vs l):vs.length=l.length:=r.ind (D:=fun vs l=>vs.length=l.length) rfl fun U U U U U U i=>congrArg (· + 1) i
theorem RpAll.get {i:Nat} (r:RpAll g bad h vs l):l[i]?=some x->∃ v,vs[i]?=some v/\Rp g bad h v x:=by
 refine r.ind (D:=fun vs l=>∀ i,l[i]?=some x->∃ v,vs[i]?=some v/\Rp g bad h v x) (fun i e=>absurd (List.getElem?_nil (i:=i)▸e) nofun) (fun v vs y l r U ih i e=>?_) i;cases i with
 | zero=>(injection e with e; subst e); exact ⟨_,rfl,r⟩
 | succ i=>exact ih i e
theorem RpAll.append (r:RpAll g bad h vs l) (q:RpAll g bad h ws m):RpAll g bad h (vs++ws) (l++m):=r.ind (D:=fun vs l=>RpAll g bad h (vs++ws) (l++m)) q fun U U U U r U i=>.cons r i
theorem RpAll.take (n:Nat) (r:RpAll g bad h vs l):RpAll g bad h (vs.take n) (l.take n):=by
 refine r.ind (D:=fun vs l=>∀ n,RpAll g bad h (vs.take n) (l.take n)) (fun n=>?_) (fun v vs x l r U ih n=>?_) n
 ·rw [take_nil,take_nil]; exact .nil
 ·cases n with
  | zero=>exact .nil
  | succ n=>exact .cons r (ih n)
theorem RpAll.drop (n:Nat) (r:RpAll g bad h vs l):RpAll g bad h (vs.drop n) (l.drop n):=by
 refine r.ind (D:=fun vs l=>∀ n,RpAll g bad h (vs.drop n) (l.drop n)) (fun n=>?_) (fun v vs x l r rs ih n=>?_) n
 ·rw [drop_nil,drop_nil]; exact .nil
 ·cases n with
  | zero=>exact .cons r rs
  | succ n=>exact ih n
def tF:(Rp g bad h v x->x.canLay0=true->∃ as,Reads h v x as)/\(RpAll g bad h vs l->canLayAll0 l=true->∃ as,ReadsAll h vs l as):=
 Rp.ind (C:=fun v x=>x.canLay0=true->∃ as,Reads h v x as) (D:=fun vs l=>canLayAll0 l=true->∃ as,ReadsAll h vs l as) (fun U=>⟨_,.none⟩) (fun b U=>⟨_,.bool b⟩) (fun i t U=>⟨_,.int i t⟩) (fun x t U=>⟨_,.str x t⟩)
  (fun a o vs n l hb ha hc hd U ih q=>(ih q).elim fun U r=>⟨_,.list ha hc.1 hd r⟩) (fun a o vs n l hb ha hc hd U ih q=>(ih q).elim fun U r=>⟨_,.tuple ha hc hd r⟩) (fun U U U U U U U U U U U U U U q=>nB q) (fun U U U U U U U U U U U U U U U q=>nB q) (fun U=>⟨_,.nil⟩)
  fun v vs x l U U i j q=>by
   have q:=zA2 q;obtain ⟨as,r⟩:=i q.1;obtain ⟨bs,rs⟩:=j q.2;exact ⟨_,.cons r rs⟩
theorem Rp.reads (r:Rp g bad h v x) (q:x.canLay0=true):∃ as,Reads h v x as:=(tF (vs:=[]) (l:=[])).1 r q
@[elab_as_elim] theorem Rp.none_elim {C:Value->Prop} (r:Rp g bad h v .none) (k:C .none):C v:=by cases r; exact k
@[elab_as_elim] theorem Rp.bool_elim {C:Value->Prop} {b:Bool} (r:Rp g bad h v (.bool b)) (k:C (.bool b)):C v:=by cases r; exact k
@[elab_as_elim] theorem Rp.int_elim {C:Value->Prop} {i:Int} (r:Rp g bad h v (.int i)) (k:∀ t,C (.int i t)):C v:=by cases r; exact k _
@[elab_as_elim] theorem Rp.str_elim {C:Value->Prop} {x:Str} (r:Rp g bad h v (.str x)) (k:∀ t,C (.str x t)):C v:=by cases r with | str _ t=>exact k t
@[elab_as_elim] theorem Rp.list_elim {C:Value->Prop} (r:Rp g bad h v (.list l)) (k:∀ a (o:Obj) vs n,¬ bad a->h.get? a=some o->o.cls=.type "list"/\o.dict=Option.none->o.data=.seq vs n->RpAll g bad h vs.toList l->C (.ref a)):C v:=by
 cases r with | list hb ha hc hd hl=>exact k _ _ _ _ hb ha hc hd hl
@[elab_as_elim] theorem Rp.tuple_elim {C:Value->Prop} (r:Rp g bad h v (.tuple l)) (k:∀ a (o:Obj) vs n,¬ bad a->h.get? a=some o->o.cls=.type "tuple"->o.data=.seq vs n->RpAll g bad h vs.toList l->C (.ref a)):C v:=by
 cases r with | tuple hb ha hc hd hl=>exact k _ _ _ _ hb ha hc hd hl
def yj (q:ikO kvs=some c) (d:dkV kvs=true):False:=by
 cases kvs with
 | nil=>exact nN q.symm
 | cons p r=>
  obtain ⟨x,y⟩:=p;cases x with
  | int=>exact nomatch (Jb.mp d _ (.head _):false=true)
  | _=>exact nN q.symm
@[elab_as_elim] theorem Rp.inst_elim {C:Value->Prop} {kvs:List (V×V)} (r:Rp g bad h v (.dict kvs)) (q:ikO kvs=some c) (k:∀ a d o ws,¬ bad a->¬ bad d->h.get? a=some (instObj (g.C c) d)->h.get? d=some o->b6 g c o ws->RpAll g bad h ws (kvs.map (·.2))->C (.ref a)):C v:=by
 cases r with
 | inst hb DI ha hd hf e' e hl=>subst e; obtain rfl:=Option.some.inj (e'.symm.trans q); exact k _ _ _ _ hb DI ha hd hf hl
 | dict _ _ _ _ _ he=>exact (yj q he.1).elim
@[elab_as_elim] theorem Rp.dict_elim {C:Value->Prop} {kvs:List (V×V)} (r:Rp g bad h v (.dict kvs)) (q:dkV kvs=true) (k:∀ a (o:Obj) es n,¬ bad a->a≠sysModules->h.get? a=some o->o.ExactDict->o.data=.dict es n->DOk g.w kvs es->RpAll g bad h (es.toList.map (·.key)) (kvs.map (·.1))->RpAll g bad h (es.toList.map (·.val)) (kvs.map (·.2))->C (.ref a)):C v:=by
 cases r with
 | inst _ _ _ _ _ q'=>exact (yj q' q).elim
 | dict hb hm ha hc hd he e1 e2 r1 r2=>subst e1 e2; exact k _ _ _ _ hb hm ha hc hd he r1 r2
end
end
inductive Pl where
 | ns (a:Addr) (x:Str)
 | cell (c:Addr)
 | off
noncomputable def Pl.addr:Pl->Option Addr
 | .ns a _=>some a
 | .cell c=>some c
 | .off=>none
noncomputable def aw (h:Heap):Pl->Option Value->Prop
 | .ns a x,v=>∃ m,h.Ns a m/\m x=v
 | .cell c,v=>h.IsCell c v
 | .off,v=>v=none
structure Fx where
 g:Gl
 A:Around
 env:Env
 ρ:List (Str×Nat)
 pl:Nat->Pl
 Mo:Addr->Prop
 nf:Nat
 ns:Nat
 d:Nat
 nw:Bool
structure Ct where
 fx:Fx
 oa:Nat->List (List Addr)
 G:Gs
def Ct.own (Φ:Ct) (a:Addr):Prop:=(∃ k,(Φ.fx.pl k).addr=some a)\/∃ k,a∈(Φ.oa k).flatten
def Ct.bad (Φ:Ct) (a:Addr):Prop:=Φ.fx.Mo a\/Φ.own a
inductive OwnLAt (g:Gl) (bad:Addr->Prop) (h:Heap) (a:Addr) (l:List V):Prop
 | mk (o:Obj) (vs:Array Value) (n:Nat) (ho:h.get? a=some o) (hc:o.cls=.type "list"/\o.dict=none) (hd:o.data=.seq vs n) (hl:RpAll g bad h vs.toList l):OwnLAt g bad h a l
inductive OwnDAt (g:Gl) (bad:Addr->Prop) (h:Heap) (a:Addr) (l:List (V×V)):Prop
 | mk (o:Obj) (es:Array DictEntry) (n:Nat) (ho:h.get? a=some o) (hc:o.ExactDict) (hd:o.data=.dict es n) (hk:DOk g.w l es) (r1:RpAll g bad h (es.toList.map (·.key)) (l.map (·.1))) (r2:RpAll g bad h (es.toList.map (·.val)) (l.map (·.2))):OwnDAt g bad h a l
noncomputable def c9 (g:Gl) (bad:Addr->Prop) (h:Heap) (a:Addr):V->Prop
 | .list l=>OwnLAt g bad h a l
 | .dict l=>OwnDAt g bad h a l
 | _=>False
inductive InAll (g:Gl) (bad:Addr->Prop) (h:Heap):List Value->List V->List Addr->Prop
 | nil:InAll g bad h [] [] []
 | cons {a:Addr} {x:V} {vs:List Value} {l:List V} {F:List Addr}:c9 g bad h a x->InAll g bad h vs l F->InAll g bad h (.ref a :: vs) (x :: l) (a :: F)
inductive NestAt (g:Gl) (bad:Addr->Prop) (h:Heap) (a:Addr) (l:List (V×V)) (F:List Addr):Prop
 | mk (o:Obj) (es:Array DictEntry) (n:Nat) (ho:h.get? a=some o) (hc:o.ExactDict) (hd:o.data=.dict es n) (hk:DOk g.w l es) (r1:RpAll g bad h (es.toList.map (·.key)) (l.map (·.1))) (r2:InAll g bad h (es.toList.map (·.val)) (l.map (·.2)) F):NestAt g bad h a l F
inductive FldAt (g:Gl) (bad:Addr->Prop) (h:Heap):Value->Fld->List Addr->Prop
 | val {w:Value} {x:V}:Rp g bad h w x->FldAt g bad h w (.val x) []
 | L {a:Addr} {l:List V}:OwnLAt g bad h a l->FldAt g bad h (.ref a) (.L l) [a]
 | D {a:Addr} {l:List (V×V)}:OwnDAt g bad h a l->FldAt g bad h (.ref a) (.D l) [a]
 | N {a:Addr} {l:List (V×V)} {F:List Addr}:NestAt g bad h a l F->FldAt g bad h (.ref a) (.N l) (a :: F)
inductive FldsAt (g:Gl) (bad:Addr->Prop) (h:Heap):List Value->List Fld->List (List Addr)->Prop
 | nil:FldsAt g bad h [] [] []
 | cons {w:Value} {f:Fld} {fa:List Addr} {ws:List Value} {fs:List Fld} {F:List (List Addr)}:FldAt g bad h w f fa->FldsAt g bad h ws fs F->FldsAt g bad h (w :: ws) (f :: fs) (fa :: F)
inductive OwnIAt (g:Gl) (bad:Addr->Prop) (h:Heap) (a:Addr) (F:List (List Addr)) (u:Value) (o:Ob):Prop
 | mk (b:Addr) (od:Obj) (ws:List Value) (e:u=.ref b) (nb:¬ bad b) (hb:h.get? b=some (instObj (g.C o.c) a)) (ho:h.get? a=some od) (hf:b6 g o.c od ws) (hl:FldsAt g bad h ws o.fs F) (nd:(a :: F.flatten).Nodup):OwnIAt g bad h a F u o
inductive ObjAt (g:Gl) (bad:Addr->Prop) (h:Heap) (F:List (List Addr)) (u:Value) (o:Ob):Prop
 | mk (b a:Addr) (od:Obj) (ws:List Value) (e:u=.ref b) (nb:¬ bad b) (na:¬ bad a) (hb:h.get? b=some (instObj (g.C o.c) a)) (ho:h.get? a=some od) (hf:b6 g o.c od ws) (hl:FldsAt g bad h ws o.fs F) (nd:F.flatten.Nodup):ObjAt g bad h F u o
def Ct.al (Φ:Ct) (k j i:Nat) (u:Value):Prop:=∀ o,getSlot Φ.G k=.obj o->∃ fa b,(Φ.oa k)[j]?=some fa/\fa[i+1]?=some b/\u=.ref b
noncomputable def aV (g:Gl) (bad:Addr->Prop) (h:Heap) (al:Nat->Nat->Nat->Value->Prop) (oak:List (List Addr)) (v:Option Value):Slot->Prop
 | .unset=>oak=[]/\v=none
 | .junk=>oak=[]/\∃ u,v=some u
 | .v x=>oak=[]/\∃ u,v=some u/\Rp g bad h u x
 | .ownL l=>∃ a,oak=[[a]]/\v=some (.ref a)/\OwnLAt g bad h a l
 | .ownD l=>∃ a,oak=[[a]]/\v=some (.ref a)/\OwnDAt g bad h a l
 | .ownI o=>∃ a F u,oak=[a] :: F/\v=some u/\OwnIAt g bad h a F u o
 | .obj o=>∃ u,v=some u/\ObjAt g bad h oak u o
 | .ali k j i=>oak=[]/\∃ u,v=some u/\al k j i u
inductive CallP (g:Gl) (bad:Addr->Prop) (f:Nat) (s:Shared) (K:V->Prop) (v:Value) (s':Shared):Prop
 | mk:Base g s'->ah s.heap s'.heap->∀ y,K y->Rp g bad s'.heap v y->(g.newf f=true->jC s.heap v)->CallP g bad f s K v s'
def kA (bad:Addr->Prop) (F:List (List Addr)) (a:Addr):Prop:=bad a\/a∈F.flatten
inductive CallM (g:Gl) (bad:Addr->Prop) (s:Shared) (K:Ob->Prop) (v:Value) (s':Shared):Prop
 | mk:Base g s'->ah s.heap s'.heap->∀ o F,K o->ObjAt g (kA bad F) s'.heap F v o->(∀ a∈F.flatten,s.heap.get? a=none/\aI s'.heap a)->CallM g bad s K v s'
def dF (F F':List (List Addr)):Prop:=∀ (j:Nat) fa,F[j]?=some fa->∃ r,F'[j]?=some (fa++r)
inductive CallO (g:Gl) (bad:Addr->Prop) (F:List (List Addr)) (u:Value) (s:Shared) (K:V->Ob->Prop) (v:Value) (s':Shared):Prop
 | mk:Base g s'->(∀ b o,s.heap.get? b=some o->b∉F.flatten->s'.heap.get? b=some o)->∀ y o F',K y o->Rp g (kA bad F') s'.heap v y->ObjAt g (kA bad F') s'.heap F' u o->dF F F'->(∀ a∈F'.flatten,aI s'.heap a/\(a∈F.flatten\/s.heap.get? a=none))->CallO g bad F u s K v s'
structure CallC (g:Gl) (d:Nat) (bad:Addr->Prop) (A:Around) (s:Shared):Prop where
 hand:A.handled=none
 room:A.depth+2 * d < 990
 units:A.units+4 * d+100 < cLine
 base:Base g s
 live:∀ a,bad a->aI s.heap a
 zero:∀ a,bad a->g.h0.get? a=none
structure CallOk (g:Gl) (cf:CallF) (d:Nat):Prop where
 p:∀ f args K A s bad vals E,cf.p f args K->CallC g d bad A s->RpAll g bad s.heap vals args->wpAny (model g.prog g.w) A (call (.ref (g.fn f)) vals) (CallP g bad f s K) E s
 j:∀ f args K A s bad vals u E,cf.j f args K->CallC g d bad A s->RpAll g bad s.heap vals args->wpAny (model g.prog g.w) A (call (.ref (g.fn f)) (u :: vals)) (CallP g bad f s K) E s
 m:∀ f args K A s bad vals E,cf.m f args K->CallC g d bad A s->RpAll g bad s.heap vals args->wpAny (model g.prog g.w) A (call (.ref (g.fn f)) vals) (CallM g bad s K) E s
 o:∀ f o args K A s bad F vals u E,cf.o f o args K->CallC g d (kA bad F) A s->(∀ a∈F.flatten,¬ bad a)->ObjAt g (kA bad F) s.heap F u o->RpAll g (kA bad F) s.heap vals args->wpAny (model g.prog g.w) A (call (.ref (g.fn f)) (u :: vals)) (CallO g bad F u s K) E s
structure ClsOk (g:Gl) (c:Nat):Prop where
 hga:findIn g.K (.ref (g.C c)) "__getattribute__"=some (some (.builtin "object.__getattribute__"))
 hgk:findIn g.K (.ref (g.C c)) "__getattr__"=some none
 hsa:findIn g.K (.ref (g.C c)) "__setattr__"=some (some (.builtin "object.__setattr__"))
 over:plainOver g.K (g.C c)=true
 hdict:(clsIn g.K (g.C c)).any (·.hasDict)=true
 flds:∀ x∈g.flds c,findIn g.K (.ref (g.C c)) x=some none
 makes:makesIn g.K (g.C c)=true
 nodup:(g.flds c).Nodup
 few:(g.flds c).length<=1000
structure Ground (g:Gl):Prop where
 main:g.h0.Ns mainGlobals g.mg
 blt:g.h0.Ns builtinsNs g.mb
 nolim:g.h0.NoLimit
 sysm:aI g.h0 sysModules
 frag:g.K.In g.h0
 cls:∀ c,c < 3->ClsOk g c
 fns:∀ x f,g.fns.lookup x=some f->g.mg x=some (.ref (g.fn f))
 cons:∀ x v,g.cons.lookup x=some v->∃ u,g.mg x=some u/\∀ (bad:Addr->Prop) h,ah g.h0 h->(∀ a,bad a->g.h0.get? a=none)->Rp g bad h u v
 blts:∀ x v,bC.lookup x=some v->g.mg x=none/\g.mb x=some v
structure FxOk (fx:Fx):Prop where
 gr:Ground fx.g
 hand:fx.A.handled=none
 kind:fx.env.scope.kind=.function
 globals:fx.env.globals=mainGlobals
 builtins:fx.env.builtins=builtinsNs
 vis:∀ x k,fx.ρ.lookup x=some k->(fx.env.kindOf x=some .local/\fx.pl k=.ns fx.env.locals x)\/((fx.env.kindOf x=some .cell\/fx.env.kindOf x=some .free)/\∃ c,fx.env.cells.lookup x=some c/\fx.pl k=.cell c)
 inj:∀ k j,fx.pl k=fx.pl j->fx.pl k≠.off->k=j
 apart:∀ k j a x c,fx.pl k=.ns a x->fx.pl j=.cell c->a≠c
 offs:∀ k,fx.nf<=k->fx.pl k=.off
 nfs:fx.nf<=fx.ns
 room:fx.A.depth+2 * fx.d < 990
 units:fx.A.units+4 * fx.d+100 < cLine
 call:CallOk fx.g (ak fx.g.P fx.d) fx.d
 mo0:∀ a,fx.Mo a->fx.g.h0.get? a=none
structure Inv (Φ:Ct) (s:Shared):Prop where
 ok:FxOk Φ.fx
 base:Base Φ.fx.g s
 slot:∀ k,∃ v,aw s.heap (Φ.fx.pl k) v/\aV Φ.fx.g Φ.bad s.heap Φ.al (Φ.oa k) v (getSlot Φ.G k)
 new:∀ a,Φ.own a->aI s.heap a/\Φ.fx.g.h0.get? a=none/\¬ Φ.fx.Mo a
 inj:∀ k j a,a∈(Φ.oa k).flatten->a∈(Φ.oa j).flatten->k=j
 off:∀ k a,a∈(Φ.oa k).flatten->∀ j,(Φ.fx.pl j).addr≠some a
 gl:Φ.G.length=Φ.fx.ns
 mo:∀ a,Φ.fx.Mo a->aI s.heap a
section
variable {g:Gl} {Φ:Ct} {s s' s₁:Shared} {h h':Heap} {bad B4:Addr->Prop} {α β γ δ:Type}
theorem aw.keep (k:ah h h') (r:aw h p v):aw h' p v:=by
 cases p with
 | ns a x=>obtain ⟨m,hn,hv⟩:=r; exact ⟨m,hn.keeps k,hv⟩
 | cell c=>obtain ⟨o,ho,hd⟩:=r; exact ⟨o,k c o ho,hd⟩
 | off=>exact r
theorem OwnLAt.map (r:OwnLAt g bad h a l) (k:a7 bad B4 h h') (t:∀ o,h.get? a=some o->h'.get? a=some o):OwnLAt g B4 h' a l:=by
 cases r with | mk o vs n ho hc hd hl=>exact ⟨o,vs,n,t o ho,hc,hd,hl.map k⟩
theorem OwnDAt.map (r:OwnDAt g bad h a l) (k:a7 bad B4 h h') (t:∀ o,h.get? a=some o->h'.get? a=some o):OwnDAt g B4 h' a l:=by
 cases r with | mk o es n ho hc hd hk r1 r2=>exact ⟨o,es,n,t o ho,hc,hd,hk,r1.map k,r2.map k⟩
theorem c9.map (r:c9 g bad h a x) (k:a7 bad B4 h h') (t:∀ o,h.get? a=some o->h'.get? a=some o):c9 g B4 h' a x:=by
 cases x with
 | list l=>exact OwnLAt.map r k t
 | dict l=>exact OwnDAt.map r k t
 | _=>exact r
theorem InAll.map (r:InAll g bad h vs l F) (k:a7 bad B4 h h'):(∀ a∈F,∀ o,h.get? a=some o->h'.get? a=some o)->InAll g B4 h' vs l F:=by
 induction r with
 | nil=>exact fun U=>.nil
 | cons x _ ih=>exact fun t=>.cons (x.map k (t _ (.head _))) (ih fun a m=>t a (.tail _ m))
theorem NestAt.map (r:NestAt g bad h a l F) (k:a7 bad B4 h h') (t:∀ b∈a :: F,∀ o,h.get? b=some o->h'.get? b=some o):NestAt g B4 h' a l F:=by
 cases r with | mk o es n ho hc hd hk r1 r2=>exact ⟨o,es,n,t a (.head _) o ho,hc,hd,hk,r1.map k,r2.map k fun b m=>t b (.tail _ m)⟩
theorem FldAt.map (r:FldAt g bad h w f fa) (k:a7 bad B4 h h') (t:∀ a∈fa,∀ o,h.get? a=some o->h'.get? a=some o):FldAt g B4 h' w f fa:=by
 cases r with
 | val x=>exact .val (x.map k)
 | L x=>exact .L (x.map k (t _ (.head _)))
 | D x=>exact .D (x.map k (t _ (.head _)))
 | N x=>exact .N (x.map k t)
theorem FldsAt.map (r:FldsAt g bad h ws fs F) (k:a7 bad B4 h h'):(∀ a∈F.flatten,∀ o,h.get? a=some o->h'.get? a=some o)->FldsAt g B4 h' ws fs F:=by
 induction r with
 | nil=>exact fun U=>.nil
 | cons x _ ih=>exact fun t=>.cons (x.map k fun a m=>t a (mem_append_left _ m)) (ih fun a m=>t a (mem_append_right _ m))
theorem ObjAt.map (r:ObjAt g bad h F u o) (k:a7 bad B4 h h') (t:∀ a∈F.flatten,∀ o,h.get? a=some o->h'.get? a=some o):ObjAt g B4 h' F u o:=by
 cases r with | mk b a od ws e nb na hb ho hf hl nd=>exact ⟨b,a,od,ws,e,(k _ _ hb nb).1,(k _ _ ho na).1,(k _ _ hb nb).2,(k _ _ ho na).2,hf,hl.map k t,nd⟩
theorem aV.map (r:aV g bad h al oak v sl) (k:a7 bad B4 h h') (ka:∀ k j i u,al k j i u->al' k j i u) (t:∀ a∈oak.flatten,∀ o,h.get? a=some o->h'.get? a=some o):aV g B4 h' al' oak v sl:=by
 cases sl with
 | unset=>exact r
 | junk=>exact r
 | v x=>obtain ⟨e,u,q,rp⟩:=r; exact ⟨e,u,q,rp.map k⟩
 | ownL l=>obtain ⟨a,rfl,q,x⟩:=r; exact ⟨a,rfl,q,x.map k (t a (.head _))⟩
 | ownD l=>obtain ⟨a,rfl,q,x⟩:=r; exact ⟨a,rfl,q,x.map k (t a (.head _))⟩
 | ownI o=>obtain ⟨a,F,u,rfl,q,b,od,ws,e,nb,hb,ho,hf,hl,nd⟩:=r; exact ⟨a,F,u,rfl,q,b,od,ws,e,(k _ _ hb nb).1,(k _ _ hb nb).2,t a (.head _) _ ho,hf,hl.map k fun a m=>t a (.tail _ m),nd⟩
 | obj o=>obtain ⟨u,q,x⟩:=r; exact ⟨u,q,x.map k t⟩
 | ali k j i=>obtain ⟨e,u,q,x⟩:=r; exact ⟨e,u,q,ka _ _ _ _ x⟩
theorem Inv.keep (I:Inv Φ s) (B:Base Φ.fx.g s') (k:ah s.heap s'.heap):Inv Φ s' where
 ok:=I.ok
 base:=B
 slot:=fun j=>let ⟨v,r,x⟩:=I.slot j; ⟨v,r.keep k,x.map k.mapK (fun U U U U q=>q) fun a U o e=>k a o e⟩
 new:=fun a q=>let ⟨x,y⟩:=I.new a q; ⟨k.live x,y⟩
 inj:=I.inj
 off:=I.off
 gl:=I.gl
 mo:=fun a q=>k.live (I.mo a q)
theorem Inv.bad0 (I:Inv Φ s) (b:Φ.bad a):Φ.fx.g.h0.get? a=none:=b.elim (I.ok.mo0 a) fun b=>(I.new a b).2.1
theorem Inv.badLive (I:Inv Φ s) (b:Φ.bad a):aI s.heap a:=b.elim (I.mo a) fun b=>(I.new a b).1
abbrev Ct.wp (Φ:Ct) (t:Sem α) (Q:α->Shared->Prop) (s:Shared):Prop:=∀ E,wpAny (model Φ.fx.g.prog Φ.fx.g.w) Φ.fx.A t Q E s
inductive Post (Φ:Ct) (R:Heap->α->β->Prop) (s:Shared) (K:β->Prop) (a:α) (s':Shared):Prop
 | mk:Base Φ.fx.g s'->ah s.heap s'.heap->∀ y,K y->R s'.heap a y->Post Φ R s K a s'
def EvR (Φ:Ct) (R:Heap->α->β->Prop) (t:Sem α) (d:(β->Prop)->Prop):Prop:=∀ K s,d K->Inv Φ s->Φ.wp t (Post Φ R s K) s
noncomputable abbrev Ct.rp (Φ:Ct):Heap->Value->V->Prop:=Rp Φ.fx.g Φ.bad
noncomputable abbrev Ct.rps (Φ:Ct):Heap->List Value->List V->Prop:=RpAll Φ.fx.g Φ.bad
abbrev Ev (Φ:Ct) (t:Sem Value) (d:(V->Prop)->Prop):Prop:=EvR Φ Φ.rp t d
abbrev EvT (Φ:Ct) (t:Sem Bool) (d:(Bool->Prop)->Prop):Prop:=EvR Φ (fun U=>Eq) t d
abbrev EvL (Φ:Ct) (t:Sem (List Value)) (d:(List V->Prop)->Prop):Prop:=EvR Φ Φ.rps t d
def fN (Φ:Ct) (s:Shared) (K:V->Prop) (v:Value) (s':Shared):Prop:=Post Φ (Rp Φ.fx.g Φ.bad) s K v s'/\jC s.heap v
def EvN (Φ:Ct) (t:Sem Value) (d:(V->Prop)->Prop):Prop:=∀ K s,d K->Inv Φ s->Φ.wp t (fN Φ s K) s
theorem Post.lift {R:Heap->α->β->Prop} {K:β->Prop} (p:Post Φ R s₁ K a s') (k:ah s.heap s₁.heap):Post Φ R s K a s':=by
 cases p with | mk B k' y ky r=>exact ⟨B,k.trans k',y,ky,r⟩
theorem fN.lift {K:V->Prop} (p:fN Φ s₁ K v s') (k:ah s.heap s₁.heap):fN Φ s K v s':=⟨p.1.lift k,p.2.le fun U=>k.live⟩
def iS (Φ:Ct) (n:Bool) (s:Shared) (K:V->Prop) (v:Value) (s':Shared):Prop:=Post Φ (Rp Φ.fx.g Φ.bad) s K v s'/\(n=true->jC s.heap v)
def EvC (Φ:Ct) (n:Bool) (t:Sem Value) (d:(V->Prop)->Prop):Prop:=∀ K s,d K->Inv Φ s->Φ.wp t (iS Φ n s K) s
theorem iS.lift {K:V->Prop} (p:iS Φ n s₁ K v s') (k:ah s.heap s₁.heap):iS Φ n s K v s':=⟨p.1.lift k,fun q=>(p.2 q).le fun U=>k.live⟩
theorem EvC.ev (x:EvC Φ n t d):Ev Φ t d:=fun K s hd I E=>wpAny_mono (x K s hd I E) (fun U U p=>p.1) fun U U z=>z
theorem EvN.ev (x:EvN Φ t d):Ev Φ t d:=fun K s hd I E=>wpAny_mono (x K s hd I E) (fun U U p=>p.1) fun U U z=>z
theorem EvR.bind {R:Heap->α->β->Prop} {R':Heap->γ->δ->Prop} {f:α->Sem γ} {d:(β->Prop)->Prop} {K₁:β->Prop} {K:δ->Prop} (x:EvR Φ R t d) (hd:d K₁) (I:Inv Φ s)
  (y:∀ a b s₁,Inv Φ s₁->ah s.heap s₁.heap->K₁ b->R s₁.heap a b->Φ.wp (f a) (Post Φ R' s₁ K) s₁):Φ.wp (t >>= f) (Post Φ R' s K) s:=fun E=>
 zC1 (wpAny_mono (x K₁ s hd I E) (fun a s₁ ⟨B,k,b,kb,r⟩=>wpAny_mono (y a b s₁ (I.keep B k) k kb r E) (fun U U p=>p.lift k) fun U U z=>z) fun U U z=>z)
theorem EvR.bindC {R:Heap->α->β->Prop} {f:α->Sem Value} {d:(β->Prop)->Prop} {K₁:β->Prop} {K:V->Prop} (x:EvR Φ R t d) (hd:d K₁) (I:Inv Φ s)
  (y:∀ a b s₁,Inv Φ s₁->ah s.heap s₁.heap->K₁ b->R s₁.heap a b->Φ.wp (f a) (iS Φ n s₁ K) s₁):Φ.wp (t >>= f) (iS Φ n s K) s:=fun E=>
 zC1 (wpAny_mono (x K₁ s hd I E) (fun a s₁ ⟨B,k,b,kb,r⟩=>wpAny_mono (y a b s₁ (I.keep B k) k kb r E) (fun U U p=>p.lift k) fun U U z=>z) fun U U z=>z)
theorem EvR.holding (x:EvR Φ R t d):EvR Φ R (holding vs t) d:=fun K s hd I E=>wpAny_holding (x K s hd I E)
theorem EvR.pure {R:Heap->α->β->Prop} {K:β->Prop} (I:Inv Φ s) (k:K b) (r:R s.heap a b):Φ.wp (pure a) (Post Φ R s K) s:=fun E=>zC2 ⟨I.base,.refl _,b,k,r⟩
def a8 (x:Φ.wp (t ()) Q s):Φ.wp (standAt p >>= t) Q s:=fun E=>(bSt (x E))
structure Grown (s s':Shared):Prop where
 keeps:ah s.heap s'.heap
 os:s'.os=s.os
 gens:s'.gens=s.gens
theorem Grown.refl (s:Shared):Grown s s:=⟨fun U U e=>e,rfl,rfl⟩
theorem Grown.trans (x:Grown s₁ w') (y:Grown w' Cw):Grown s₁ Cw:=⟨x.keeps.trans y.keeps,y.os.trans x.os,y.gens.trans x.gens⟩
theorem Grown.toks (s:Shared) (n:Nat):Grown s { s with toks:=n }:=⟨fun U U e=>e,rfl,rfl⟩
theorem Grown.push (s:Shared) (o:Obj) (n:Nat):Grown s { s with heap:=s.heap.push o,toks:=n }:=⟨ae _ _,rfl,rfl⟩
theorem Base.grown (B:Base g s) (x:Grown s s'):Base g s':=⟨B.stays.trans x.keeps,x.os.trans B.os,x.gens.trans B.gens⟩
abbrev Ct.Gives (Φ:Ct) (s:Shared) (z:V) (v:Value) (s':Shared):Prop:=Grown s s'/\Φ.rp s'.heap v z
def step {R:Heap->α->β->Prop} {K:β->Prop} (I:Inv Φ s) (kz:K z) (h:Φ.wp t (fun a s'=>Grown s s'/\R s'.heap a z) s):Φ.wp t (Post Φ R s K) s:=fun E=>
 wpAny_mono (h E) (fun a s' p=>⟨I.base.grown p.1,p.1.keeps,z,kz,p.2⟩) fun U U z=>z
def ab {o:Option α} {K:α->Prop} {C:Prop} (h:okK o K) (k:∀ z,o=some z->K z->C):C:=by
 cases o with
 | none=>exact h.elim
 | some z=>exact k z rfl h
def bq {E:Value->Shared->Prop} {Q:Unit->Shared->Prop} (h:Q () s):wpAny M A (release vs keep) Q E s:=by
 unfold release;generalize (vs.filter fun | .ref _=>true | _=>false)=l;induction l with
 | nil=>exact wpAny_pure h
 | cons x r ih=>
  cases r with
  | nil=>exact wpAny_pure h
  | cons y r=>
   unfold release.go;exact zC1 (wpAny_holding (wpAny_point ih))
def dA (x:Φ.wp t Q s):Φ.wp (operate vs t) Q s:=fun E=>by
 unfold PySem.operate;exact zC1 (wpAny_holding (wpAny_mono (x E) (fun a s' p=>zC1 (bq (wpAny_pure p))) fun U U z=>z))
end
section
variable {Φ:Ct} {s:Shared}
def ba (ok:FxOk Φ.fx) (hx:Φ.fx.ρ.lookup x=some k) (hn:aL x=true) (r:aw s.heap (Φ.fx.pl k) (some v)) (h:Q v s):Φ.wp (eval (.Name x pos) Φ.fx.env) Q s:=fun E=>by
 have hn:=zA2 hn;have h1:=not_eq_true' _▸hn.1;rcases ok.vis x k hx with ⟨hl,hp⟩ | ⟨hl,c,hc,hp⟩
 ·rw [hp] at r;obtain ⟨m,GJ,hv⟩:=r;exact wpAny_Name (wpAny_loadName_local ok.kind hl GJ hv h) h1
 ·rw [hp] at r;rcases hl with hl | hl
  ·exact wpAny_Name (wpAny_loadName_cell ok.kind hl hc r h) h1
  ·exact wpAny_Name (wpAny_loadName_free ok.kind hl hc r h (not_eq_true' _▸hn.2)) h1
def tc (e:uQ G k=some x):getSlot G k=.v x:=by
 unfold uQ at e
 revert e
 cases getSlot G k with
 | v m=>exact fun e=>congrArg Slot.v (Option.some.inj e)
 | _=>exact fun e=>nN e.symm
def zY {x:Str} {k:Nat} {pos:Pos} (hx:Φ.fx.ρ.lookup x=some k) (hn:aL x=true):Ev Φ (eval (.Name x pos) Φ.fx.env) (okK (uQ Φ.G k)):=fun K s hd I=>ab hd fun y e ky=>by
 obtain ⟨v,pr,so⟩:=I.slot k;rw [tc e] at so;obtain ⟨_,u,rfl,rp⟩:=so;exact ba I.ok hx hn pr ⟨I.base,.refl _,y,ky,rp⟩
end
section
variable {α:Type} {C:V->Prop} {x:V} {z:α}
def b8 (e:qS x f=some z) (k:∀ i,f i=some z->C (.int i)):C x:=by
 cases x <;> first | exact k _ e | (injection e; done)
def d5 (e:uU x f=some z) (k:∀ t:Str,f t.cps.toList=some z->C (.str t)):C x:=by
 cases x <;> first | exact k _ e | (injection e; done)
def cw (e:bz x f=some z) (k:∀ l,f l=some z->C (.list l)):C x:=by
 cases x <;> first | exact k _ e | (injection e; done)
def rJ (e:Bt x f=some z) (k:∀ l,f l=some z->C (.tuple l)):C x:=by
 cases x <;> first | exact k _ e | (injection e; done)
def eW (e:cq x f=some z) (k:∀ b,f b=some z->C (.bool b)):C x:=by
 cases x <;> first | exact k _ e | (injection e; done)
end
section
variable {α β:Type}
@[elab_as_elim] theorem some_elim {C:α->Prop} {a b:α} (e:some a=some b) (k:C a):C b:=Option.some.inj e▸k
@[elab_as_elim] theorem if_elim {C:α->Prop} {p:Prop} [Decidable p] {a z:α} (e:(if p then some a else none)=some z) (k:p->C a):C z:=by
 by_cases h:p
 ·rw [if_pos h] at e; exact some_elim e (k h)
 ·rw [if_neg h] at e; (injection e; done)
@[elab_as_elim] theorem ifn_elim {C:α->Prop} {p:Prop} [Decidable p] {a z:α} (e:(if p then none else some a)=some z) (k:¬ p->C a):C z:=by
 by_cases h:p
 ·rw [if_pos h] at e; (injection e; done)
 ·rw [if_neg h] at e; exact some_elim e (k h)
def aK {C:Prop} {p:Prop} [Decidable p] {a:Option α} {z:α} (e:(if p then a else none)=some z) (k:p->a=some z->C):C:=by
 by_cases h:p
 ·rw [if_pos h] at e; exact k h e
 ·rw [if_neg h] at e; (injection e; done)
@[elab_as_elim] theorem map_elim {C:β->Prop} {f:α->β} {o:Option α} {z:β} (e:o.map f=some z) (k:∀ a,o=some a->C (f a)):C z:=by
 cases o with
 | none=>(injection e; done)
 | some a=>exact some_elim e (k a rfl)
@[elab_as_elim] theorem fit_elim {C:β->Prop} {l:List α} {a z:β} (e:bN l a=some z) (k:l.length<=ac->C a):C z:=if_elim e k
end
def bV (h:n<=ac):n<=sizeLine:=zB1 h (by decide)
section
variable {Φ:Ct} {s:Shared} {v u:Value} {x y z:V}
theorem Inv.fresh (I:Inv Φ s):¬ Φ.bad s.heap.objs.size:=fun q=>by obtain ⟨o,e⟩:=I.badLive q; rw [ag] at e; (injection e; done)
theorem Inv.room (I:Inv Φ s):Φ.fx.A.units+100 < cLine:=by exact J5 (add_le_add_right (le_add_right _ _) _) I.ok.units
def gf (I:Inv Φ s) (r:Φ.rps s.heap vs l):Φ.Gives s (.list l) (.ref s.heap.objs.size) { s with heap:=s.heap.push { cls:=.type "list",data:=.seq vs.toArray n },toks:=tk }:=
 ⟨Grown.push _ _ _,.list I.fresh (J0 _ rfl) ⟨rfl,rfl⟩ rfl (r.keep (ae _ _))⟩
def eS (I:Inv Φ s) (r:Φ.rps s.heap vs l):Φ.Gives s (.tuple l) (.ref s.heap.objs.size) { s with heap:=s.heap.push { cls:=.type "tuple",data:=.seq vs.toArray n },toks:=tk }:=
 ⟨Grown.push _ _ _,.tuple I.fresh (J0 _ rfl) rfl rfl (r.keep (ae _ _))⟩
def At {b:Int} (h:b.natAbs<=1000000):b < 2 ^ 64:=Int.lt_of_le_of_lt le_natAbs (Int.lt_of_le_of_lt (ofNat_le.mpr h) (by decide))
def BE (h:b.natAbs<=1000000):-2 ^ 64 < b:=Int.neg_lt_of_neg_lt (At ((Int.natAbs_neg b).symm▸h))
def sf (h:b.natAbs<=1000000\/a.natAbs<=1000000):IntMulOk a b:=by
 rcases h with h | h
 ·exact .of_right (intBits_le_64 (BE h) (At h))
 ·exact .of_left (intBits_le_64 (BE h) (At h))
def hM (x:Str):(⟨x.cps.toList.toArray⟩:Str)=x:=by cases x; simp
theorem Rp.text {g:Gl} {bad:Addr->Prop} {h:Heap} {x:Str} {l:List Nat} {t:Tok} (e:x.cps.toList=l):Rp g bad h (.str x t) (text l):=by
 subst e; unfold Mine.text; rw [hM]; exact .str x t
def o5 (hz:(a.cps.toList++b.cps.toList).length<=ac):Φ.wp (binaryOp .Add (.str a t) (.str b t')) (Φ.Gives s (text (a.cps.toList++b.cps.toList))) s:=fun E=>by
 refine P.add_str ?_;split
 ·rename_i h0;have:a.cps.toList=[]:=length_eq_zero_iff.mp (length_toList.trans (eq_of_beq h0));exact ⟨.refl _,.text (by rw [this]; rfl)⟩
 ·split
  ·rename_i h0;have:b.cps.toList=[]:=length_eq_zero_iff.mp (length_toList.trans (eq_of_beq h0));exact ⟨.refl _,.text (by rw [this,append_nil])⟩
  ·refine ⟨?_,.toks _ _,.text toList_append⟩;refine (?_:(_++_:Array Nat).size<=sizeLine);rw [zB5,zB3,zB3] at hz;rw [Array.size_append]; exact bV hz
def mI (I:Inv Φ s) (hz:(l++m).length<=ac) (r1:Φ.rp s.heap v (.list l)) (r2:Φ.rp s.heap u (.list m)):Φ.wp (binaryOp .Add v u) (Φ.Gives s (.list (l++m))) s:=fun E=>by
 refine r1.list_elim fun a1 o1 DL n1 U Dj E5 Gg hl1=>r2.list_elim fun a2 o2 DJ n2 U Ek E4 CR hl2=>?_;obtain ⟨cls,dd,data,sl⟩:=o1;obtain ⟨H8,G5,Gx,Fy⟩:=o2;obtain ⟨rfl,rfl⟩:=E5;obtain ⟨rfl,rfl⟩:=E4;subst Gg;subst CR;refine concat_meets ⟨_,Dj,rfl⟩ ⟨_,Ek,rfl⟩ noFill_list_add seq_list_add PySem.F.slot_list_add PySem.F.entry_list_add (PySem.F.args_list_add_2 _ _) (list_addW a1 a2 DL DJ n1 n2 _ _ sl Fy ?_) ⟨Dj,Ek,?_⟩
 ·have:=(hl1.append hl2).length;rw [zB5,zB3,zB3] at this;rw [this]; exact bV hz
 ·have q:=gf (n:=0) (tk:=s.toks) I (hl1.append hl2);rw [show (DL.toList++DJ.toList).toArray=DL++DJ by simp] at q;exact q
def kQ (I:Inv Φ s) (hz:(l++m).length<=ac) (r1:Φ.rp s.heap v (.tuple l)) (r2:Φ.rp s.heap u (.tuple m)):Φ.wp (binaryOp .Add v u) (Φ.Gives s (.tuple (l++m))) s:=fun E=>by
 refine Rp.tuple_elim (C:=fun v=>Φ.rp s.heap v (.tuple l)->wpAny (model Φ.fx.g.prog Φ.fx.g.w) Φ.fx.A (binaryOp .Add v u) (Φ.Gives s (.tuple (l++m))) E s) r1 (fun a1 o1 DL n1 U Dj E5 Gg hl1 r1=>?_) r1;refine Rp.tuple_elim (C:=fun u=>Φ.rp s.heap u (.tuple m)->wpAny (model Φ.fx.g.prog Φ.fx.g.w) Φ.fx.A (binaryOp .Add (.ref a1) u) (Φ.Gives s (.tuple (l++m))) E s) r2 (fun a2 o2 DJ n2 U Ek E4 CR hl2 r2=>?_) r2;obtain ⟨cls,dd,data,sl⟩:=o1;obtain ⟨H8,G5,Gx,Fy⟩:=o2;subst E5;subst E4;subst Gg;subst CR;have len:=(hl1.append hl2).length;replace len:=length_toList▸length_toList▸List.length_append▸len;by_cases c0:DL.isEmpty=true
 ·have:DL.toList=[]:=by simpa using c0
  have hl:l=[]:=length_eq_zero_iff.mp (by rw [<- hl1.length,this]; rfl);subst hl;exact concat_meets ⟨_,Dj,rfl⟩ ⟨_,Ek,rfl⟩ noFill_tuple_add seq_tuple_add PySem.F.slot_tuple_add PySem.F.entry_tuple_add (PySem.F.args_tuple_add_2 _ _) (tuple_addW0 a1 a2 DL DJ n1 n2 dd G5 sl Fy c0) ⟨Dj,Ek,.refl _,r2⟩
 ·by_cases c1:DJ.isEmpty=true
  ·have:DJ.toList=[]:=by simpa using c1
   have hl:m=[]:=length_eq_zero_iff.mp (by rw [<- hl2.length,this]; rfl);subst hl;rw [append_nil];exact concat_meets ⟨_,Dj,rfl⟩ ⟨_,Ek,rfl⟩ noFill_tuple_add seq_tuple_add PySem.F.slot_tuple_add PySem.F.entry_tuple_add (PySem.F.args_tuple_add_2 _ _) (tuple_addW1 a1 a2 DL DJ n1 n2 dd G5 sl Fy c0 c1) ⟨Dj,Ek,.refl _,r1⟩
  ·refine concat_meets ⟨_,Dj,rfl⟩ ⟨_,Ek,rfl⟩ noFill_tuple_add seq_tuple_add PySem.F.slot_tuple_add PySem.F.entry_tuple_add (PySem.F.args_tuple_add_2 _ _) (tuple_addW2 a1 a2 DL DJ n1 n2 dd G5 sl Fy c0 c1 (by rw [len]; exact bV hz)) ⟨Dj,Ek,?_⟩;have q:=eS (n:=0) (tk:=s.toks) I (hl1.append hl2);rw [show (DL.toList++DJ.toList).toArray=DL++DJ by simp] at q;exact q
def Al (e:BH x y=some z) (I:Inv Φ s) (r1:Φ.rp s.heap v x) (r2:Φ.rp s.heap u y):Φ.wp (binaryOp .Add v u) (Φ.Gives s z) s:=by
 cases x with
 | int a=>exact b8 (C:=fun y=>Φ.rp s.heap u y->Φ.wp (binaryOp .Add v u) (Φ.Gives s z) s) e (fun b e r2=>some_elim e (r1.int_elim fun t=>r2.int_elim fun t' E=>PyProof.Rows.add_int ⟨.toks _ _,.int _ _⟩)) r2
 | str a=>exact d5 (f:=fun b=>bN (a.cps.toList++b) (text (a.cps.toList++b))) (C:=fun y=>Φ.rp s.heap u y->Φ.wp (binaryOp .Add v u) (Φ.Gives s z) s) e (fun b e r2=>fit_elim e fun q=>r1.str_elim fun t=>r2.str_elim fun t'=>o5 q) r2
 | list l=>exact cw (C:=fun y=>Φ.rp s.heap u y->Φ.wp (binaryOp .Add v u) (Φ.Gives s z) s) e (fun m e r2=>fit_elim e fun q=>mI I q r1 r2) r2
 | tuple l=>exact rJ (C:=fun y=>Φ.rp s.heap u y->Φ.wp (binaryOp .Add v u) (Φ.Gives s z) s) e (fun m e r2=>fit_elim e fun q=>kQ I q r1 r2) r2
 | _=>(injection e; done)
def cz {α:Type} {f:Int->Int->Option α} {w:α} {C:Value->Value->Prop} (e:nE x y f=some w) (r1:Φ.rp s.heap v x) (r2:Φ.rp s.heap u y) (k:∀ i j t t',f i j=some w->C (.int i t) (.int j t')):C v u:=
 b8 (C:=fun x=>Φ.rp s.heap v x->C v u) e (fun i e r1=>b8 (C:=fun y=>Φ.rp s.heap u y->C v u) e (fun j e r2=>r1.int_elim fun t=>r2.int_elim fun t'=>k i j t t' e) r2) r1
def Ah {o:Operator} (e:sT o x y=some z) (I:Inv Φ s) (r1:Φ.rp s.heap v x) (r2:Φ.rp s.heap u y):Φ.wp (binaryOp o v u) (Φ.Gives s z) s:=by
 cases o with
 | Add=>exact Al e I r1 r2
 | Sub=>exact cz (C:=fun v u=>Φ.wp (binaryOp .Sub v u) (Φ.Gives s z) s) e r1 r2 fun i j t t' q=>some_elim q fun E=>PyProof.Rows.sub_int ⟨.toks _ _,.int _ _⟩
 | Mult=>exact cz (C:=fun v u=>Φ.wp (binaryOp .Mult v u) (Φ.Gives s z) s) e r1 r2 fun i j t t' q=>if_elim q fun q E=>PyProof.Rows.mul_int ⟨.toks _ _,.int _ _⟩ (sf q)
 | FloorDiv=>exact cz (C:=fun v u=>Φ.wp (binaryOp .FloorDiv v u) (Φ.Gives s z) s) e r1 r2 fun i j t t' q=>ifn_elim q fun q E=>floordiv_int (fun z=>q (.inl z)) ⟨.toks _ _,.int _ _⟩ (.inl (PyProof.noPylong_small (by omega)))
 | Mod=>exact cz (C:=fun v u=>Φ.wp (binaryOp .Mod v u) (Φ.Gives s z) s) e r1 r2 fun i j t t' q=>ifn_elim q fun q E=>PyProof.Rows.mod_int q ⟨.toks _ _,.int _ _⟩
 | _=>(injection e; done)
def okd (h:gC x=true):x.canLay0=true/\x.depth<=64:=(zA2 h).imp id of_decide_eq_true
def jt (I:Inv Φ s) (h:n<=64):Φ.fx.A.units+1+min m n < cLine:=J5 (by rw [add_assoc]; exact add_le_add_left (zB1 (add_le_add_left (zB1 (Nat.min_le_right m n) h) 1) (by decide:65<=100)) _) I.room
abbrev Is (s:Shared) (c:Bool) (v:Value) (s':Shared):Prop:=Grown s s'/\v=.bool c
def yD (I:Inv Φ s) (q:(gC x&&gC y)=true) (r1:Φ.rp s.heap v x) (r2:Φ.rp s.heap u y):Φ.wp (compareOp .Eq v u) (Is s (PyData.eqv x y)) s/\Φ.wp (compareOp .NotEq v u) (Is s (!PyData.eqv x y)) s:=
 have q:=zA2 q;have h1:=okd q.1;have h2:=okd q.2
 (r1.reads h1.1).elim fun U p1=>(r2.reads h2.1).elim fun U p2=>have m:=J5 (by exact add_le_add_right (le_add_right _ _) _) (jt I (m:=x.depth) h2.2); ⟨fun E=>SeqAt.compareEq_reads p1 p2 h1.1 h2.1 m ⟨.refl _,rfl⟩,fun E=>SeqAt.compareNe_reads p1 p2 h1.1 h2.1 m ⟨.refl _,rfl⟩⟩
def yf (r:Φ.rp s.heap v x):Φ.wp (compareOp .Is v .none) (Is s (isNone x)) s/\Φ.wp (compareOp .IsNot v .none) (Is s (!isNone x)) s:=by
 cases r with
 | none=>exact ⟨fun E=>is_none_gen ⟨.refl _,rfl⟩,fun E=>isnot_none_gen ⟨.refl _,rfl⟩⟩
 | _=>exact ⟨fun E=>is_none_ne nofun ⟨.refl _,rfl⟩,fun E=>isnot_none_ne nofun ⟨.refl _,rfl⟩⟩
def si (e:a.cps.toList=[c]):Φ.wp (compareOp .In (.str a t) (.str b t')) (Is s (b.cps.toList.elem c)) s/\Φ.wp (compareOp .NotIn (.str a t) (.str b t')) (Is s (!b.cps.toList.elem c)) s:=by
 have f:(!(Builtin.Str.occurrences b a 0 b.length 1).isEmpty)=b.cps.toList.elem c:=by
  rw [<- hM a,e,show (⟨[c].toArray⟩:Str)=⟨#[c]⟩ from rfl,StrLaws.found_one];rw [Bool.eq_iff_iff]; simp
 exact ⟨fun E=>P.in_str ⟨.refl _,by rw [f]⟩,fun E=>P.notIn_str ⟨.refl _,by rw [f]⟩⟩
end
noncomputable abbrev atK (xs:List (V×Addr×Value)) (k:V):Option (Addr×Value):=@atKey V cC xs k
noncomputable abbrev stK (xs:List (V×Addr×Value)) (k:V) (a:Addr) (v:Value):List (V×Addr×Value):=@storedH V cC xs k a v
abbrev ml (g:Gl) (h:Heap) (d:Addr) (xs:List (V×Addr×Value)):Prop:=@Heap.DictOfH g.prog g.w V cC (cy g.prog g.w) h d xs
noncomputable abbrev enK (g:Gl) (x:V×Addr×Value):DictEntry:=@entryOfKey g.prog g.w V cC (cy g.prog g.w) x
inductive Ent (g:Gl) (bad:Addr->Prop) (h:Heap):List (V×Addr×Value)->List (V×V)->Prop
 | nil:Ent g bad h [] []
 | cons {x y:V} {a:Addr} {v:Value} {xs:List (V×Addr×Value)} {kvs:List (V×V)}:aJ x=true->Rp g bad h (.ref a) x->Rp g bad h v y->Ent g bad h xs kvs->Ent g bad h ((x,a,v) :: xs) ((x,y) :: kvs)
section
variable {g:Gl} {bad B4:Addr->Prop} {h h':Heap} {xs:List (V×Addr×Value)} {kvs:List (V×V)}
def cx (r:Rp g bad h v x) (q:aJ x=true):∃ a,v=.ref a:=by
 cases r with
 | tuple=>exact ⟨_,rfl⟩
 | _=>exact nB q
theorem Ent.of:∀ {kvs:List (V×V)} {es:List DictEntry},dkV kvs=true->es.map (·.hash)=kvs.map (fun p=>oF g.w p.1)->RpAll g bad h (es.map (·.key)) (kvs.map (·.1))->RpAll g bad h (es.map (·.val)) (kvs.map (·.2))->∃ xs,es=xs.map (enK g)/\Ent g bad h xs kvs:=by
 intro kvs;induction kvs with
 | nil=>
  intro es _ e _ _;exact ⟨[],map_eq_nil_iff.mp e,.nil⟩
 | cons p kvs ih=>
  intro es d e r1 r2;obtain ⟨x,y⟩:=p;cases es with
  | nil=>exact nomatch e
  | cons en es=>
   obtain ⟨e1,e2⟩:=zA5 e;cases r1 with
   | cons k1 r1=>cases r2 with
    | cons v1 r2=>
     have d:=zA2 (d:(aJ x&&dkV kvs)=true);obtain ⟨xs,ex,E⟩:=ih d.2 e2 r1 r2;obtain ⟨a,ea⟩:=cx k1 d.1;obtain ⟨hs,ky,vl⟩:=en;obtain rfl:ky=.ref a:=ea;obtain rfl:hs=oF g.w x:=e1;exact ⟨(x,a,vl) :: xs,congrArg (_ :: ·) ex,.cons d.1 k1 v1 E⟩
theorem Ent.back (E:Ent g bad h xs kvs):dkV kvs=true/\xs.map (·.1)=kvs.map (·.1)/\(xs.map (enK g)).map (·.hash)=kvs.map (fun p=>oF g.w p.1)/\RpAll g bad h ((xs.map (enK g)).map (·.key)) (kvs.map (·.1))/\RpAll g bad h ((xs.map (enK g)).map (·.val)) (kvs.map (·.2)):=by
 induction E with
 | nil=>exact ⟨rfl,rfl,rfl,.nil,.nil⟩
 | cons q r1 r2 _ ih=>exact ⟨zA3 ⟨q,ih.1⟩,congrArg (_ :: ·) ih.2.1,congrArg (_ :: ·) ih.2.2.1,.cons r1 ih.2.2.2.1,.cons r2 ih.2.2.2.2⟩
theorem KIs.of (q:aJ x=true) (r:Rp g bad h (.ref a) x):KIs h x a:=⟨q,r.reads (fU q).1⟩
theorem Ent.kis (E:Ent g bad h xs kvs):∀ x∈xs,KIs h x.1 x.2.1:=by
 induction E with
 | nil=>exact fun U m=>nM m
 | cons q r1 r2 _ ih=>exact zA1 ⟨.of q r1,ih⟩
theorem Ent.length (E:Ent g bad h xs kvs):xs.length=kvs.length:=by
 induction E with
 | nil=>rfl
 | cons _ _ _ _ ih=>exact congrArg (· + 1) ih
theorem Ent.map (E:Ent g bad h xs kvs) (k:a7 bad B4 h h'):Ent g B4 h' xs kvs:=by
 induction E with
 | nil=>exact .nil
 | cons q r1 r2 _ ih=>exact .cons q (r1.map k) (r2.map k) ih
theorem Ent.app (E:Ent g bad h xs kvs) (q:aJ x=true) (r1:Rp g bad h (.ref a) x) (r2:Rp g bad h v y):Ent g bad h (xs++[(x,a,v)]) (kvs++[(x,y)]):=by
 induction E with
 | nil=>exact .cons q r1 r2 .nil
 | cons q' s1 s2 _ ih=>exact .cons q' s1 s2 ih
theorem Ent.at (E:Ent g bad h xs kvs) (q:aJ y=true):(atK xs y=none/\bP kvs y=none/\(kvs.any fun p=>PyData.eqv p.1 y)=false)\/∃ p z,atK xs y=some p/\bP kvs y=some z/\(kvs.any fun p=>PyData.eqv p.1 y)=true/\Rp g bad h p.2 z:=by
 induction E with
 | nil=>exact .inl ⟨rfl,rfl,rfl⟩
 | @cons x z a v xs kvs hk r1 r2 _ ih=>
  have e:=lw hk q;unfold atK atKey bP at ih ⊢;rw [find?_cons,find?_cons,List.any_cons];cases c:PyData.eqv x y with
  | true=>
   rw [show @decide (x=y) (cC x y)=true from e.symm.trans c];exact .inr ⟨_,z,rfl,rfl,rfl,r2⟩
  | false=>
   rw [show @decide (x=y) (cC x y)=false from e.symm.trans c];exact ih
theorem Ent.put0 (E:Ent g bad h xs kvs) (q:aJ y=true) (r:Rp g bad h v z):Ent g bad h (xs.map (@putAt V cC y v)) (kvs.map fun p=>if PyData.eqv p.1 y=true then (p.1,z) else p):=by
 induction E with
 | nil=>exact .nil
 | @cons x u a v' xs kvs hk r1 r2 _ ih=>
  have e:=lw hk q;rw [map_cons,map_cons];unfold putAt;refine (?_:Ent g bad h ((@ite _ (x=y) (cC x y) (x,a,v) (x,a,v')) :: _) ((if PyData.eqv x y=true then (x,z) else (x,u)) :: _));by_cases c:x=y
  ·rw [@if_pos _ (cC x y) c,if_pos ((bg x y hk q).mpr c)]; exact .cons hk r1 r ih
  ·rw [@if_neg _ (cC x y) c,if_neg fun z=>c ((bg x y hk q).mp z)]; exact .cons hk r1 r2 ih
theorem Ent.put (E:Ent g bad h xs kvs) (q:aJ y=true) (r1:Rp g bad h (.ref a) y) (r:Rp g bad h v z):Ent g bad h (stK xs y a v) (cE kvs y z):=by
 unfold cE;rcases E.at q with ⟨e1,_,e2⟩ | ⟨p,_,e1,_,e2,_⟩
 ·rw [e2,if_neg Bool.false_ne_true,show stK xs y a v=_ from @storedH_new V cC _ _ e1 a v]; exact E.app q r1 r
 ·rw [e2,if_pos rfl,show stK xs y a v=_ from @storedH_old V cC _ _ _ e1 a v]; exact E.put0 q r
theorem Inv.room3 (I:Inv Φ s):Φ.fx.A.units+1+4 < cLine:=J5 (add_le_add_left (by decide:5<=100) _) I.room
abbrev DAt (g:Gl) (bad:Addr->Prop) (h:Heap) (a:Addr) (kvs:List (V×V)):Prop:=OwnDAt g bad h a kvs
theorem DAt.dk (r:DAt g bad h a kvs):∃ xs,ml g h a xs/\Ent g bad h xs kvs:=by
 obtain ⟨o,es,n,ho,hc,hd,hk,r1,r2⟩:=r;obtain ⟨xs,e,E⟩:=Ent.of hk.1 hk.2.2 r1 r2;exact ⟨xs,⟨o,es,n,ho,hc,hd,e,E.kis,E.back.2.1▸hk.2.1⟩,E⟩
theorem DAt.of (d:ml g h a xs) (E:Ent g bad h xs kvs):DAt g bad h a kvs:=by
 obtain ⟨o,es,n,ho,hc,hd,e,_,hn⟩:=d;obtain ⟨b1,b2,b3,b4,b5⟩:=E.back;rw [<- e] at b3 b4 b5;exact ⟨o,es,n,ho,hc,hd,⟨b1,b2▸hn,b3⟩,b4,b5⟩
end
section
variable {prog:Program} {w:World} {K:Type} [DecidableEq K] {knd:HeapKind prog w K} {A:Around} {E:Value->Shared->Prop} {s:Shared} {d a:Addr} {k:K} {xs:List (K×Addr×Value)}
def jy {Q:Bool->Shared->Prop} (hu:knd.room A.in1) (C9:knd.is s.heap k a) (hd:(d==sysModules)=false) (hm:s.heap.DictOfH knd d xs)
  (h:Q (atKey xs k).isSome { s with toks:=s.toks+knd.draws k }):wpAny (model prog w) A (contains (.ref d) (.ref a)) Q E s:=by
 unfold contains;refine wpAny_holding ?_;refine zC1 (wpAny_specialOf hm.typeIs PySem.F.slot_dict_contains.lookup ?_);refine bI (c:=(some (Value.builtin "dict.__contains__")==some Value.none)=true) (by rw [beq_builtin_none]; exact Bool.false_ne_true) ?_;refine zC1 (wpAny_callSpecialUnlessNone?_slot (name:=ofString "__contains__") hm.typeIs PySem.F.slot_dict_contains (wpAny_call_entry PySem.F.slot_dict_contains hm.typeIs PySem.F.entry_dict_contains ?_ (PySem.F.args_dict_contains_2 _ _)));refine (?_:wpAny _ _ (dictGet d (.ref a) >>= _) _ _ s);refine zC1 (wpAny_dictGet_heap hu C9 hm ?_);cases hf:atKey xs k with
 | some p=>
  rw [hf] at h;exact zC2 ⟨_,rfl,wpAny_truthy_bool h⟩
 | none=>
  rw [hf] at h;exact zC1 (wpAny_pendingKey_other hd (zC2 ⟨_,rfl,wpAny_truthy_bool h⟩))
end
section
variable {Φ:Ct} {s:Shared} {v u:Value} {x y z:V}
def yi (I:Inv Φ s) (e:inO x y=some c) (r1:Φ.rp s.heap v x) (r2:Φ.rp s.heap u y):Φ.wp (compareOp .In v u) (Is s c) s/\Φ.wp (compareOp .NotIn v u) (Is s (!c)) s:=by
 cases y with
 | str b=>
  have e:uU x (fun s=>match s with | [c]=>some (b.cps.toList.elem c) | _=>none)=some c:=e;refine d5 (C:=fun x=>Φ.rp s.heap v x->Φ.wp (compareOp .In v u) (Is s c) s/\Φ.wp (compareOp .NotIn v u) (Is s (!c)) s) e (fun a e r1=>?_) r1;split at e
  ·rename_i d q; exact some_elim e (r1.str_elim fun t=>r2.str_elim fun t'=>si q)
  ·(injection e; done)
 | list l=>
  refine if_elim e fun q=>?_;have q:=zA2 q;have h1:=okd q.1;have h2:=okd q.2;obtain ⟨_,p1⟩:=r1.reads h1.1;obtain ⟨_,p2⟩:=r2.reads h2.1;exact ⟨fun E=>SeqAt.in_list_reads p2 p1 h2.1 h1.1 (jt I h1.2) ⟨.refl _,rfl⟩,fun E=>SeqAt.notIn_list_reads p2 p1 h2.1 h1.1 (jt I h1.2) ⟨.refl _,rfl⟩⟩
 | tuple l=>
  refine if_elim e fun q=>?_;have q:=zA2 q;have h1:=okd q.1;have h2:=okd q.2;obtain ⟨_,p1⟩:=r1.reads h1.1;obtain ⟨_,p2⟩:=r2.reads h2.1;exact ⟨fun E=>SeqAt.in_tuple_reads p2 p1 h2.1 h1.1 (jt I h1.2) ⟨.refl _,rfl⟩,fun E=>SeqAt.notIn_tuple_reads p2 p1 h2.1 h1.1 (jt I h1.2) ⟨.refl _,rfl⟩⟩
 | dict l=>
  refine if_elim e fun q=>?_;have q:=zA2 q;refine r2.dict_elim (C:=fun u=>Φ.wp (compareOp .In v u) (Is s (bP l x).isSome) s/\Φ.wp (compareOp .NotIn v u) (Is s (!(bP l x).isSome)) s) q.1 fun a o es n hb hm ha hc hd he k1 k2=>?_;obtain ⟨b,rfl⟩:=cx r1 q.2;obtain ⟨xs,D,E⟩:=DAt.dk ⟨o,es,n,ha,hc,hd,he,k1,k2⟩;have hs:(@atKey V cC xs x).isSome=(bP l x).isSome:=(E.at q.2).elim (fun z=>(congrArg isSome z.1).trans (congrArg isSome z.2.1).symm) fun ⟨_,_,z1,z2,_⟩=>(congrArg isSome z1).trans (congrArg isSome z2).symm;have ct:∀ (E:Value->Shared->Prop) (Q:Bool->Shared->Prop),(∀ n,Q (bP l x).isSome { s with toks:=n })->wpAny (model Φ.fx.g.prog Φ.fx.g.w) Φ.fx.A (contains (.ref a) (.ref b)) Q E s:=fun E Q h=>@jy _ _ V cC (cy Φ.fx.g.prog Φ.fx.g.w) _ _ _ _ _ _ _ _ I.room3 (KIs.of q.2 r1) (beq_eq_false_iff_ne.mpr hm) D (hs▸h _);exact ⟨fun E=>zC1 (ct E _ fun n=>zC2 ⟨.toks _ _,rfl⟩),fun E=>zC1 (ct E _ fun n=>zC2 ⟨.toks _ _,rfl⟩)⟩
 | _=>(injection e; done)
def pN {o:CmpOp} {c:Bool} (e:bo o x y=some c) (I:Inv Φ s) (r1:Φ.rp s.heap v x) (r2:Φ.rp s.heap u y):Φ.wp (compareOp o v u) (Is s c) s:=by
 cases o with
 | Eq=>exact if_elim e fun q=>(yD I q r1 r2).1
 | NotEq=>exact map_elim e fun d e=>if_elim (C:=fun d=>Φ.wp (compareOp .NotEq v u) (Is s (!d)) s) e fun q=>(yD I q r1 r2).2
 | Lt=>exact cz (C:=fun v u=>Φ.wp (compareOp .Lt v u) (Is s c) s) e r1 r2 fun i j t t' q=>some_elim q fun E=>P.lt_int ⟨.refl _,rfl⟩
 | LtE=>exact cz (C:=fun v u=>Φ.wp (compareOp .LtE v u) (Is s c) s) e r1 r2 fun i j t t' q=>some_elim q fun E=>P.le_int ⟨.refl _,rfl⟩
 | Gt=>exact cz (C:=fun v u=>Φ.wp (compareOp .Gt v u) (Is s c) s) e r1 r2 fun i j t t' q=>some_elim q fun E=>P.gt_int ⟨.refl _,rfl⟩
 | GtE=>exact cz (C:=fun v u=>Φ.wp (compareOp .GtE v u) (Is s c) s) e r1 r2 fun i j t t' q=>some_elim q fun E=>P.ge_int ⟨.refl _,rfl⟩
 | Is=>
  refine if_elim e fun q=>?_;cases y with
  | none=>exact r2.none_elim (yf r1).1
  | _=>(injection q; done)
 | IsNot=>
  refine if_elim e fun q=>?_;cases y with
  | none=>exact r2.none_elim (yf r1).2
  | _=>(injection q; done)
 | In=>exact (yi I e r1 r2).1
 | NotIn=>exact map_elim e fun d e=>(yi I e r1 r2).2
end
section
variable {prog:Program} {w:World} {A:Around} {E:Value->Shared->Prop} {s:Shared} {I d:Addr} {od:Obj} {es:Array DictEntry} {ep i:Nat}
def qq {Q:Option Value->Shared->Prop} {P:Fin->Shared->Prop} (hh:A.handled=none) (h:∀ h',ah s.heap h'->Q none { s with heap:=h' }) :
  wpAny (model prog w) A.in1 (newExc (.type "StopIteration") [] >>= fun e=>raiseNew e) P (fun e s'=>wpAny (model prog w) A (isInstance e (.type "StopIteration") >>= fun b=>if b=true then pure none else throw e) Q E s') s:=by
 refine zC1 ?_;simp only [newExc,newTuple];refine zC1 (wpAny_newObj_type ?_ (by size_fits));refine wpAny_bind (m:=firstArgMember _ _) (wpAny_of_eq (a:=Value.none) (by first | rfl | (simp only [firstArgMember]; rfl)) ?_);refine wpAny_newObj_type ?_ (by size_fits);refine zC1 (wpAny_handled ?_);refine (show A.in1.handled=none from hh).symm▸?_;refine (bPu (wpAny_throw ?_));refine zC1 (wpAny_isInstance (T:="StopIteration") (b:=true) ⟨_,J0 _ rfl,rfl⟩ isSubtype_stop ?_);exact zC2 (h _ ((ae _ _).trans (ae _ _)))
def j1 {Q:Option Value->Shared->Prop} (hh:A.handled=none) (CE:s.heap.IsKeyIter I d i es.size ep) (DU:s.heap.get? d=some od) (Cp:od.data=.dict es ep)
  (hQ:∀ e,es[i]?=some e->∀ h',h'.IsKeyIter I d (i+1) es.size ep->SameBut I s.heap h'->Q (some e.key) { s with heap:=h' })
  (hE:es[i]?=none->∀ h',(∀ b o,b≠I->s.heap.get? b=some o->h'.get? b=some o)->Q none { s with heap:=h' }):wpAny (model prog w) A (pyNext (.ref I)) Q E s:=by
 refine (id CE).elim fun o Fb=>Fb.elim fun ho Es=>Es.elim fun hc hd=>?_
 skip
 refine zC1 (wpAny_attempt (wpAny_callSpecial?_slot (name:=ofString "__next__") CE.typeIs F.slot_dict_keyiterator_next
  (wpAny_call_entry F.slot_dict_keyiterator_next CE.typeIs F.entry_dict_keyiterator_next ?_ (F.args_dict_keyiterator_next_1 _))))
 refine (bPu (zC1 (zC1 ?_)));refine zC1 (wpAny_typeNameOfWhole_keyiter CE.typeIs (zC2 ?_));refine zC1 (wpAny_fieldsOf ho hd ?_);have C2:Builtin.Dict_items.ownsTuple "dict_keyiterator"=false:=by decide
 rw [C2];refine bI (c:=(Value.ref d==Value.none)=true) Bool.false_ne_true ((bPu (zC1 (wpAny_dictEntries DU Cp ?_))));refine bI (by simp) ((bPu (zC1 (wpAny_dictEpoch DU Cp ?_))));refine bI (by simp) (zC2 ?_);simp only [show ¬ ((i:Int) < 0) from Int.not_lt.mpr (natCast_nonneg _),if_false,Int.toNat_natCast];cases ei:es[i]? with
 | some e=>
  refine zC1 ?_;refine zC1 (wpAny_typeNameOfWhole_keyiter CE.typeIs (zC2 ?_));refine zC1 (wpAny_isOneOf_keyiter CE.typeIs ?_);refine (?_:wpAny _ _ (setField (.ref I) 1 (rawInt ((i:Int)+1)) >>= _) _ _ s);refine zC1 (wpAny_setField ho hd (by simp) ?_);have Dx:(s.heap.update I (mapFields (·.setIfInBounds 1 (rawInt ((i:Int)+1))))).IsKeyIter I d (i+1) es.size ep:=
   ⟨_,get?_update_self _ ho (Obj.isFreed_of_fields (data_mapFields hd _)),(Obj.cls_mapFields ..).trans hc,by rw [data_mapFields hd]; simp [rawInt]⟩
  refine zC1 (wpAny_holding ?_);refine zC1 (wpAny_isOneOf_keyiter (s:={ s with heap:=s.heap.update I (mapFields (·.setIfInBounds 1 (rawInt ((i:Int)+1)))) }) Dx.typeIs ?_);refine (?_:wpAny _ _ (pure e.key) _ _ _);exact zC2 (zC2 ⟨_,rfl,zC2 (hQ e ei _ Dx (SameBut.update ..))⟩)
 | none=>
  refine zC1 ?_;refine zC1 (wpAny_typeNameOfWhole_keyiter CE.typeIs (zC2 ?_));refine (?_:wpAny _ _ (setField (.ref I) 0 .none >>= _) _ _ s);refine zC1 (wpAny_setField ho hd (Nat.zero_lt_succ _) ?_);exact qq hh fun h' k=>hE ei h' fun b o q e=>k b o ((get?_update_other _ _ (Ne.symm q)).trans e)
def eN (hh:A.handled=none) (Cr:d≠I) (Cp:od.data=.dict es ep):Walks prog w A I [I,d] [I] es.size (fun i v=>(es.toList.map (·.key))[i]?=some v) (fun i h=>h.IsKeyIter I d i es.size ep/\h.get? d=some od) where
 sub:=fun b m=>by obtain rfl:=zA6 m; exact .head _
 frame:=fun i h h' q k=>⟨q.1.at fun o e=>k I (.head _) o e,k d (.tail _ (.head _)) _ q.2⟩
 item:=fun i s Q E hi q hQ=>j1 hh q.1 q.2 Cp (fun e ei h' D7 sb=>hQ e.key h' s.toks (by rw [Jc,Ja,ei]; rfl) ⟨D7,(sb.2 d Cr).trans q.2⟩ fun b o m e=>(sb.2 b fun q=>m (q▸.head _)).trans e) fun z=>nomatch (Array.getElem?_eq_getElem hi).symm.trans z
 done:=fun s Q E q hQ=>j1 hh q.1 q.2 Cp (fun e ei=>absurd (Array.getElem?_eq_some_iff.mp ei).1 (lt_irrefl _)) fun U h' k=>hQ h' s.toks fun b o m e=>k b o (fun q=>m (q▸.head _)) e
 self:=fun i s Q E q h=>wpAny_pyIter_keyiter q.1 h
def gi (hd:(d==sysModules)=false) (ho:s.heap.get? d=some od) (hx:od.ExactDict) (Cp:od.data=.dict es ep)
  (hQ:Q (.ref s.heap.objs.size) { s with heap:=s.heap.push { cls:=.type "dict_keyiterator",data:=.fields #[.ref d,.int 0 0,.int es.size 0,.int ep 0] } }):wpAny (model prog w) A (pyIter (.ref d)) Q E s:=by
 have hT:s.TypeIs (.ref d) "dict":=⟨od,ho,hx.1⟩;refine wpAny_pyIter_slot hT F.slot_dict_iter (wpAny_call_entry F.slot_dict_iter hT F.entry_dict_iter ?_ (F.args_dict_iter_1 _));refine zC1 (zC1 (wpAny_notOrdered_dict hT ?_));refine (?_:wpAny _ _ (pure (Value.ref d)) _ _ s);refine zC2 ?_;refine (?_:wpAny _ _ (Builtin.Dict.showsAll d >>= _) _ _ s)
 skip
 refine zC1 (bI (by rw [hd]; exact Bool.false_ne_true) (zC2 ?_));refine zC1 (wpAny_dictEntries ho Cp (zC1 (wpAny_dictEpoch ho Cp ?_)));exact zC1 (wpAny_newObj_type (zC2 ⟨_,rfl, "dict_keyiterator",_,⟨_,J0 _ rfl,rfl⟩,F.slot_dict_keyiterator_next.lookup,hQ⟩))
end
section
variable {prog:Program} {w:World} {A:Around} {E:Value->Shared->Prop} {s:Shared}
def oB {α:Type} {l m:List α} (hl:l.length=m.length) (h:∀ (j:Nat) v,l[j]?=some v->m[j]?=some v):l=m:=by
 refine ext_getElem? fun j=>?_;cases e:l[j]? with
 | some v=>exact (h j v e).symm
 | none=>exact (List.getElem?_eq_none (hl▸List.getElem?_eq_none_iff.mp e)).symm
def eV {R:Result->Shared->Prop} {D X:Addr} {T:String} {c:Nat} {res:Value} (C:List Value->Prop) (hh:A.handled=none) (hD:s.heap.get? D=some { cls:=.type "list",dict:=none,data:=.seq #[] c,slots:=#[] }) (Cr:D≠X) (hT:T="set"\/T="dict_values"\/T="dict") (Hz:s.TypeIs (.ref X) T)
  (Ga:∀ (s':Shared) (Q:Bool->Shared->Prop) (E:Value->Shared->Prop),ah s.heap s'.heap->Q false s'->wpAny (model prog w) A.in1 (Builtin.List.listLengthHint (.ref X)) Q E s')
  (CE:∀ (Q:Value->Shared->Prop) (E:Value->Shared->Prop),(∀ (CY:List Value) I fp wr St h' d,C CY->CY.length<=sizeLine->ah s.heap h'->(∀ b∈wr,s.heap.get? b=none)->D∉fp->Walks prog w A.in1 I fp wr CY.length (fun i v=>CY[i]?=some v) St->St 0 h'->Q (.ref I) { s with heap:=h',drawn:=d })->wpAny (model prog w) A.in1 (pyIter (.ref X)) Q E s)
  (hR:∀ (out:List Value) h' d tk c',C out->(∀ b o,b≠D->s.heap.get? b=some o->h'.get? b=some o)->h'.get? D=some { cls:=.type "list",dict:=none,data:=.seq out.toArray c',slots:=#[] }->R (.ok (.ret res)) { s with heap:=h',drawn:=d,toks:=tk }) :
  wpAny (model prog w) A.in1 (Builtin.List.listExtendWith (.ref D) (.ref X) res) (fun fin s'=>match fin with | .done f=>R (.ok f) s' | .again c'=>c'.quiet=true/\codeAny (model prog w) A c' R s') (fun e s'=>R (.error e) s') s:=by
 unfold Builtin.List.listExtendWith;refine zC1 (wpAny_typeOf Hz ?_);have h1:Builtin.List.listSameRef (.ref D) (.ref X)=false:=by simp [Builtin.List.listSameRef,Cr]
 have h2:(Value.type T==Value.type "list")=false:=by rcases hT with rfl | rfl | rfl <;> decide
 have h3:(Value.type T==Value.type "tuple")=false:=by rcases hT with rfl | rfl | rfl <;> decide
 simp only [h1,h2,h3,Bool.or_false,false_eq_true,if_false];refine zC1 (CE _ _ fun CY I fp wr St h' d hC hz k hw hf W CZ=>?_);refine zC1 (wpAny_holding (Ga _ _ _ k ?_));rw [if_pos (by rcases hT with rfl | rfl | rfl <;> decide)];refine (bRu (zC1 ?_));have hS1:=k _ _ hD;refine (?_:wpAny _ A.in1 (updateSeq D (·.push .none) >>= fun U=>updateSeq D (·.pop)) _ _ _);refine zC1 (wpAny_updateSeq hS1 rfl ?_);have GR:=get?_update_self (mapSeq (·.push Value.none)) hS1 rfl;refine wpAny_updateSeq GR rfl ?_;have hS3:=get?_update_self (mapSeq (·.pop)) GR rfl;have ER:∀ b ob,b≠D->h'.get? b=some ob->((h'.update D (mapSeq (·.push Value.none))).update D (mapSeq (·.pop))).get? b=some ob:=
  fun b ob hb e=>(get?_update_other _ _ (Ne.symm hb)).trans ((get?_update_other _ _ (Ne.symm hb)).trans e)
 refine zC2 ⟨plainId_quiet PySem.F.plain_extend_loop _,codeAny_extend_loopS W.toS hz _ hf _ CY.length 0 _ _ _ rfl (zero_le _) (W.frame 0 _ _ CZ fun b hb ob e=>ER b ob (fun q=>hf (q▸hb)) e) hS3 (ItemsOf.nil _) fun s' H9 c' hm Em Gi=>?_⟩;have e1:H9.toList=CY:=oB (by rw [zB3,Gi.1]) fun j v e=>Gi.2 j v (Ja▸e);obtain ⟨hp,gs,dr,tk,os⟩:=s';obtain ⟨m1,m2,m3,m4,m5⟩:=hm;subst m2; cases m3; subst m4;refine hR CY hp d tk c' hC (fun b ob q e=>m1 b ob (fun q'=>?_) (ER b ob q (k _ _ e))) (by subst e1; exact Em);rcases mem_cons.mp q' with q' | q'
 ·exact q q'
 ·have:=hw b q'; rw [e] at this; (injection this; done)
end
def eL (s:Shared) (a:Value):Prop:=∃ T id,s.TypeIs a T/\typeLookup (.type T) "__getitem__"=pure (some (.builtin id))
section
variable {Φ:Ct} {s:Shared} {v u:Value} {x y z:V} {α:Type}
def gj {f:α->V} {C:Value->Prop} (e:lW l f y=some z) (r:Φ.rp s.heap u y) (k:∀ i t j w,-(2 ^ 63)<=i->i < 2 ^ 63->(0<=i/\j=i.toNat\/i < 0/\-(l.length:Int)<=i/\j=(i+l.length).toNat)->j < l.length->l[j]?=some w->f w=z->C (.int i t)):C u:=by
 refine b8 (C:=fun y=>Φ.rp s.heap u y->C u) e (fun i e r=>?_) r;refine aK e fun hz e=>?_;have hz:l.length<=1048576:=hz;obtain ⟨w,ew,rfl⟩:=map_eq_some_iff.mp e;clear e;refine r.int_elim fun t=>?_;by_cases h0:0<=i
 ·rw [if_pos h0] at ew;have hj:=(List.getElem?_eq_some_iff.mp ew).1;exact k i t i.toNat w (by exact le_trans (by decide) h0) (Int.lt_of_lt_of_le ((toNat_lt h0).mp hj) (le_trans (ofNat_le.mpr hz) (by decide))) (.inl ⟨h0,rfl⟩) hj ew rfl
 ·rw [if_neg h0] at ew;refine aK ew fun h1 e=>?_;have hj:=(List.getElem?_eq_some_iff.mp e).1;exact k i t _ w (by lia) (by lia) (.inr ⟨by exact Int.not_le.mp h0,by lia,rfl⟩) hj e rfl
def i9 {i:Int} {n j:Nat} (h:0<=i/\j=i.toNat\/i < 0/\-(n:Int)<=i/\j=(i+n).toNat) (hj:j < n):seqIndex? i n=some j:=by
 rcases h with ⟨h0,rfl⟩ | ⟨h0,h1,rfl⟩
 ·unfold seqIndex?;rw [if_neg (Int.not_lt.mpr h0)];exact if_pos (by rw [decide_eq_true h0,decide_eq_true (show i < (n:Int) from (toNat_lt h0).mp hj)]; rfl)
 ·exact seqIndex_neg h0 h1
def lq {vs:Array Value} {n:Nat} (h:vs.toList[n]?=some v):vs[n]?=some v:=by rw [Ja] at h; exact h
def wQ (e:lW l id y=some z) (hL:s.heap.IsList a vs) (hl:Φ.rps s.heap vs.toList l) (r2:Φ.rp s.heap u y):Φ.wp (getItem (.ref a) u) (Φ.Gives s z) s:=by
 have len:vs.size=l.length:=length_toList▸hl.length;refine gj (C:=fun u=>Φ.wp (getItem (.ref a) u) (Φ.Gives s z) s) e r2 fun i t j w h1 h2 h3 hj ew ez=>?_;obtain ⟨q,eq,rq⟩:=hl.get ew;subst ez;rcases h3 with ⟨h0,rfl⟩ | ⟨h0,h4,rfl⟩
 ·exact fun E=>wpAny_getItem_list hL h0 h2 (lq eq) ⟨.refl _,rq⟩
 ·exact fun E=>wpAny_getItem_list_neg hL h0 (by rw [len]; exact h4) h1 (by rw [len]; exact lq eq) ⟨.refl _,rq⟩
def y5 (I:Inv Φ s) (e:sN x y=some z) (r1:Φ.rp s.heap v x) (r2:Φ.rp s.heap u y):eL s v/\Φ.wp (getItem v u) (Φ.Gives s z) s:=by
 cases x with
 | list l=>
  refine r1.list_elim fun a o vs n U ha hc hd hl=>?_;have hL:s.heap.IsList a vs:=⟨_,ha,hc.1,_,hd⟩;exact ⟨⟨_,_,hL.typeIs,slot_list_getitem.lookup⟩,wQ e hL hl r2⟩
 | tuple l=>
  refine r1.tuple_elim fun a o vs n U ha hc hd hl=>?_;have hL:IsTup s.heap a vs:=⟨_,ha,hc,_,hd⟩;have len:vs.size=l.length:=length_toList▸hl.length;refine ⟨⟨_,_,hL.typeIs,slot_tuple_getitem.lookup⟩,gj (C:=fun u=>Φ.wp (getItem (.ref a) u) (Φ.Gives s z) s) e r2 fun i t j w h1 h2 h3 hj ew ez=>?_⟩;obtain ⟨q,eq,rq⟩:=hl.get ew;subst ez;exact fun E=>getItem_tuple hL h1 h2 (by rw [len]; exact i9 h3 hj) (lq eq) ⟨.refl _,rq⟩
 | str a=>
  refine r1.str_elim fun t0=>⟨⟨_,_,typeIs_str _ _ _,PySem.F.slot_str_getitem.lookup⟩,gj (C:=fun u=>Φ.wp (getItem (.str a t0) u) (Φ.Gives s z) s) e r2 fun i t j w h1 h2 h3 hj ew ez=>?_⟩;subst ez;refine fun E=>P.getItem_str (c:=w) ?_ ?_ ⟨.toks _ _,.text rfl⟩
  ·rw [decide_eq_false (Int.not_lt.mpr h1),decide_eq_false (Int.not_le.mpr h2)]; rfl
  ·have hn:a.cps.toList.length=a.length:=length_toList;rw [show seqIndex? i a.length=some j from hn▸i9 h3 hj];rw [Ja] at ew; exact ew
 | dict kvs=>
  have e:(if (dkV kvs&&aJ y)=true then bP kvs y else none)=some z:=e;refine aK e fun q e=>?_;have q:=zA2 q;refine r1.dict_elim q.1 fun a o es n U U ha hc hd hk k1 k2=>?_;obtain ⟨xs,D,En⟩:=DAt.dk ⟨o,es,n,ha,hc,hd,hk,k1,k2⟩;obtain ⟨b,rfl⟩:=cx r2 q.2;rcases En.at q.2 with ⟨_,e1,_⟩ | ⟨p,z',e1,e2,_,rz⟩
  ·exact nomatch e1.symm.trans e
  ·obtain rfl:z'=z:=Option.some.inj (e2.symm.trans e);exact ⟨⟨_,_,⟨o,ha,hc.1⟩,slot_dict_getitem.lookup⟩,fun E=>@wpAny_getItem_heap _ _ V cC (cy Φ.fx.g.prog Φ.fx.g.w) _ _ _ _ _ _ _ _ _ I.room3 (KIs.of q.2 r2) D e1 ⟨.toks _ _,rz⟩⟩
 | _=>(injection e; done)
noncomputable def nQ (d n:Nat):Option Int->Nat
 | none=>d
 | some i=>if 0<=i then min i.toNat n else (i+n).toNat
def RpO (Φ:Ct) (h:Heap) (v:Value) (y:Option V):Prop:=match y with
 | none=>v=.none
 | some x=>Φ.rp h v x
def dq {d n i:Nat} {y:Option V} {C:Value->Prop} (e:xw d n y=some i) (r:RpO Φ s.heap v y) (k:∀ p:Option (Int×Tok),nQ d n (p.map (·.1))=i->C (partValue p)):C v:=by
 cases y with
 | none=>subst r; (injection e with e; subst e); exact k none rfl
 | some x=>exact b8 (C:=fun x=>Φ.rp s.heap v x->C v) e (fun i e r=>r.int_elim fun t=>k (some (i,t)) (Option.some.inj e)) r
def qA (p:Option (Int×Tok)):IsPart (partValue p) (p.map (·.1)):=by
 cases p with
 | none=>exact .none
 | some q=>exact .int _ _
def nX (h:i < 0):i+(n:Int)<=n:=le_trans (Int.add_le_add_right (Int.le_of_lt h) n) (Int.le_of_eq (Int.zero_add _))
def iF (h:d<=n) (p:Option Int):nQ d n p<=n:=by
 cases p with
 | none=>exact h
 | some i=>
  refine (?_:(if 0<=i then min i.toNat n else (i+n).toNat)<=n);by_cases c:0<=i
  ·rw [if_pos c]; exact Nat.min_le_right _ _
  ·rw [if_neg c]; exact toNat_le.mpr (nX (Int.not_le.mp c))
def rg {n:Nat} (i:Int):(if i < 0 then max (i+(n:Int)) 0 else min i n)=((nQ 0 n (some i):Nat):Int):=by
 refine (?_:_=(((if 0<=i then min i.toNat n else (i+n).toNat):Nat):Int));by_cases h:0<=i
 ·rw [if_pos h,if_neg (Int.not_lt.mpr h),Lean.Omega.Int.ofNat_min,toNat_of_nonneg h]
 ·rw [if_neg h,if_pos (Int.not_le.mp h),Int.ofNat_toNat]
def vU {n:Nat} (i:Int):max 0 (min (if i < 0 then i+(n:Int) else i) (n:Int))=((nQ 0 n (some i):Nat):Int):=by
 rw [<- rg];by_cases h:i < 0
 ·rw [if_pos h,if_pos h,Int.min_eq_left (nX h),Int.max_comm]
 ·rw [if_neg h,if_neg h,Int.max_eq_right (Int.le_min.mpr ⟨Int.not_lt.mp h,natCast_nonneg n⟩)]
def fk (h:d<=n):((d:Nat):Int)=max 0 (min (if (d:Int) < 0 then (d:Int)+(n:Int) else (d:Int)) (n:Int)):=by
 rw [if_neg (Int.not_lt.mpr (natCast_nonneg d)),Int.min_eq_left (ofNat_le.mpr h),Int.max_eq_right (natCast_nonneg d)]
def lO (h:a=c) (k:b=d):sliceRange a b 1=sliceRange c d 1:=by rw [h,k]
def jM {lo hi:Option Int} {n i j:Nat} (h1:nQ 0 n lo=i) (h2:nQ n n hi=j) (CN:i<=j):Builtin.Str.strSliceIndices lo hi 1 n=(List.range (j - i)).map (i + ·):=by
 have hj:j<=n:=h2▸iF (le_refl n) hi;refine Eq.trans ?_ (StrLaws.strSliceIndices_plain (len:=n) CN hj);cases lo with
 | none=>cases hi with
  | none=>have h1:0=i:=h1; subst h1; have h2:n=j:=h2; subst h2; exact lO (fk (d:=0) (n:=n) (zero_le n)) (fk (le_refl n))
  | some b=>have h1:0=i:=h1; subst h1; exact lO (fk (d:=0) (n:=n) (zero_le n)) ((vU b).trans ((congrArg _ h2).trans (fk hj)))
 | some a=>
  have ea:=(vU (n:=n) a).trans ((congrArg _ h1).trans (fk (zB1 CN hj)));cases hi with
  | none=>have h2:n=j:=h2; subst h2; exact lO ea (fk (le_refl n))
  | some b=>exact lO ea ((vU b).trans ((congrArg _ h2).trans (fk hj)))
def iX {xs:Array α} {i j:Nat} (CN:i<=j) (hj:j<=xs.size):((List.range (j - i)).map (i + ·)).filterMap (xs[·]?)=(xs.toList.drop i).take (j - i):=by
 rw [<- StrLaws.picks xs.toList (j - i) i (by rw [zB3]; exact zB1 (zB2 (add_sub_cancel' CN)) hj)];exact congrArg (List.filterMap · _) (funext fun k=>(Ja).symm)
def jd {l:List α} {f:List α->V} {lo hi:Option V} {C:V->Prop} (e:sX f l lo hi=some z) (k:∀ i j,l.length<=ac->xw 0 l.length lo=some i->xw l.length l.length hi=some j->i<=j->C (f ((l.drop i).take (j - i)))):C z:=
 aK e fun hz e=>(bind_eq_some_iff.mp e).elim fun i ⟨h1,e⟩=>(bind_eq_some_iff.mp e).elim fun j ⟨h2,e⟩=>if_elim e fun CN=>k i j hz h1 h2 CN
def jk {l:List V} {lo hi:Option V} {vl vu:Value} {sl:Addr} (I:Inv Φ s) (e:sX PyData.list l lo hi=some z) (r:Φ.rp s.heap v (.list l)) (rl:RpO Φ s.heap vl lo) (ru:RpO Φ s.heap vu hi) (hs:s.heap.IsSliceOf sl vl vu .none) :
  eL s v/\Φ.wp (getItem v (.ref sl)) (Φ.Gives s z) s:=by
 refine r.list_elim fun a o vs n U ha hc hd hl=>?_;have hL:s.heap.IsList a vs:=⟨_,ha,hc.1,_,hd⟩;have len:vs.size=l.length:=length_toList▸hl.length;refine ⟨⟨_,_,hL.typeIs,slot_list_getitem.lookup⟩,jd (C:=fun z=>Φ.wp (getItem (.ref a) (.ref sl)) (Φ.Gives s z) s) e fun i j hz h1 h2 CN=>?_⟩;refine dq (C:=fun vl=>s.heap.IsSliceOf sl vl vu .none->_) h1 rl (fun p hp hs=>?_) hs;refine dq (C:=fun vu=>s.heap.IsSliceOf sl (partValue p) vu .none->_) h2 ru (fun q hq hs=>?_) hs;refine fun E=>wpAny_getItem_list_slice hL hs (qA p) (qA q) .none (fun q=>nN q.symm) ?_ (by rw [len]; exact bV hz);have:slicePick vs (p.map (·.1)) (q.map (·.1)) none=((vs.toList.drop i).take (j - i)).toArray:=by
  refine congrArg toArray ?_;refine (?_:(Builtin.Str.strSliceIndices _ _ 1 vs.size).filterMap (vs[·]?)=_);rw [len,jM hp hq CN,iX CN (by rw [len,<- hq]; exact iF (le_refl _) _)]
 rw [this];exact gf (tk:=s.toks) I ((hl.drop _).take _)
def sK {n i j:Nat} {lo hi:Option Int} (h1:nQ 0 n lo=i) (h2:nQ n n hi=j):Builtin.Slice.sliceAdjust lo hi 1 (n:Int)=((i:Int),(j:Int)):=by
 have c:=fun a:Int=>rg (n:=n) a;unfold Builtin.Slice.sliceAdjust;cases lo <;> cases hi
 ·subst h1; subst h2; rfl
 ·subst h1; exact Prod.ext rfl ((c _).trans (congrArg _ h2))
 ·subst h2; exact Prod.ext ((c _).trans (congrArg _ h1)) rfl
 ·exact Prod.ext ((c _).trans (congrArg _ h1)) ((c _).trans (congrArg _ h2))
def r4 {i j:Nat} (h:i<=j):Builtin.Slice.slicePlaces (i:Int) (j:Int) 1=j - i:=by
 unfold Builtin.Slice.slicePlaces;rw [if_pos (by decide),Int.ediv_one,Int.sub_add_cancel,<- Int.ofNat_sub h];by_cases c:(i:Int) < j
 ·rw [if_pos c]; rfl
 ·rw [if_neg c,Nat.sub_eq_zero_of_le (ofNat_le.mp (Int.not_lt.mp c))]; rfl
def oZ {E:Value->Shared->Prop} {Q:Int×Int×Nat->Shared->Prop} (hs:s.heap.IsSliceOf sl (partValue p) (partValue q) .none) (h1:nQ 0 n (p.map (·.1))=i) (h2:nQ n n (q.map (·.1))=j) (CN:i<=j)
  (h:Q ((i:Int),1,j - i) s):wpAny (model prog w) A (Builtin.Slice.sliceApplied (.ref sl) (pure (n:Int))) Q E s:=by
 obtain ⟨os,Eg,GP,GO⟩:=id hs;have FC:∀ (p:Option (Int×Tok)) {Q:Option Int->Shared->Prop},Q (p.map (·.1)) s->wpAny (model prog w) A (Builtin.Slice.slicePartIndex (partValue p)) Q E s:=fun p Q h=>by
  cases p with
  | none=>exact slicePart_none h
  | some q=>exact slicePart_int h
 unfold Builtin.Slice.sliceApplied Builtin.Slice.sliceFields;refine zC1 ((bFi Eg GO (x:=partValue p) rfl ((bFi Eg GO (x:=partValue q) rfl ((bFi Eg GO (x:=.none) rfl (zC2 ?_)))))));refine zC1 (slicePart_none ?_);refine (?_:wpAny _ _ (if ((1:Int)==0)=true then _ else _) _ _ s);rw [if_neg (by decide)];refine zC1 (FC p (zC1 (FC q ((bPu ?_)))));refine (?_:wpAny _ _ (match Builtin.Slice.sliceAdjust (p.map (·.1)) (q.map (·.1)) 1 (n:Int) with | (lo,hi)=>pure (lo,(1:Int),Builtin.Slice.slicePlaces lo hi 1)) _ _ s);rw [sK h1 h2];refine (?_:wpAny _ _ (pure ((i:Int),(1:Int),Builtin.Slice.slicePlaces (i:Int) (j:Int) 1)) _ _ s);rw [r4 CN];exact wpAny_pure h
def gW {l:List V} {lo hi:Option V} {vl vu:Value} {sl:Addr} (I:Inv Φ s) (e:sX PyData.tuple l lo hi=some z) (r:Φ.rp s.heap v (.tuple l)) (rl:RpO Φ s.heap vl lo) (ru:RpO Φ s.heap vu hi) (hs:s.heap.IsSliceOf sl vl vu .none) :
  eL s v/\Φ.wp (getItem v (.ref sl)) (Φ.Gives s z) s:=by
 refine r.tuple_elim fun a o vs n hb ha hc hd hl=>?_;have r:Φ.rp s.heap (.ref a) (.tuple l):=.tuple hb ha hc hd hl;have ht:IsTup s.heap a vs:=⟨_,ha,hc,_,hd⟩;have len:vs.size=l.length:=length_toList▸hl.length;refine ⟨⟨_,_,ht.typeIs,slot_tuple_getitem.lookup⟩,jd (C:=fun z=>Φ.wp (getItem (.ref a) (.ref sl)) (Φ.Gives s z) s) e fun i j hz h1 h2 CN=>?_⟩;refine dq (C:=fun vl=>s.heap.IsSliceOf sl vl vu .none->_) h1 rl (fun p hp hs=>?_) hs;refine dq (C:=fun vu=>s.heap.IsSliceOf sl (partValue p) vu .none->_) h2 ru (fun q hq hs=>?_) hs;intro E;have hj:j<=vs.size:=by rw [len,<- hq]; exact iF (le_refl _) _
 obtain ⟨os,Eg,GP,GO⟩:=id hs;have hTs:s.TypeIs (.ref sl) "slice":=⟨os,Eg,GP⟩;unfold getItem;refine wpAny_holding ?_;refine zC1 (wpAny_sequenceKey ht.typeIs (by decide) ?_);refine zC1 (wpAny_callSpecial?_slot (name:=ofString "__getitem__") ht.typeIs slot_tuple_getitem (wpAny_call_entry slot_tuple_getitem ht.typeIs entry_tuple_getitem ?_ (args_tuple_getitem _ _)));refine (?_:wpAny _ _ (Builtin.Tuple.tupleItemsOf (.ref a) >>= _) _ _ s);refine zC1 (tupleItemsOf_ ht ?_);refine zC1 (wpAny_typeOf hTs ?_);rw [if_pos (by decide)];rw [<- len] at hp hq;refine zC1 (oZ hs hp hq CN ?_);refine (?_:wpAny _ _ (if ((i:Int)==0&&(1:Int)==1&&(j - i)==vs.size)=true then _ else _) _ _ s);by_cases c:((i:Int)==0&&(1:Int)==1&&(j - i)==vs.size)=true
 ·rw [if_pos c];have c:=zA2 c;have c1:(i:Int)=0:=eq_of_beq (zA2 c.1).1;have c2:j - i=vs.size:=eq_of_beq c.2;have i0:i=0:=by lia
  subst i0;rw [c2,len,drop_zero,take_length];refine zC1 (zC1 (wpAny_typeOf ht.typeIs (zC2 ?_)));exact (bRu (zC2 ⟨_,rfl,zC2 ⟨.refl _,r⟩⟩))
 ·rw [if_neg c];have ep:(List.range (j - i)).filterMap (fun (k:Nat)=>vs[((i:Int)+(k:Int) * 1).toNat]?)=(vs.toList.drop i).take (j - i):=by
   rw [<- iX CN hj,List.filterMap_map];exact congrArg (List.filterMap · _) (funext fun k=>by refine (?_:vs[((i:Int)+(k:Int) * 1).toNat]?=vs[i+k]?); rw [Int.mul_one]; rfl)
  refine (?_:wpAny _ _ (Builtin.Tuple.tupleExact ((List.range (j - i)).filterMap (fun (k:Nat)=>vs[((i:Int)+(k:Int) * 1).toNat]?)).toArray >>= _) _ _ _);rw [ep];refine wpAny_bind (m:=Builtin.Tuple.tupleExact _) (wpAny_newObj_type (zC2 ⟨_,rfl,zC2 (eS (tk:=s.toks) I ((hl.drop _).take _))⟩) ?_);refine (?_:(toArray _).size<=sizeLine);rw [size_toArray];exact zB1 (List.length_take_le' ..) (zB1 (by rw [length_drop]; exact sub_le ..) (bV (hl.length▸hz)))
def kI {t:Str} {lo hi:Option V} {vl vu:Value} {sl:Addr} (e:sX text t.cps.toList lo hi=some z) (r:Φ.rp s.heap v (.str t)) (rl:RpO Φ s.heap vl lo) (ru:RpO Φ s.heap vu hi) (hs:s.heap.IsSliceOf sl vl vu .none) :
  eL s v/\Φ.wp (getItem v (.ref sl)) (Φ.Gives s z) s:=by
 refine r.str_elim fun tk=>?_;refine ⟨⟨_,_,typeIs_str _ _ _,PySem.F.slot_str_getitem.lookup⟩,jd (C:=fun z=>Φ.wp (getItem (.str t tk) (.ref sl)) (Φ.Gives s z) s) e fun i j hz h1 h2 CN=>?_⟩;refine dq (C:=fun vl=>s.heap.IsSliceOf sl vl vu .none->_) h1 rl (fun p hp hs=>?_) hs;refine dq (C:=fun vu=>s.heap.IsSliceOf sl (partValue p) vu .none->_) h2 ru (fun q hq hs=>?_) hs;rw [zB3] at hp hq;have hj:j<=t.cps.size:=hq▸iF (le_refl _) _;refine fun E=>wpAny_getItem_str_slice (l:=p) (u:=q) (st:=none) hs rfl ?_;unfold sliceMade;have e3:slicePicked t p q none=(List.range (j - i)).map (i + ·):=jM hp hq CN;rw [e3];split
 ·rename_i hf;have hf:=eq_of_beq (zA2 hf).2;rw [zA4,length_range] at hf;have hf:j - i=t.cps.size:=hf;refine ⟨.refl _,.text ?_⟩;rw [hf,show i=0 by grind,drop_zero,<- zB3,take_length]
 ·rw [iX CN hj];refine ⟨?_,.toks _ _,.text rfl⟩
  show (toArray _).size<=sizeLine
  rw [size_toArray];exact zB1 (List.length_take_le' ..) (zB1 (by rw [length_drop]; exact sub_le ..) (bV hz))
def tv {lo hi:Option V} {vl vu:Value} {sl:Addr} (I:Inv Φ s) (e:dG x lo hi=some z) (r:Φ.rp s.heap v x) (rl:RpO Φ s.heap vl lo) (ru:RpO Φ s.heap vu hi) (hs:s.heap.IsSliceOf sl vl vu .none) :
  eL s v/\Φ.wp (getItem v (.ref sl)) (Φ.Gives s z) s:=by
 cases x with
 | list l=>exact jk I e r rl ru hs
 | tuple l=>exact gW I e r rl ru hs
 | str t=>exact kI e r rl ru hs
 | _=>(injection e; done)
end
noncomputable abbrev DV:=(V->Prop)->Prop
section
variable {Φ:Ct} {s:Shared} {d d1 d2 d3:DV}
def vt {r:Value->Sem Value} {t:Value->Value->Sem Value} {op:V->V->Option V} (h1:Ev Φ l d1) (h2:∀ v,Ev Φ (r v) d2)
  (st:∀ s v u x y z,Inv Φ s->Φ.rp s.heap v x->Φ.rp s.heap u y->op x y=some z->Φ.wp (t v u) (Φ.Gives s z) s):Ev Φ (do let v <- l; let u <- r v; t v u) (fun K=>d1 fun x=>d2 fun y=>okK (op x y) K):=fun K s hd I=>
 h1.bind hd I fun v x s₁ g' B7 hx r1=>(h2 v).bind hx g' fun u y w' Ce Ci hy r2=>ab hy fun z e kz=>step Ce kz (st w' v u x y z Ce (r1.keep Ci) r2 e)
def z9 (h1:Ev Φ (eval l Φ.fx.env) d1) (h2:Ev Φ (eval r Φ.fx.env) d2):Ev Φ (eval (.BinOp l o r pos) Φ.fx.env) (fun K=>d1 fun x=>d2 fun y=>okK (sT o x y) K):=by
 rw [eval_BinOp];exact vt (op:=sT o) h1 (fun v=>h2.holding) fun s v u x y z I r1 r2 e=>a8 (dA (Ah e I r1 r2))
def ik (h:bH e=true):markedBehindIn o e t=t:=markedBehindIn_of_false (by cases e <;> first | rfl | exact nB h)
def vy (hs:bH r=true) (h1:Ev Φ (eval l Φ.fx.env) d1) (h2:Ev Φ (eval r Φ.fx.env) d2):Ev Φ (eval (.Compare l [o] [r] pos) Φ.fx.env) (fun K=>d1 fun x=>d2 fun y=>okK (bo o x y) fun b=>K (.bool b)):=fun K s hd I=>by
 rw [eval_Compare1,ik hs];exact h1.bind hd I fun v x s₁ g' B7 hx r1=>h2.holding.bind hx g' fun u y w' Ce Ci hy r2=>ab hy fun c e kc=>a8 (dA fun E=>wpAny_mono (pN e Ce (r1.keep Ci) r2 E) (fun w s' q=>by obtain ⟨gr,rfl⟩:=q; exact ⟨Ce.base.grown gr,gr.keeps,_,kc,.bool c⟩) fun U U z=>z)
def fv (e:cq y some=some b) (r:Φ.rp s.heap v y) (h:Q b s):Φ.wp (truthy v) Q s:=
 eW (C:=fun y=>Φ.rp s.heap v y->Φ.wp (truthy v) Q s) e (fun c e r=>r.bool_elim fun E=>wpAny_truthy_bool (Option.some.inj e▸h)) r
noncomputable abbrev tst (d:DV):(Bool->Prop)->Prop:=fun K=>d fun y=>okK (cq y some) K
def xm (h:Ev Φ (eval x Φ.fx.env) d) (hx:isTrue x Φ.fx.env (eval x Φ.fx.env)=(do let v <- eval x Φ.fx.env; standAt x.pos; holding [v] (truthy v))):EvT Φ (isTrue x Φ.fx.env (eval x Φ.fx.env)) (tst d):=fun K s hd I=>by
 rw [hx];exact h.bind hd I fun v y s₁ g' B7 hy r=>ab hy fun b e kb=>a8 fun E=>wpAny_holding (fv (Q:=Post Φ (fun U=>Eq) s₁ K) e r ⟨g'.base,.refl _,b,kb,rfl⟩ E)
def tq (hs:bH r=true) (h1:Ev Φ (eval l Φ.fx.env) d1) (h2:Ev Φ (eval r Φ.fx.env) d2):EvT Φ (isTrue (.Compare l [o] [r] pos) Φ.fx.env w) (fun K=>d1 fun x=>d2 fun y=>okK (bo o x y) K):=fun K s hd I=>by
 have e:isTrue (.Compare l [o] [r] pos) Φ.fx.env w=(eval (.Compare l [o] [r] pos) Φ.fx.env >>= fun c=>holding [c] (truthy c)):=by
  rw [isTrue_Compare1,eval_Compare1]; simp only [bind_assoc]
 rw [e];exact (vy hs h1 h2).bind (K₁:=fun y=>okK (cq y some) K) hd I fun v y s₁ g' B7 hy r=>ab hy fun b e kb=>fun E=>wpAny_holding (fv (Q:=Post Φ (fun U=>Eq) s₁ K) e r ⟨g'.base,.refl _,b,kb,rfl⟩ E)
def z5 (h:Ev Φ (eval x Φ.fx.env) d):Ev Φ (eval (.UnaryOp .Not x pos) Φ.fx.env) (fun K=>d fun y=>okK (cq y some) fun b=>K (.bool (!b))):=fun K s hd I=>by
 rw [arm_eval_UnaryOp];refine h.bind hd I fun v y s₁ g' B7 hy r=>a8 fun E=>wpAny_holding ?_;refine (?_:wpAny _ _ (holding [v] (truthy v >>= fun t=>pure (Value.bool (!t)))) _ _ _);exact ab hy fun b e kb=>wpAny_holding (zC1 (fv e r (zC2 ⟨g'.base,.refl _,_,kb,.bool _⟩) E))
def tm (h:EvT Φ (isTrue x Φ.fx.env (eval x Φ.fx.env)) (tst d)):EvT Φ (isTrue (.UnaryOp .Not x pos) Φ.fx.env w) (fun K=>d fun y=>okK (cq y some) fun b=>K (!b)):=fun K s hd I=>by
 rw [arm_isTrue_UnaryOp];exact h.bind (K₁:=fun b=>K (!b)) hd I fun t b s₁ g' B7 hb e=>EvR.pure g' hb (e▸rfl)
noncomputable abbrev bop:Bool->BoolOp
 | true=>.And
 | false=>.Or
noncomputable abbrev nW (b:Bool) (ds:List DV):(Bool->Prop)->Prop:=cm b (ds.map fun d U=>d) []
def tn:EvT Φ (allTrue (bop b) [] Φ.fx.env) (nW b []):=fun K s hd I=>by
 rw [arm_allTrue_nil];cases b <;> exact EvR.pure I hd rfl
def rL (h:EvT Φ (isTrue x Φ.fx.env (eval x Φ.fx.env)) (tst d)) (hr:EvT Φ (allTrue (bop b) r Φ.fx.env) (nW b ds)):EvT Φ (allTrue (bop b) (x :: r) Φ.fx.env) (nW b (d :: ds)):=fun K s hd I=>by
 rw [arm_allTrue_cons];refine h.bind (K₁:=fun c=>if c=b then nW b ds K else K c) hd I fun t c s₁ g' B7 hk e=>?_;subst e;cases b <;> cases t
 ·exact hr K s₁ hk g'
 ·exact EvR.pure g' hk rfl
 ·exact EvR.pure g' hk rfl
 ·exact hr K s₁ hk g'
abbrev bi (Φ:Ct) (q:Expr×DV):Prop:=Ev Φ (eval q.1 Φ.fx.env) q.2
def sH {K:V->Prop} (hy:okK (cq y some) fun c=>if c=b then K (.bool b) else K (.bool c)) (r:Φ.rp h v y):K y:=
 ab hy fun c e kc=>eW (C:=fun y=>K y) e fun c' e=>by
  cases e
  by_cases q:c=b
  ·rw [if_pos q] at kc; rw [q]; exact kc
  ·rw [if_neg q] at kc; exact kc
theorem nP:∀ {qs:List (Expr×DV)},(∀ q∈qs,bi Φ q)->qs≠[]->Ev Φ (boolOp pos (bop b) (qs.map fun q=>eval q.1 Φ.fx.env)) (fun K=>nW b (qs.map Prod.snd) fun c=>K (.bool c))
 | [],_,h=>absurd rfl h
 | [q],h,_=>fun K s hd I E=>by
  have e:boolOp pos (bop b) ([q].map fun q=>eval q.1 Φ.fx.env)=eval q.1 Φ.fx.env:=by cases b <;> rfl
  exact e.symm▸wpAny_mono (h q (.head _) (fun y=>okK (cq y some) fun c=>if c=b then K (.bool b) else K (.bool c)) s hd I E) (fun v s' ⟨B,k,y,hy,r⟩=>⟨B,k,y,sH hy r,r⟩) fun U U z=>z
 | q :: q' :: r,h,_=>fun K s hd I=>by
  have hr:=nP (b:=b) (pos:=pos) (qs:=q' :: r) (fun x m=>h x (.tail _ m)) (by simp);have go:∀ t u (l:List (Sem Value)),boolOp pos (bop b) (t :: u :: l)=(do let v <- t; standAt pos; let c <- holding [v] (truthy v); if c=b then boolOp pos (bop b) (u :: l) else pure v):=fun t u l=>by
   cases b <;> exact bind_congr fun v=>bind_congr fun U=>bind_congr fun c=>by cases c <;> rfl
  rw [map_cons,map_cons,go];refine (h q (.head _)).bind (K₁:=fun y=>okK (cq y some) fun c=>if c=b then nW b ((q' :: r).map Prod.snd) (fun c=>K (.bool c)) else K (.bool c)) hd I fun v y s₁ g' B7 hy rp=>a8 ?_;refine ab hy fun c e kc E=>zC1 (wpAny_holding (fv e rp ?_ E));by_cases qc:c=b
  ·rw [if_pos qc] at kc ⊢;exact hr K s₁ kc g' E
  ·rw [if_neg qc] at kc ⊢;exact zC2 ⟨g'.base,.refl _,_,kc,eW (C:=fun y=>Φ.rp s₁.heap v y->Φ.rp s₁.heap v (.bool c)) e (fun c' e r=>by (injection e with e; subst e); exact r) rp⟩
theorem mM:∀ {qs:List (Expr×DV)},(∀ q∈qs,EvT Φ (isTrue q.1 Φ.fx.env (eval q.1 Φ.fx.env)) (tst q.2))->EvT Φ (allTrue (bop b) (qs.map Prod.fst) Φ.fx.env) (nW b (qs.map Prod.snd))
 | [],_=>tn
 | q :: r,h=>rL (h q (.head _)) (mM fun x m=>h x (.tail _ m))
noncomputable abbrev bn (ds:List DV):(List V->Prop)->Prop:=be (ds.map fun d U=>d) []
def aq (h:aj e=true):starEach (e :: r) env=(false,eval e env) :: starEach r env:=by
 cases e <;> first | rfl | exact nB h
theorem dj:∀ {qs:List (Expr×DV)},(∀ q∈qs,aj q.1=true/\bi Φ q)->EvL Φ (spliced (backTo pos (starEach (qs.map Prod.fst) Φ.fx.env))) (bn (qs.map Prod.snd))
 | [],_=>fun K s hd I=>EvR.pure (a:=[]) I hd .nil
 | q :: r,h=>fun K s hd I=>by
  refine map_cons.symm▸(aq (h q (.head _)).1).symm▸?_;have e:spliced (backTo pos ((false,eval q.1 Φ.fx.env) :: starEach (r.map Prod.fst) Φ.fx.env))=(eval q.1 Φ.fx.env >>= fun v=>holding [v] (spliced (backTo pos (starEach (r.map Prod.fst) Φ.fx.env))) >>= fun vs=>pure (v :: vs)):=rfl;rw [e];exact (h q (.head _)).2.bind (K₁:=fun x=>bn (r.map Prod.snd) fun xs=>K (x :: xs)) hd I fun v x s₁ g' B7 hx r1=>(dj fun q m=>h q (.tail _ m)).holding.bind hx g' fun vs xs w' Ce Ci Hw rs=>EvR.pure Ce Hw (.cons (r1.keep Ci) rs)
def uC {qs:List (Expr×DV)} {k:Nat} (h:∀ q∈qs,aj q.1=true/\bi Φ q):EvC Φ true (eval (.Tuple (qs.map Prod.fst) k pos) Φ.fx.env) (fun K=>bn (qs.map Prod.snd) fun xs=>okK (bN xs (.tuple xs)) K):=fun K s hd I=>by
 rw [arm_eval_Tuple];refine a8 ((dj h).bindC hd I fun vs xs s₁ g' B7 hx rs=>ab hx fun z e kz=>fit_elim (C:=fun z=>K z->Φ.wp _ (iS Φ true s₁ K) s₁) e (fun q kz E=>?_) kz);have m:=eS (n:=0) (tk:=s₁.toks) g' rs;exact wpAny_newObj_type ⟨⟨g'.base.grown m.1,m.1.keeps,_,kz,m.2⟩,fun U=>d7 (le_refl _)⟩ (by refine (?_:vs.toArray.size<=sizeLine); rw [size_toArray,rs.length]; exact bV q)
def xr {qs:List (Expr×DV)} (h:∀ q∈qs,aj q.1=true/\bi Φ q):Ev Φ (eval (.List (qs.map Prod.fst) pos) Φ.fx.env) (fun K=>bn (qs.map Prod.snd) fun xs=>okK (bN xs (.list xs)) K):=fun K s hd I=>by
 rw [arm_eval_List];refine a8 ((dj h).bind hd I fun vs xs s₁ g' B7 hx rs=>ab hx fun z e kz=>step g' kz ?_);exact fit_elim e fun q E=>wpAny_newObj_type (gf (tk:=s₁.toks) g' rs) (by refine (?_:vs.toArray.size<=sizeLine); rw [size_toArray,rs.length]; exact bV q)
def mO (h:eL s o/\Φ.wp (getItem o i) (Φ.Gives s z) s):Φ.wp (do standAt pos; let r <- subscripted slice (<- getitemInPython o) o i; letTemporaryGo value o r; pure r) (Φ.Gives s z) s:=by
 obtain ⟨⟨T,id,hT,hl⟩,hg⟩:=h;refine a8 fun E=>?_;rw [getitemInPython_of_ne hT.not_modules];refine zC1 (zC1 (wpAny_specialOf hT hl ?_));refine zC2 ?_;have fin:∀ vs,wpAny (model Φ.fx.g.prog Φ.fx.g.w) Φ.fx.A (operate vs (getItem o i) >>= fun r=>letTemporaryGo value o r >>= fun U=>pure r) (Φ.Gives s z) E s:=fun vs=>
  zC1 (wpAny_mono (dA hg E) (fun a s' p=>zC1 (wpAny_letTemporaryGo (wpAny_pure p))) fun U U z=>z)
 cases slice with
 | Slice a b c p=>cases c with
  | none=>exact fin _
  | some=>exact fin _
 | _=>exact fin _
def zZ (h1:Ev Φ (eval value Φ.fx.env) d1) (h2:Ev Φ (eval slice Φ.fx.env) d2):Ev Φ (eval (.Subscript value slice pos) Φ.fx.env) (fun K=>d1 fun x=>d2 fun y=>okK (sN x y) K):=by
 rw [arm_eval_Subscript];exact vt (op:=sN) h1 (fun v=>h2.holding) fun s v u x y z I r1 r2 e=>mO (y5 I e r1 r2)
abbrev EvO (Φ:Ct) (t:Sem Value) (d:(Option V->Prop)->Prop):Prop:=EvR Φ (RpO Φ) t d
def iE:EvO Φ (valueOrNone (evalOpt none Φ.fx.env)) (fun K=>K none):=fun K s hd I=>EvR.pure (a:=Value.none) I hd rfl
def iD (h:Ev Φ (eval e Φ.fx.env) d):EvO Φ (valueOrNone (evalOpt (some e) Φ.fx.env)) (fun K=>d fun y=>K (some y)):=fun K s hd I E=>by
 refine (?_:wpAny _ _ (eval e Φ.fx.env) _ _ _);exact wpAny_mono (h _ s hd I E) (fun v s' ⟨B,k,y,hy,r⟩=>⟨B,k,some y,hy,r⟩) fun U U z=>z
theorem RpO.keep (r:RpO Φ h v y) (k:ah h h'):RpO Φ h' v y:=by
 cases y with
 | none=>exact r
 | some x=>exact Rp.keep r k
def fK {value:Expr} {lo hi:Option Expr} {p pos:Pos} {dl dh:(Option V->Prop)->Prop} (h1:Ev Φ (eval value Φ.fx.env) d1) (h2:EvO Φ (valueOrNone (evalOpt lo Φ.fx.env)) dl) (h3:EvO Φ (valueOrNone (evalOpt hi Φ.fx.env)) dh) :
  Ev Φ (eval (.Subscript value (.Slice lo hi none p) pos) Φ.fx.env) (fun K=>d1 fun x=>dl fun l=>dh fun h=>okK (dG x l h) K):=fun K s hd I=>by
 rw [arm_eval_Subscript];refine h1.bind hd I fun v x s₁ g' B7 hx r1=>?_;have hS:EvR Φ (fun h v (q:Option V×Option V)=>∃ sl vl vu,v=.ref sl/\h.IsSliceOf sl vl vu .none/\RpO Φ h vl q.1/\RpO Φ h vu q.2) (eval (.Slice lo hi none p) Φ.fx.env) (fun K=>dl fun l=>dh fun h=>K (l,h)):=fun K s hd I=>by
  rw [arm_eval_Slice];refine h2.bind hd I fun vl l s₁ g' B7 hl rl=>h3.holding.bind hl g' fun vu h w' Ce Ci hh rh=>?_;refine step (z:=(l,h)) Ce hh fun E=>zC1 (wpAny_holding (zC2 ?_));exact wpAny_newObj_type ⟨Grown.push _ _ w'.toks,_,vl,vu,rfl,Heap.IsSliceOf.new ..,(rl.keep Ci).keep (ae _ _),rh.keep (ae _ _)⟩
 refine hS.holding.bind (K₁:=fun q=>okK (dG x q.1 q.2) K) hx g' fun u q w' Ce Ci hq rq=>?_;obtain ⟨sl,vl,vu,rfl,hs,rl,ru⟩:=rq;exact ab hq fun z e kz=>step Ce kz (mO (tv Ce e (r1.keep Ci) rl ru hs))
end
section
variable {Φ:Ct} {s:Shared} {v u:Value} {x y z:V} {d:DV}
def iz {x:Str} (h:bK Φ.fx.env.scope.names x=true):Φ.fx.env.scope.names.lookup x=some .globalImplicit/\(x==("__debug__" : Str))=false:=by
 have h:=zA2 h;exact ⟨eq_of_beq h.1,not_eq_true' _▸(zA2 h.2).1⟩
def ge {x:Str} {pos:Pos} {Q:Value->Shared->Prop} (I:Inv Φ s) (hx:bK Φ.fx.env.scope.names x=true) (hv:Φ.fx.g.mg x=some v) (h:Q v s):Φ.wp (eval (.Name x pos) Φ.fx.env) Q s:=fun E=>
 Name_function_global I.ok.kind (iz hx).1 (loadGlobal_global (by rw [I.ok.globals]; exact I.ok.gr.main.at' (I.base.stays _)) hv h) (iz hx).2
def bO {x:Str} {pos:Pos} {Q:Value->Shared->Prop} (I:Inv Φ s) (hx:bK Φ.fx.env.scope.names x=true) (hv:bC.lookup x=some v) (h:Q v s):Φ.wp (eval (.Name x pos) Φ.fx.env) Q s:=fun E=>
 have q:=I.ok.gr.blts x v hv
 Name_function_global I.ok.kind (iz hx).1 (loadGlobal_builtin (by rw [I.ok.globals]; exact I.ok.gr.main.at' (I.base.stays _)) q.1 (by rw [I.ok.builtins]; exact I.ok.gr.blt.at' (I.base.stays _)) q.2 h) (iz hx).2
def uF {n:Str} {pos:Pos} (hx:bK Φ.fx.env.scope.names n=true) (hv:Φ.fx.g.cons.lookup n=some x):Ev Φ (eval (.Name n pos) Φ.fx.env) (fun K=>K x):=fun K s hd I=>
 (I.ok.gr.cons n x hv).elim fun u q=>ge I hx q.1 ⟨I.base,.refl _,x,hd,q.2 _ _ I.base.stays fun a b=>I.bad0 b⟩
def z6 (hc:gb c x=true):Ev Φ (eval (.Constant c k pos) Φ.fx.env) (fun K=>K x):=fun K s hd I E=>by
 refine (?_:wpAny _ _ (constValue Φ.fx.env c) _ _ _);cases x with
 | none=>obtain rfl:=eq_of_beq hc; exact zC2 ⟨I.base,.refl _,_,hd,.none⟩
 | bool b=>obtain rfl:=eq_of_beq hc; exact zC2 ⟨I.base,.refl _,_,hd,.bool _⟩
 | int i=>obtain rfl:=eq_of_beq hc; exact wpAny_mkInt ⟨I.base.grown (.toks _ _),.refl _,_,hd,.int _ _⟩
 | str t=>obtain rfl:=eq_of_beq hc; exact wpAny_mkText ⟨I.base.grown (.toks _ _),.refl _,_,hd,.str _ _⟩
 | _=>(injection hc; done)
theorem du:∀ {l:List (Bool×Sem Value)},(∀ q∈l,q.1=false)->(backTo pos l).any (·.1)=false
 | [],_=>rfl
 | [q],h=>by simp [backTo,h q (.head _)]
 | q :: q' :: l,h=>by
  have:=du (pos:=pos) (l:=q' :: l) fun x m=>h x (.tail _ m);simpa [backTo,h q (.head _)] using this
theorem bW:∀ {qs:List (Expr×DV)},(∀ q∈qs,aj q.1=true)->∀ q∈starEach (qs.map Prod.fst) env,q.1=false
 | [],_,_,h=>nM h
 | q :: r,h,p,hp=>by
  rw [map_cons,aq (h q (.head _))] at hp;cases hp with
  | head=>rfl
  | tail _ m=>exact bW (fun x m=>h x (.tail _ m)) p m
def bT {qs:List (Expr×DV)} {K:List V->Prop} {Q:Args->Shared->Prop} {E:Value->Shared->Prop} (hq:∀ q∈qs,aj q.1=true/\bi Φ q) (hd:bn (qs.map Prod.snd) K) (I:Inv Φ s)
  (h:∀ vs xs s₁,Inv Φ s₁->ah s.heap s₁.heap->K xs->Φ.rps s₁.heap vs xs->Q ⟨vs,[]⟩ s₁):wpAny (model Φ.fx.g.prog Φ.fx.g.w) Φ.fx.A (evalArgs F true (backTo pos (starEach (qs.map Prod.fst) Φ.fx.env)) []) Q E s:=by
 have it:=dj (pos:=pos) hq K s hd I E;cases qs with
 | nil=>exact PySem.evalArgs_none (h [] [] s I (.refl _) hd .nil)
 | cons q r=>
  rw [map_cons,aq (hq q (.head _)).1] at it ⊢;obtain ⟨l,hl⟩:∃ l,backTo pos ((false,eval q.1 Φ.fx.env) :: starEach (r.map Prod.fst) Φ.fx.env)=(false,eval q.1 Φ.fx.env) :: l:=by
   cases starEach (r.map Prod.fst) Φ.fx.env <;> exact ⟨_,rfl⟩
  rw [hl] at it ⊢;exact Calls.evalArgs_plain (wpAny_mono it (fun vs s₁ ⟨B,k,xs,hx,rs⟩=>h vs xs s₁ (I.keep B k) k hx rs) fun U U z=>z)
def uH {F:Value} {f:Str} {fp pos:Pos} {qs:List (Expr×DV)} {op:List V->Option V} (hx:bK Φ.fx.env.scope.names f=true) (hF:bC.lookup f=some F) (hk:(∃ id,F=.builtin id)\/∃ T,F=.type T) (hq:∀ q∈qs,aj q.1=true/\bi Φ q)
  (st:∀ s vs xs z,Inv Φ s->Φ.rps s.heap vs xs->op xs=some z->Φ.wp (call F vs) (Φ.Gives s z) s):Ev Φ (eval (.Call (.Name f fp) (qs.map Prod.fst) [] pos) Φ.fx.env) (fun K=>bn (qs.map Prod.snd) fun xs=>okK (op xs) K):=fun K s hd I E=>by
 refine (?_:wpAny _ _ (eval (.Name f fp) Φ.fx.env >>= fun F=>callWith pos F [] (backTo pos (starEach (qs.map Prod.fst) Φ.fx.env)) []) _ _ s);refine zC1 (bO I hx hF ?_ E);have hp:=du (pos:=pos) (bW (env:=Φ.fx.env) fun q m=>(hq q m).1);have main:wpAny (model Φ.fx.g.prog Φ.fx.g.w) Φ.fx.A (evalArgs F true (backTo pos (starEach (qs.map Prod.fst) Φ.fx.env)) []) (fun a s₁=>wpAny (model Φ.fx.g.prog Φ.fx.g.w) Φ.fx.A (call F ([]++a.pos) a.kw) (Post Φ Φ.rp s K) E s₁) E s:=
  bT hq hd I fun vs xs s₁ g' B7 hx rs=>ab hx fun z e kz=>wpAny_mono (step g' kz (st s₁ vs xs z g' rs e) E) (fun U U p=>p.lift B7) fun U U z=>z
 rcases hk with ⟨id,rfl⟩ | ⟨T,rfl⟩
 ·exact callWith_builtin hp main
 ·exact PySem.callWith_type hp main
def ci {α:Type} {vs:List Value} {xs:List V} {f:V->Option α} {z:α} {C:List Value->Prop} (e:one xs f=some z) (rs:Φ.rps s.heap vs xs) (k:∀ v x,Φ.rp s.heap v x->f x=some z->C [v]):C vs:=by
 cases rs with
 | nil=>(injection e; done)
 | cons r rs=>cases rs with
  | nil=>exact k _ _ r e
  | cons _ _=>(injection e; done)
def tj {α:Type} {vs:List Value} {xs:List V} {f:V->V->Option α} {z:α} {C:List Value->Prop} (e:two xs f=some z) (rs:Φ.rps s.heap vs xs) (k:∀ v u x y,Φ.rp s.heap v x->Φ.rp s.heap u y->f x y=some z->C [v,u]):C vs:=by
 cases rs with
 | nil=>(injection e; done)
 | cons r rs=>cases rs with
  | nil=>(injection e; done)
  | cons r' rs=>cases rs with
   | nil=>exact k _ _ _ _ r r' e
   | cons _ _=>(injection e; done)
def xR (h:n<=ac):(n:Int) < 2 ^ 63:=ofNat_lt.mpr (J5 h (by decide))
def aR {vs:Array Value} {l:List V} (r:Φ.rps h vs.toList l):vs.size=l.length:=length_toList▸r.length
def jL {C:V->List V->Prop} (e:wd x=some l) (kl:∀ l:List V,l.length<=ac->C (.list l) l) (kt:∀ l:List V,l.length<=ac->C (.tuple l) l) (ks:∀ t:Str,t.cps.toList.length<=ac->C (.str t) (bL t.cps.toList)):C x l:=by
 cases x with
 | list m=>exact fit_elim e fun h=>kl m h
 | tuple m=>exact fit_elim e fun h=>kt m h
 | str m=>exact fit_elim e fun h=>ks m h
 | _=>(injection e; done)
def zG (e:wd x=some l) (r:Φ.rp s.heap v x):Φ.wp (call (.builtin "len") [v]) (Φ.Gives s (.int l.length)) s:=
 jL (C:=fun x l=>Φ.rp s.heap v x->Φ.wp (call (.builtin "len") [v]) (Φ.Gives s (.int l.length)) s) e
  (fun l hz r=>r.list_elim fun a o vs n U ha hc hd hl E=>aR hl▸PyProof.Rows.len_list ⟨_,ha,hc.1,_,hd⟩ (by rw [aR hl]; exact xR hz) ⟨.toks _ _,.int _ _⟩)
  (fun l hz r=>r.tuple_elim fun a o vs n U ha hc hd hl E=>aR hl▸PyProof.Rows.len_tuple ⟨_,ha,hc,_,hd⟩ (by rw [aR hl]; exact xR hz) ⟨.toks _ _,.int _ _⟩)
  (fun t hz r=>r.str_elim fun tk E=>by
   unfold bL;rw [zA4,zB3];exact P.len_str (by rw [zB3] at hz; have:=xR hz; unfold Str.length; omega) ⟨.toks _ _,.int _ _⟩) r
def rP {C:V->List V->Prop} (e:bM x=some l) (h0:wd x=some l->C x l) (hd:∀ kvs,dkV kvs=true->kvs.length<=ac->C (.dict kvs) (kvs.map (·.1))):C x l:=by
 cases x with
 | dict kvs=>exact aK (e:(if dkV kvs=true then bN kvs (kvs.map (·.1)) else none)=some l) fun q e=>fit_elim e fun h=>hd kvs q h
 | _=>exact h0 e
def ub {prog:Program} {w:World} {A:Around} {E:Value->Shared->Prop} {d:Addr} {od:Obj} {es:Array DictEntry} {ep:Nat} {Q:Value->Shared->Prop} (DU:s.heap.get? d=some od) (hx:od.ExactDict) (Cp:od.data=.dict es ep) (hd:d≠sysModules) (hz:(es.size:Int) < 2 ^ 63) (h:∀ t tk,Q (.int es.size t) { s with toks:=tk }):wpAny (model prog w) A (call (.builtin "len") [.ref d]) Q E s:=by
 have hT:s.TypeIs (.ref d) "dict":=⟨od,DU,hx.1⟩;refine Calls.call_function_entry kind_len plain_len entry_len (args_len1 _) ?_;refine wpAny_bind (m:=oneArg "len" _) (zC2 ?_);refine wpAny_bind (m:=callSpecial? (.ref d) (ofString "__len__")) (wpAny_callSpecial?_slot (name:=ofString "__len__") hT PySem.F.slot_dict_len (wpAny_call_entry PySem.F.slot_dict_len hT PySem.F.entry_dict_len ?_ (PySem.F.args_dict_len_1 _)));refine (?_:wpAny _ _ (dictSize d >>= _) _ _ s);unfold dictSize;refine zC1 (zC1 (wpAny_dictEntries DU Cp (zC2 ?_)));refine (?_:wpAny _ _ (Builtin.Dict.pendingCount d >>= _) _ _ s);refine zC1 (wpAny_pendingCount_other (beq_eq_false_iff_ne.mpr hd) ?_);refine zC1 (wpAny_mkInt (zC2 ⟨_,rfl,?_⟩));refine (?_:wpAny _ _ _ _ _ { s with toks:=s.toks+1 });refine zC1 (wpAny_holding (zC2 ?_));refine zC1 (wpAny_letGo ?_);refine bI (c:=((es.size+0:Nat):Int) < 0) (Int.not_lt.mpr (natCast_nonneg _)) ?_;refine bI (c:=((es.size:Nat):Int) >= 2 ^ 63) (Int.not_le.mpr hz) ?_;exact zC1 (wpAny_mkInt (zC2 ⟨_,rfl,h _ _⟩))
def wE (e:bM x=some l) (r:Φ.rp s.heap v x):Φ.wp (call (.builtin "len") [v]) (Φ.Gives s (.int l.length)) s:=
 rP (C:=fun x l=>Φ.rp s.heap v x->Φ.wp (call (.builtin "len") [v]) (Φ.Gives s (.int l.length)) s) e (fun e r=>zG e r) (fun kvs hk hz r=>r.dict_elim (C:=fun v=>Φ.wp (call (.builtin "len") [v]) (Φ.Gives s (.int (kvs.map (·.1)).length)) s) hk fun a o es n U hm ha hc hd he k1 U E=>by
  have GZ:es.size=(kvs.map (·.1)).length:=by rw [<- k1.length,zA4,zB3]
  exact ub ha hc hd hm (by rw [GZ,zA4]; exact xR hz) fun t tk=>⟨.toks _ _,GZ▸.int _ _⟩) r
def z7 {fp pos:Pos} {q:Expr×DV} (hx:bK Φ.fx.env.scope.names "len"=true) (hq:aj q.1=true/\bi Φ q):Ev Φ (eval (.Call (.Name "len" fp) [q.1] [] pos) Φ.fx.env) (fun K=>bn [q.2] fun xs=>okK (opN .len xs) K):=
 uH (qs:=[q]) (op:=opN .len) hx rfl (.inl ⟨_,rfl⟩) (fun p m=>by obtain rfl:=zA6 m; exact hq) fun s vs xs z I rs e=>ci (C:=fun vs=>Φ.wp (call (.builtin "len") vs) (Φ.Gives s z) s) e rs fun v x r e=>map_elim e fun l e=>wE e r
end
section
variable {Φ:Ct} {s:Shared} {v u:Value} {x y z:V} {d:DV}
def zQ (hT:hA[t]?=some T) (e:isT x t=some b) (r:Φ.rp s.heap v x):Φ.wp (call (.builtin "isinstance") [v,.type T]) (Φ.Gives s (.bool b)) s:=fun E=>by
 have G0:∀ {b},Φ.Gives s (.bool b) (.bool b) s:=⟨.refl _,.bool _⟩;have G1:∀ {b},Φ.Gives s (.bool b) (.bool b) { s with toks:=s.toks+1 }:=⟨.toks _ _,.bool _⟩
 match t,hT with
 | 0,hT=>
  (injection hT with hT; subst hT);cases r with
  | none=>exact some_elim e (IsiPair.NoneType_str G1)
  | bool c=>exact some_elim e (IsiPair.bool_str G1)
  | int i t=>exact some_elim e (IsiPair.int_str G1)
  | str _ t=>exact some_elim e (IsiPair.str_str G0)
  | list _ ha hc=>exact some_elim e (IsiPair.list_str ha hc.1 G1)
  | tuple _ ha hc=>exact some_elim e (IsiPair.tuple_str ha hc G1)
  | inst=>(injection e; done)
  | dict=>(injection e; done)
 | 1,hT=>
  (injection hT with hT; subst hT);cases r with
  | none=>exact some_elim e (IsiPair.NoneType_tuple G1)
  | bool c=>exact some_elim e (IsiPair.bool_tuple G1)
  | int i t=>exact some_elim e (IsiPair.int_tuple G1)
  | str _ t=>exact some_elim e (IsiPair.str_tuple G1)
  | list _ ha hc=>exact some_elim e (IsiPair.list_tuple ha hc.1 G1)
  | tuple _ ha hc=>exact some_elim e (IsiPair.tuple_tuple ha hc G0)
  | inst=>(injection e; done)
  | dict=>(injection e; done)
 | 2,hT=>
  (injection hT with hT; subst hT);cases r with
  | none=>exact some_elim e (IsiPair.NoneType_list G1)
  | bool c=>exact some_elim e (IsiPair.bool_list G1)
  | int i t=>exact some_elim e (IsiPair.int_list G1)
  | str _ t=>exact some_elim e (IsiPair.str_list G1)
  | list _ ha hc=>exact some_elim e (IsiPair.list_list ha hc.1 G0)
  | tuple _ ha hc=>exact some_elim e (IsiPair.tuple_list ha hc G1)
  | inst=>(injection e; done)
  | dict=>(injection e; done)
 | 3,hT=>
  (injection hT with hT; subst hT);cases r with
  | none=>exact some_elim e (IsiPair.NoneType_int G1)
  | bool c=>exact some_elim e (IsiPair.bool_int G0)
  | int i t=>exact some_elim e (IsiPair.int_int G0)
  | str _ t=>exact some_elim e (IsiPair.str_int G1)
  | list _ ha hc=>exact some_elim e (IsiPair.list_int ha hc.1 G1)
  | tuple _ ha hc=>exact some_elim e (IsiPair.tuple_int ha hc G1)
  | inst=>(injection e; done)
  | dict=>(injection e; done)
 | 4,hT=>
  (injection hT with hT; subst hT);cases r with
  | none=>exact some_elim e (IsiPair.NoneType_bool G1)
  | bool c=>exact some_elim e (IsiPair.bool_bool G0)
  | int i t=>exact some_elim e (IsiPair.int_bool G1)
  | str _ t=>exact some_elim e (IsiPair.str_bool G1)
  | list _ ha hc=>exact some_elim e (IsiPair.list_bool ha hc.1 G1)
  | tuple _ ha hc=>exact some_elim e (IsiPair.tuple_bool ha hc G1)
  | inst=>(injection e; done)
  | dict=>(injection e; done)
def y3 {t:Nat} (hT:hA[t]?=some T):bC.lookup (ofString T)=some (.type T):=by
 match t,hT with
 | 0,hT=>(injection hT with hT; subst hT); decide
 | 1,hT=>(injection hT with hT; subst hT); decide
 | 2,hT=>(injection hT with hT; subst hT); decide
 | 3,hT=>(injection hT with hT; subst hT); decide
 | 4,hT=>(injection hT with hT; subst hT); decide
def z8 {t:Nat} (hT:hA[t]?=some T) (hx:bK Φ.fx.env.scope.names "isinstance"=true) (hy:bK Φ.fx.env.scope.names (ofString T)=true) (hp:aj q.1=true) (h:bi Φ q) :
  Ev Φ (eval (.Call (.Name "isinstance" fp) [q.1,.Name (ofString T) pT] [] pos) Φ.fx.env) (fun K=>q.2 fun x=>okK (isT x t) fun b=>K (.bool b)):=fun K s hd I E=>by
 refine (?_:wpAny _ _ (eval (.Name "isinstance" fp) Φ.fx.env >>= fun F=>callWith pos F [] (backTo pos (starEach [q.1,.Name (ofString T) pT] Φ.fx.env)) []) _ _ s);refine zC1 (bO (v:=.builtin "isinstance") I hx rfl ?_ E);rw [aq hp];refine callWith_builtin rfl (Calls.evalArgs_plain ?_);have q':spliced (backTo pos ((false,eval q.1 Φ.fx.env) :: starEach [.Name (ofString T) pT] Φ.fx.env))=(eval q.1 Φ.fx.env >>= fun v=>holding [v] (eval (.Name (ofString T) pT) Φ.fx.env >>= fun u=>holding [u] (pure []) >>= fun vs=>pure (u :: vs)) >>= fun vs=>pure (v :: vs)):=rfl;refine (?_:wpAny _ _ (spliced (backTo pos ((false,eval q.1 Φ.fx.env) :: starEach [.Name (ofString T) pT] Φ.fx.env))) _ _ _);rw [q'];refine zC1 (wpAny_mono (h _ s hd I E) (fun v s₁ ⟨B,k,x,hx,r⟩=>?_) fun U U z=>z);have g':=I.keep B k;refine zC1 (wpAny_holding (zC1 (bO g' hy (y3 hT) ?_ E)));refine zC1 (wpAny_holding (zC2 (zC2 (zC2 ?_))));exact ab hx fun b e kb=>wpAny_mono (step g' kb (zQ hT e r) E) (fun U U p=>p.lift k) fun U U z=>z
def ja (k:ah s.heap h'):Grown s { s with heap:=h',toks:=tk }:=⟨k,rfl,rfl⟩
def jS {C:V->List V->Prop} (e:fC x=some l) (kl:∀ l:List V,l.length<=ac->C (.list l) l) (kt:∀ l:List V,l.length<=ac->C (.tuple l) l):C x l:=by
 cases x with
 | list m=>exact fit_elim e fun h=>kl m h
 | tuple m=>exact fit_elim e fun h=>kt m h
 | _=>(injection e; done)
def qJ (I:Inv Φ s) (k:ah s.heap h') (hD:h'.get? s.heap.objs.size=some { cls:=.type "list",dict:=none,data:=.seq vs c,slots:=#[] }) (rr:Φ.rps h' vs.toList l) :
  Φ.Gives s (.list l) (.ref s.heap.objs.size) { s with heap:=h',toks:=tk }:=⟨ja k,.list I.fresh hD ⟨rfl,rfl⟩ rfl rr⟩
def qN (I:Inv Φ s) (e:fC x=some l) (r:Φ.rp s.heap v x):Φ.wp (call (.type "list") [v]) (fun w s'=>w=.ref s.heap.objs.size/\Φ.Gives s (.list l) w s') s:=
 jS (C:=fun x l=>Φ.rp s.heap v x->Φ.wp (call (.type "list") [v]) (fun w s'=>w=.ref s.heap.objs.size/\Φ.Gives s (.list l) w s') s) e
  (fun l hz r=>r.list_elim fun a o vs n U ha hc hd hl E=>call_list_seq (hsz:=by rw [aR hl]; exact bV hz) _ (.inl rfl) ha hc.1 hd fun h' c' hk hD=>⟨rfl,qJ (tk:=s.toks) I hk hD (hl.keep hk)⟩)
  (fun l hz r=>r.tuple_elim fun a o vs n U ha hc hd hl E=>call_list_seq (hsz:=by rw [aR hl]; exact bV hz) _ (.inr rfl) ha hc hd fun h' c' hk hD=>⟨rfl,qJ (tk:=s.toks) I hk hD (hl.keep hk)⟩) r
def ot (e:fw l=some ss) (r:Φ.rps h vs l):StrsAre vs (ss.map fun x=>(⟨x.toArray⟩:Str)):=by
 refine r.ind (D:=fun vs l=>∀ ss,fw l=some ss->StrsAre vs (ss.map fun x=>(⟨x.toArray⟩:Str))) (fun ss e=>some_elim e .nil) (fun v vs x l r U ih ss e=>?_) ss e;unfold fw at e;rw [mapM_cons] at e;obtain ⟨a,ha,e⟩:=bind_eq_some_iff.mp e;obtain ⟨b,hb,e⟩:=bind_eq_some_iff.mp e;(injection e with e; subst e);exact d5 (C:=fun x=>Φ.rp h v x->StrsAre (v :: vs) ((a :: b).map fun x=>(⟨x.toArray⟩:Str))) ha (fun t et r=>r.str_elim fun tk=>by (injection et with et; subst et); rw [map_cons,hM]; exact .cons _ _ (ih b hb)) r
def eT (e:cT l=some ns) (r:Φ.rps h vs l):IntsAre vs ns:=by
 refine r.ind (D:=fun vs l=>∀ ns,cT l=some ns->IntsAre vs ns) (fun ss e=>some_elim e .nil) (fun v vs x l r U ih ss e=>?_) ns e;unfold cT at e;rw [mapM_cons] at e;obtain ⟨a,ha,e⟩:=bind_eq_some_iff.mp e;obtain ⟨b,hb,e⟩:=bind_eq_some_iff.mp e;(injection e with e; subst e);exact b8 (C:=fun x=>Φ.rp h v x->IntsAre (v :: vs) (a :: b)) ha (fun i ei r=>r.int_elim fun tk=>by (injection ei with ei; subst ei); exact .cons _ _ (ih b hb)) r
theorem iu (CJ:List Nat):∀ (ss:List (List Nat)) (a:List Nat),((ss.map fun x=>(⟨x.toArray⟩:Str)).foldl (fun acc p=>acc++CJ.toArray++p.cps) a.toArray).toList=gM CJ (a :: ss)
 | [],a=>rfl
 | x :: r,a=>by
  have:=iu CJ r (a++CJ++x);rw [map_cons,List.foldl_cons,show a.toArray++CJ.toArray++x.toArray=(a++CJ++x).toArray by simp,this];cases r <;> simp [gM]
theorem kL (CJ:List Nat):∀ ss:List (List Nat),(Builtin.Str.glued ⟨CJ.toArray⟩ (ss.map fun x=>(⟨x.toArray⟩:Str))).cps.toList=gM CJ ss
 | []=>rfl
 | x :: r=>iu CJ r x
def wP (e:fw l=some ss) (hz:(ss.map List.length).sum+ss.length * CJ.cps.toList.length<=ac) (rs:Φ.rp s.heap u (.str CJ)) (r:Φ.rp s.heap v (.list l)) :
  Φ.wp (call (.builtin "str.join") [u,v]) (Φ.Gives s (text (gM CJ.cps.toList ss))) s:=by
 refine rs.str_elim fun t=>r.list_elim fun a o vs n U ha hc hd hl E=>?_;have q:=kL CJ.cps.toList ss;rw [hM] at q;refine PyProof.Rows.join_list ⟨_,ha,hc.1,_,hd⟩ (ot e hl) ?_ fun t' k=>⟨.toks _ _,.text q⟩;have e1:((ss.map fun x=>(⟨x.toArray⟩:Str)).map (·.length))=ss.map List.length:=by simp [Str.length]
 rw [e1,zA4];rw [zB3] at hz;exact zB1 hz (show ac<=16777216 by decide)
end
section
variable {Φ:Ct} {s:Shared} {v u:Value} {x y z:V} {d d1 d2:DV}
theorem Inv.cc (I:Inv Φ s):CallC Φ.fx.g Φ.fx.d Φ.bad Φ.fx.A s:=⟨I.ok.hand,I.ok.room,I.ok.units,I.base,fun a b=>I.badLive b,fun a b=>I.bad0 b⟩
def eY {K:V->Prop} {E:Value->Shared->Prop} (I:Inv Φ s) (h:(ak Φ.fx.g.P Φ.fx.d).p f xs K) (rs:Φ.rps s.heap vs xs) :
  wpAny (model Φ.fx.g.prog Φ.fx.g.w) Φ.fx.A (call (.ref (Φ.fx.g.fn f)) vs) (iS Φ (Φ.fx.g.newf f) s K) E s:=
 wpAny_mono (I.ok.call.p f xs K Φ.fx.A s Φ.bad vs E h I.cc rs) (by rintro _ _ ⟨B,k,y,hy,r,nv⟩; exact ⟨⟨B,k,y,hy,r⟩,nv⟩) fun U U z=>z
theorem Inv.frag (I:Inv Φ s):Φ.fx.g.K.In s.heap:=I.ok.gr.frag.keeps I.base.stays
def ev_call {f:Nat} {qs:List (Expr×DV)} (hx:bK Φ.fx.env.scope.names n=true) (hf:Φ.fx.g.fns.lookup n=some f) (CW:keepIn Φ.fx.g.K (.ref (Φ.fx.g.fn f))=true) (hq:∀ q∈qs,aj q.1=true/\bi Φ q) :
  EvC Φ (Φ.fx.g.newf f) (eval (.Call (.Name n fp) (qs.map Prod.fst) [] pos) Φ.fx.env) (fun K=>bn (qs.map Prod.snd) fun xs=>(ak Φ.fx.g.P Φ.fx.d).p f xs K):=fun K s hd I E=>by
 refine (?_:wpAny _ _ (eval (.Name n fp) Φ.fx.env >>= fun F=>callWith pos F [] (backTo pos (starEach (qs.map Prod.fst) Φ.fx.env)) []) _ _ s);refine zC1 (ge I hx (I.ok.gr.fns n f hf) ?_ E);refine callWith_of (by rw [du (bW fun q m=>(hq q m).1)]; rfl) (keeps_K CW) (bT hq hd I fun vs xs s₁ g' B7 hx rs=>⟨g'.frag,?_⟩);exact wpAny_mono (eY g' hx rs) (fun U U p=>p.lift B7) fun U U z=>z
def aA (h:bt o=true):attributeBase o name env t=t:=by
 cases o with
 | Call f xs ks p=>
  cases xs with
  | nil=>exact nB h
  | cons=>cases f <;> rfl
 | _=>first | rfl | exact nB h
def xp {o e:Expr} {name:Str} {T id:String} {Cb pos:Pos} {op:V->V->Option V} (ho:bt o=true) (hp:aj e=true) (Ca:(Cb.endLine==pos.line)=true)
  (pa:PlainAttrs T) (slot:PySem.Slot T name id) (Hz:typeOf (.builtin id)=pure (.type "method_descriptor")) (h1:Ev Φ (eval o Φ.fx.env) d1) (h2:Ev Φ (eval e Φ.fx.env) d2) {ok:V->Bool}
  (FY:∀ (s:Shared) v x,ok x=true->Φ.rp s.heap v x->s.TypeIs v T/\∀ a,v=.ref a->∃ ob,s.heap.get? a=some ob/\ob.dict=none)
  (F4:∀ (s:Shared) u v x y z,Inv Φ s->Φ.rp s.heap u x->Φ.rp s.heap v y->op x y=some z->Φ.wp (call (.builtin id) [u,v]) (Φ.Gives s z) s) :
  Ev Φ (eval (.Call (.Attribute o name Cb) [e] [] pos) Φ.fx.env) (fun K=>d1 fun x=>ok x=true/\d2 fun y=>okK (op x y) K):=fun K s hd I E=>by
 refine wpAny_Call_method (aA ho) ?_ Ca pa slot Hz ?_
 ·rw [aq hp]; rfl
 refine wpAny_mono (h1 _ s hd I E) (fun ov s₁ ⟨B,k,x,⟨hx,CR⟩,r1⟩=>?_) fun U U z=>z;have g':=I.keep B k;obtain ⟨hT,Cp⟩:=FY s₁ ov x hx r1;refine ⟨hT,Cp,callWith_builtin ?_ ?_⟩
 ·rw [aq hp]; rfl
 refine bT (qs:=[(e,d2)]) (K:=fun ys=>okK (one ys (op x)) K) (fun q m=>by obtain rfl:=zA6 m; exact ⟨hp,h2⟩) CR g' fun vs ys w' Ce Ci hy rs=>ab hy fun z e kz=>?_;refine ci (C:=fun vs=>wpAny _ _ (call (.builtin id) ([ov]++vs) []) _ _ w') e rs fun v y r2 e=>?_;exact wpAny_mono (step Ce kz (F4 w' ov v x y z Ce (r1.keep Ci) r2 e) E) (fun U U p=>(p.lift Ci).lift k) fun U U z=>z
def tH (s:Shared) (v:Value) (x:V) (hx:isStr x=true) (r:Φ.rp s.heap v x):s.TypeIs v "str"/\∀ a,v=.ref a->∃ ob,s.heap.get? a=some ob/\ob.dict=none:=by
 cases x with
 | str t=>exact r.str_elim (C:=fun v=>s.TypeIs v "str"/\∀ a,v=.ref a->∃ o,s.heap.get? a=some o/\o.dict=none) fun tk=>⟨typeIs_str _ _ _,fun U q=>nomatch q⟩
 | _=>(injection hx; done)
def xt (ho:bt o=true) (hp:aj e=true) (Ca:(Cb.endLine==pos.line)=true) (h1:Ev Φ (eval o Φ.fx.env) d1) (h2:Ev Φ (eval e Φ.fx.env) d2) :
  Ev Φ (eval (.Call (.Attribute o "join" Cb) [e] [] pos) Φ.fx.env) (fun K=>d1 fun x=>isStr x=true/\d2 fun y=>okK (opN .join [x,y]) K):=
 xp (op:=fun x y=>opN .join [x,y]) ho hp Ca PySem.F.plainAttrs_str PySem.F.slot_str_join PySem.F.type_str_join h1 h2 tH
  fun s u v x y z I ru rv e=>d5 (f:=fun CJ=>bz y fun l=>(fw l).bind fun ss=>if (ss.map List.length).sum+ss.length * CJ.length<=ac then some (text (gM CJ ss)) else none) (C:=fun x=>Φ.rp s.heap u x->Φ.wp (call (.builtin "str.join") [u,v]) (Φ.Gives s z) s) e
   (fun t e ru=>cw (C:=fun y=>Φ.rp s.heap v y->Φ.wp (call (.builtin "str.join") [u,v]) (Φ.Gives s z) s) e (fun l e rv=>(bind_eq_some_iff.mp e).elim (by rintro ss ⟨h,e⟩; exact if_elim e fun hz=>wP h hz ru rv)) rv) ru
def xu {o e1 e2:Expr} {d3:DV} (ho:bt o=true) (Fg:aj e1=true) (F3:aj e2=true) (Ca:(Cb.endLine==pos.line)=true) (h1:Ev Φ (eval o Φ.fx.env) d1) (h2:Ev Φ (eval e1 Φ.fx.env) d2) (h3:Ev Φ (eval e2 Φ.fx.env) d3) :
  Ev Φ (eval (.Call (.Attribute o "get" Cb) [e1,e2] [] pos) Φ.fx.env) (fun K=>d1 fun x=>pG x=true/\d2 fun y=>d3 fun z=>okK (opN .getD [x,y,z]) K):=fun K s hd I E=>by
 have hs:starEach [e1,e2] Φ.fx.env=[(false,eval e1 Φ.fx.env),(false,eval e2 Φ.fx.env)]:=by rw [aq Fg,aq F3]; rfl
 refine wpAny_Call_method (T:="dict") (id:="dict.get") (aA ho) (by rw [hs]; rfl) Ca PySem.F.plainAttrs_dict PySem.F.slot_dict_get PySem.F.type_dict_get ?_;refine wpAny_mono (h1 _ s hd I E) (fun ov s₁ ⟨B,k,x,⟨hx,CR⟩,r1⟩=>?_) fun U U z=>z;have g':=I.keep B k;cases x with
 | dict kvs=>
  have hx:dkV kvs=true:=hx;refine Rp.dict_elim (C:=fun ov=>Φ.rp s₁.heap ov (.dict kvs)->s₁.TypeIs ov "dict"/\(∀ a,ov=.ref a->∃ ob,s₁.heap.get? a=some ob/\ob.dict=none)/\wpAny (model Φ.fx.g.prog Φ.fx.g.w) Φ.fx.A (callWith pos (.builtin "dict.get") [ov] (backTo pos (starEach [e1,e2] Φ.fx.env)) []) (Post Φ Φ.rp s K) E s₁) r1 hx (fun a o es n nb hm ha hc hd he k1 k2 r1=>⟨⟨o,ha,hc.1⟩,fun b q=>by (injection q with q; subst q); exact ⟨o,ha,hc.2.1⟩,?_⟩) r1;rw [hs];refine @wpAny_dict_get2_heap _ _ V cC (cy Φ.fx.g.prog Φ.fx.g.w) _ _ _ _ _ _ _ _ I.room3 (beq_eq_false_iff_ne.mpr hm) ?_;refine wpAny_mono (h2 _ s₁ CR g' E) (fun v1 w' ⟨B2,k2',y,hy,r2⟩=>?_) fun U U z=>z;have Ce:=g'.keep B2 k2';refine wpAny_mono (h3 _ w' hy Ce E) (fun v2 Cw ⟨B3,k3,z,hz,r3⟩=>?_) fun U U z=>z;refine ab hz fun c ec kc=>?_;refine aK (ec:(if (dkV kvs&&aJ y)=true then some ((bP kvs y).getD z) else none)=some c) fun q ec=>?_;have q:=zA2 q;have FB:=(r1.keep k2').keep k3;obtain ⟨b,rfl⟩:=cx r2 q.2;refine Rp.dict_elim (C:=fun ov=>ov=.ref a->_) FB hx (fun a' o' Ds n' GG ED El C4 Cv EF k1' Hu ea=>?_) rfl;obtain rfl:a'=a:=Value.ref.inj ea;obtain ⟨xs,D,En⟩:=DAt.dk ⟨o',Ds,n',El,C4,Cv,EF,k1',Hu⟩;have kk:ah s.heap Cw.heap:=(k.trans k2').trans k3;refine ⟨b,y,xs,rfl,KIs.of q.2 (r2.keep k3),D,B3.grown (.toks _ _),kk,c,kc,?_⟩;injection ec with ec
  subst ec;rcases En.at q.2 with ⟨e1,e2,_⟩ | ⟨p,z',e1,e2,_,rz⟩
  ·rw [show @atKey V cC xs y=none from e1,e2]; exact r3
  ·rw [show @atKey V cC xs y=some p from e1,e2]; exact rz
 | _=>exact nB hx
end
structure Feed (g:Gl) (A:Around) (T:Expr) (I:Addr) (fp wr:List Addr) (vals:List Value) (l0 l:List V) (St:Nat->Heap->Prop):Prop where
 sub:∀ b∈wr,b∈fp
 frame:∀ i h h',St i h->(∀ b∈fp,∀ o,h.get? b=some o->h'.get? b=some o)->St i h'
 live:∀ i h b,St i h->b∈fp->aI h b
 item:∀ i x (s:Shared) bad (Q:Value->Shared->Prop) (E:Value->Shared->Prop),l[i]?=some x->St i s.heap->RpAll g bad s.heap vals l0->(∀ a,bad a->aI s.heap a)->(∀ b∈wr,bad b) ->
  (∀ v h' tk,St (i+1) h'->(∀ b o,b∉wr->s.heap.get? b=some o->h'.get? b=some o)->Rp g bad h' v x->Q v { s with heap:=h',toks:=tk }) ->
  wpAny (model g.prog g.w) A (pyNext (.ref I)) (fun r s₁=>∃ v,r=some v/\wpAny (model g.prog g.w) A (letOwnedTupleGo T (.ref I) v) (fun U w'=>Q v w') E s₁) E s
 done:∀ (s:Shared) (Q:Shared->Prop) (E:Value->Shared->Prop),St l.length s.heap->(∀ h' tk,(∀ b o,b∉wr->s.heap.get? b=some o->h'.get? b=some o)->Q { s with heap:=h',toks:=tk }) ->
  wpAny (model g.prog g.w) A (pyNext (.ref I)) (fun r s₁=>r=none/\Q s₁) E s
 self:∀ i (s:Shared) (Q:Value->Shared->Prop) (E:Value->Shared->Prop),St i s.heap->Q (.ref I) s->wpAny (model g.prog g.w) A (pyIter (.ref I)) Q E s
def vG (I:Addr) (h:Heap):Prop:=∃ o n vs,h.get? I=some o/\o.cls=.type n/\o.data=.fields vs /\
 ["enumerate", "zip", "dict_itemiterator", "dict_reverseitemiterator", "odict_iterator", "itertools.zip_longest", "itertools.pairwise"].contains n=false
def mq {E:Value->Shared->Prop} {Q:Unit->Shared->Prop} (go:vG I s.heap) (h:Q () s):wpAny M A (letOwnedTupleGo T (.ref I) v) Q E s:=by
 have main:∀ es k p,wpAny M A (letOwnedTupleGo (.Tuple es k p) (.ref I) v) Q E s:=fun es k p=>by
  obtain ⟨o,n,vs,ho,hc,hd,hn⟩:=go;cases v with
  | ref a=>
   refine zC1 (wpAny_load ho ?_);rw [hc,hd];exact bI (by rw [hn]; exact Bool.false_ne_true) (wpAny_pure h)
  | _=>exact wpAny_pure h
 cases T with
 | Tuple es k p=>exact main es k p
 | List es p=>exact main [] 0 p
 | _=>exact wpAny_pure h
section
variable {g:Gl} {A:Around} {T:Expr} {I:Addr} {fp wr:List Addr} {n:Nat} {P:Nat->Value->Prop} {St:Nat->Heap->Prop} {vals:List Value} {l0 l:List V}
theorem Feed.ofWalks (W:Walks g.prog g.w A I fp wr n P St) (hn:l.length=n) (F8:∀ i h b,St i h->b∈fp->aI h b) (hgo:∀ i h,St i h->vG I h)
  (hP:∀ i x v h bad,l[i]?=some x->P i v->RpAll g bad h vals l0->Rp g bad h v x):Feed g A T I fp wr vals l0 l St where
 sub:=W.sub
 frame:=W.frame
 live:=F8
 item:=fun i x s bad Q E hx CZ hv hb hw hQ=>W.item i s _ _ (hn▸(List.getElem?_eq_some_iff.mp hx).1) CZ fun v h' tk hp C7 hk=>⟨v,rfl,mq (hgo _ _ C7) (hQ v h' tk C7 hk (hP i x v h' bad hx hp (hv.map fun b o e nb=>⟨nb,hk b o (fun m=>nb (hw b m)) e⟩)))⟩
 done:=fun s Q E CZ hQ=>W.done s _ _ (hn▸CZ) fun h' tk hk=>⟨rfl,hQ h' tk hk⟩
 self:=W.self
def vO (ha:aI h a) (hc:aI h c) (m:b∈[a,c]):aI h b:=by
 rcases mem_cons.mp m with rfl | m
 ·exact ha
 ·obtain rfl:=zA6 m; exact hc
def sB (hh:A.handled=none) (I ax:Addr) (Cr:ax≠I) (items:Array Value) (l:List V) (hl:items.size=l.length) :
  Feed g A T I [I,ax] [I] items.toList l l (fun i h=>h.IsListIter I ax i/\h.IsList ax items):=
 Feed.ofWalks (Walks.list hh I ax Cr items) hl.symm (fun i h b st=>vO (st.1.elim fun U q=>⟨_,q.1⟩) (st.2.elim fun U q=>⟨_,q.1⟩))
  (fun i h st=>by obtain ⟨o',e',c,d⟩:=st.1; exact ⟨_,_,_,e',c,d,by decide⟩)
  fun i x v h bad hx hv r=>by
   obtain ⟨v',e,rr⟩:=r.get hx;rw [Ja,hv] at e;(injection e with e; subst e); exact rr
def oO (hh:A.handled=none) (I ax:Addr) (Cr:ax≠I) (items:Array Value) (l:List V) (hl:items.size=l.length) :
  Feed g A T I [I,ax] [I] items.toList l l (fun i h=>h.IsTupleIter I ax i/\h.IsTuple ax items):=
 Feed.ofWalks (Walks.tuple hh I ax Cr items) hl.symm (fun i h b st=>vO (st.1.elim fun U q=>⟨_,q.1⟩) (st.2.elim fun U q=>⟨_,q.1⟩))
  (fun i h st=>by obtain ⟨o',e',c,d⟩:=st.1; exact ⟨_,_,_,e',c,d,by decide⟩)
  fun i x v h bad hx hv r=>by
   obtain ⟨v',e,rr⟩:=r.get hx;rw [Ja,hv] at e;(injection e with e; subst e); exact rr
def uw (nm:String) (Co:nm="str_ascii_iterator"\/nm="str_iterator") (I:Addr) (x:Str) (t:Tok) (W:Walks g.prog g.w A I [I] [I] x.cps.size (SignAt x) (fun i h=>h.IsStrIter I nm x t i)) :
  Feed g A T I [I] [I] [] [] (bL x.cps.toList) (fun i h=>h.IsStrIter I nm x t i):=
 Feed.ofWalks W (by unfold bL; rw [zA4,zB3])
  (fun i h b st hb=>by obtain rfl:=zA6 hb; exact st.elim fun U q=>⟨_,q.1⟩)
  (fun i h st=>by obtain ⟨o',e',c,d⟩:=st; exact ⟨_,_,_,e',c,d,by rcases Co with rfl | rfl <;> decide⟩)
  fun i y v h bad hx hv r=>by
   obtain ⟨c,u,hc,rfl⟩:=hv;unfold bL at hx;rw [Jc,Ja,hc] at hx;(injection hx with hx; subst hx);exact .text rfl
def oP (hh:A.handled=none) (I:Addr) (a b:Int):Feed g A T I [I] [I] [] [] (bw a b) (fun i h=>IsRangeIter h I (a+(i:Nat) * 1) (((b - a).toNat:Int) - (i:Nat)) 1):=
 Feed.ofWalks (Walks.range hh I a 1 (b - a).toNat) (by unfold bw; rw [zA4,length_range])
  (fun i h b st hb=>by obtain rfl:=zA6 hb; exact ⟨_,st⟩)
  (fun i h st=>⟨_,_,_,st,rfl,rfl,by decide⟩)
  fun i x v h bad hx hv r=>by
   obtain ⟨t,rfl⟩:=hv;unfold bw at hx;rw [Jc] at hx;obtain ⟨j,hj,rfl⟩:=map_eq_some_iff.mp hx;rw [List.getElem?_range (by have:=(List.getElem?_eq_some_iff.mp hj).1; rwa [length_range] at this)] at hj;(injection hj with hj; subst hj);rw [Int.mul_one];exact .int _ _
end
inductive FeedAt (Φ:Ct) (T:Expr) (st:Bool) (B0 w':Shared) (it:Value) (l:List V):Prop
 | mk:∀ I fp wr vals l0 St,it=.ref I->Feed Φ.fx.g Φ.fx.A T I fp wr vals l0 l St->St 0 w'.heap->Φ.rps B0.heap vals l0->(∀ b∈wr,B0.heap.get? b=none)->(∀ b∈fp,B0.heap.get? b=none\/(st=true->¬ Φ.bad b))->l.length<=ac->FeedAt Φ T st B0 w' it l
def eX (Φ:Ct) (T:Expr) (st:Bool) (iter:Expr) (d:(List V->Prop)->Prop):Prop:=∀ K s,d K->Inv Φ s->∀ (Q:Value->Shared->Prop) (E:Value->Shared->Prop),
 (∀ l B0 it w',K l->Inv Φ B0->ah s.heap B0.heap->Grown B0 w'->FeedAt Φ T st B0 w' it l->Q it w') ->
 wpAny (model Φ.fx.g.prog Φ.fx.g.w) Φ.fx.A (eval iter Φ.fx.env) (fun x s₁=>wpAny (model Φ.fx.g.prog Φ.fx.g.w) Φ.fx.A (pyIter x) Q E s₁) E s
section
variable {Φ:Ct} {s:Shared} {v:Value} {x:V} {l:List V} {T:Expr} {st:Bool} {d:DV} {E:Value->Shared->Prop}
def aN (e:s.heap.get? b=some o):b≠s.heap.objs.size:=ne_of_lt (lt_size e)
def sa (I:Inv Φ s) (hz:l.length<=ac) (hb:st=true->¬ Φ.bad a) (ha:s.heap.get? a=some o) (hc:o.cls=.type "list") (hd:o.data=.seq vs n) (hl:Φ.rps s.heap vs.toList l) :
  wpAny (model Φ.fx.g.prog Φ.fx.g.w) Φ.fx.A (pyIter (.ref a)) (fun it s'=>Grown s s'/\FeedAt Φ T st s s' it l) E s:=by
 have hL:s.heap.IsList a vs:=⟨_,ha,hc,_,hd⟩;refine wpAny_pyIter_list hL ⟨Grown.push s _ s.toks,_,_,_,_,_,_,rfl,sB I.ok.hand _ a (aN ha) vs l (aR hl),⟨⟨_,J0 _ rfl,rfl,rfl⟩,hL.push _⟩,hl,fun b q=>?_,fun b q=>?_,hz⟩
 ·obtain rfl:=zA6 q; exact ag _
 ·rcases mem_cons.mp q with rfl | q
  ·exact .inl (ag _)
  ·obtain rfl:=zA6 q; exact .inr hb
def zO (I:Inv Φ s) (e:wd x=some l) (r:Φ.rp s.heap v x):wpAny (model Φ.fx.g.prog Φ.fx.g.w) Φ.fx.A (pyIter v) (fun it s'=>Grown s s'/\FeedAt Φ T st s s' it l) E s:=by
 refine jL (C:=fun x l=>Φ.rp s.heap v x->wpAny (model Φ.fx.g.prog Φ.fx.g.w) Φ.fx.A (pyIter v) (fun it s'=>Grown s s'/\FeedAt Φ T st s s' it l) E s) e (fun l hz r=>?_) (fun l hz r=>?_) (fun t hz r=>?_) r
 ·exact r.list_elim fun a o vs n hb ha hc hd hl=>sa I hz (fun U=>hb) ha hc.1 hd hl
 ·refine r.tuple_elim fun a o vs n hb ha hc hd hl=>?_;have hL:s.heap.IsTuple a vs:=⟨_,ha,hc,_,hd⟩;refine wpAny_pyIter_tuple hL ⟨Grown.push s _ s.toks,_,_,_,_,_,_,rfl,oO I.ok.hand _ a (aN ha) vs l (aR hl),⟨⟨_,J0 _ rfl,rfl,rfl⟩,hL.at fun o e=>J7 _ e⟩,hl,fun b q=>?_,fun b q=>?_,hz⟩
  ·obtain rfl:=zA6 q; exact ag _
  ·rcases mem_cons.mp q with rfl | q
   ·exact .inl (ag _)
   ·obtain rfl:=zA6 q; exact .inr fun U=>hb
 ·refine r.str_elim fun tk=>?_;have mk:∀ nm (Co:nm="str_ascii_iterator"\/nm="str_iterator") (o:Obj),Walks Φ.fx.g.prog Φ.fx.g.w Φ.fx.A s.heap.objs.size [s.heap.objs.size] [s.heap.objs.size] t.cps.size (SignAt t) (fun i h=>h.IsStrIter s.heap.objs.size nm t tk i)->(s.heap.push o).IsStrIter s.heap.objs.size nm t tk 0 ->
    Grown s { s with heap:=s.heap.push o }/\FeedAt Φ T st s { s with heap:=s.heap.push o } (.ref s.heap.objs.size) (bL t.cps.toList):=fun nm Co o W st=>
   ⟨Grown.push s _ s.toks,_,_,_,_,_,_,rfl,uw nm Co _ t tk W,st,.nil,fun b q=>by obtain rfl:=zA6 q; exact ag _,fun b q=>by obtain rfl:=zA6 q; exact .inl (ag _),by unfold bL; rw [zA4]; exact hz⟩
  cases ha:t.cps.all (· < 128)
  ·exact wpAny_pyIter_wide ha (mk _ (.inr rfl) _ (Walks.strWide I.ok.hand _ t tk) ⟨_,J0 _ rfl,rfl,rfl⟩)
  ·exact wpAny_pyIter_ascii ha (mk _ (.inl rfl) _ (Walks.strAscii I.ok.hand _ t tk) ⟨_,J0 _ rfl,rfl,rfl⟩)
def sd (I:Inv Φ s) (hz:kvs.length<=ac) (q:dkV kvs=true) (r:Φ.rp s.heap v (.dict kvs)):wpAny (model Φ.fx.g.prog Φ.fx.g.w) Φ.fx.A (pyIter v) (fun it s'=>Grown s s'/\FeedAt Φ T st s s' it (kvs.map (·.1))) E s:=by
 refine r.dict_elim q fun a o es n hb hm ha hc hd hk k1 k2=>?_;have hl:=k1.length;rw [zA4,zB3] at hl;refine gi ?_ ha hc hd ⟨Grown.push s _ s.toks,_,_,_,_,_,_,rfl,Feed.ofWalks (vals:=es.toList.map (·.key)) (l0:=kvs.map (·.1)) (eN I.ok.hand (aN ha) hd) hl.symm (fun i h b st=>vO (st.1.elim fun U q=>⟨_,q.1⟩) ⟨_,st.2⟩) (fun i h st=>st.1.elim fun U q=>⟨_,_,_,q.1,q.2.1,q.2.2,by decide⟩) (fun i x v h bad hx hv r=>?_),⟨⟨_,J0 _ rfl,rfl,rfl⟩,J7 _ ha⟩,k1,fun b q=>?_,fun b q=>?_,by rw [zA4]; exact hz⟩
 ·exact beq_false_of_ne hm
 ·obtain ⟨v',e,rr⟩:=r.get hx;rw [hv] at e;(injection e with e; subst e); exact rr
 ·obtain rfl:=zA6 q; exact ag _
 ·rcases mem_cons.mp q with rfl | q
  ·exact .inl (ag _)
  ·obtain rfl:=zA6 q; exact .inr fun U=>hb
def zN (I:Inv Φ s) (e:bM x=some l) (r:Φ.rp s.heap v x):wpAny (model Φ.fx.g.prog Φ.fx.g.w) Φ.fx.A (pyIter v) (fun it s'=>Grown s s'/\FeedAt Φ T st s s' it l) E s:=by
 cases x with
 | dict kvs=>
  have e:(if dkV kvs=true then bN kvs (kvs.map (·.1)) else none)=some l:=e;refine aK e fun q e=>?_;exact fit_elim (C:=fun l=>wpAny _ _ _ (fun it s'=>Grown s s'/\FeedAt Φ T st s s' it l) E s) e fun hz=>sd I hz q r
 | _=>refine zO I ?_ r; exact e
def AH (h:Ev Φ (eval e Φ.fx.env) d):eX Φ T st e (fun K=>d fun x=>okK (bM x) K):=fun K s hd I Q E hQ=>
 wpAny_mono (h _ s hd I E) (fun v s₁ ⟨B,k,x,hx,r⟩=>ab hx fun l e kl=>wpAny_mono (zN (I.keep B k) e r) (fun it w' p=>hQ l s₁ it w' kl (I.keep B k) k p.1 p.2) fun U U z=>z) fun U U z=>z
def m7 (e:gK G k=some l):getSlot G k=.ownL l:=by
 unfold gK at e
 revert e
 cases getSlot G k with
 | ownL m=>exact fun e=>congrArg Slot.ownL (Option.some.inj e)
 | _=>exact fun e=>nN e.symm
def rOk_of (h:rOk i=true):-(2 ^ 62)<=i/\i < 2 ^ 62:=by
 have h:=ofNat_le.mpr (Nat.le_of_ble_eq_true h);exact ⟨Int.neg_le_of_neg_le (le_trans (Int.natAbs_neg i▸le_natAbs) (le_trans h (by decide))),Int.lt_of_le_of_lt (le_trans le_natAbs h) (by decide)⟩
def iv (I:Inv Φ B0) (h1:rOk a=true/\rOk b=true) (hz:(bw a b).length<=ac) (hr:IsRange s.heap r a b 1 t u w) (gr:Grown B0 s) :
  wpAny (model Φ.fx.g.prog Φ.fx.g.w) Φ.fx.A (pyIter (.ref r)) (fun it s'=>Grown B0 s'/\FeedAt Φ T st B0 s' it (bw a b)) E s:=by
 have qa:=rOk_of h1.1;have qb:=rOk_of h1.2;refine wpAny_pyIter_range hr (small_one qa.1 qa.2 qb.1 qb.2) ?_;have n0:B0.heap.get? s.heap.objs.size=none:=aH gr.keeps.live (ag _);refine ⟨gr.trans (Grown.push s _ s.toks),_,_,_,_,_,_,rfl,oP I.ok.hand _ a b,?_,.nil,fun c hc=>by obtain rfl:=zA6 hc; exact n0,fun c hc=>by obtain rfl:=zA6 hc; exact .inl n0,hz⟩;have e1:a+((0:Nat):Int) * 1=a:=by simp
 have e2:((b - a).toNat:Int) - ((0:Nat):Int)=Builtin.Range.rangeSize a b 1:=by rw [rangeSize_one,Int.ofNat_zero,Int.sub_zero]; split; exact toNat_of_nonneg (Int.sub_nonneg_of_le (Int.le_of_lt ‹_›)); exact congrArg ofNat (Int.toNat_of_nonpos (Int.sub_nonpos_of_le (Int.not_lt.mp ‹_›)))
 refine (?_:IsRangeIter _ _ (a+((0:Nat):Int) * 1) (((b - a).toNat:Int) - ((0:Nat):Int)) 1);rw [e1,e2];exact J0 _ rfl
abbrev dw (Φ:Ct) (T:Expr) (st:Bool) (s:Shared) (E:Value->Shared->Prop) (F:String) (l:List V) (vs:List Value):Prop:=
 wpAny (model Φ.fx.g.prog Φ.fx.g.w) Φ.fx.A (call (.type F) vs) (fun z s₁=>wpAny (model Φ.fx.g.prog Φ.fx.g.w) Φ.fx.A (pyIter z) (fun it s'=>Grown s s'/\FeedAt Φ T st s s' it l) E s₁) E s
def mP {qs:List (Expr×DV)} {op:List V->Option V} (hx:bK Φ.fx.env.scope.names f=true) (hF:bC.lookup f=some (.type F)) (hq:∀ q∈qs,aj q.1=true/\bi Φ q)
  (F4:∀ s vs xs z l E,Inv Φ s->Φ.rps s.heap vs xs->op xs=some z->bM z=some l->dw Φ T st s E F l vs) :
  eX Φ T st (.Call (.Name f fp) (qs.map Prod.fst) [] pos) (fun K=>bn (qs.map Prod.snd) fun xs=>okK (op xs) fun z=>okK (bM z) K):=fun K s hd I Q E hQ=>by
 refine (?_:wpAny _ _ (eval (.Name f fp) Φ.fx.env >>= fun F=>callWith pos F [] (backTo pos (starEach (qs.map Prod.fst) Φ.fx.env)) []) _ _ s);refine zC1 (bO I hx hF ?_ E);refine PySem.callWith_type (du (bW fun q m=>(hq q m).1)) (bT hq hd I fun vs xs s₁ g' B7 hx rs=>ab hx fun z e hz=>ab hz fun l el kl=>?_);exact wpAny_mono (F4 s₁ vs xs z l E g' rs e el) (fun z w' p=>wpAny_mono p (fun it Cw p=>hQ l s₁ it Cw kl g' B7 p.1 p.2) fun U U z=>z) fun U U z=>z
def gB (e:lN a b=some z) (el:bM z=some l) {C:List V->Prop} (k:rOk a=true/\rOk b=true->(bw a b).length<=ac->C (bw a b)):C l:=
 aK e fun h1 e=>fit_elim (C:=fun z=>bM z=some l->C l) e (fun hz el=>fit_elim (C:=C) el fun U=>k h1 hz) el
def rN {qs:List (Expr×DV)} (hx:bK Φ.fx.env.scope.names "range"=true) (hq:∀ q∈qs,aj q.1=true/\bi Φ q) :
  eX Φ T st (.Call (.Name "range" fp) (qs.map Prod.fst) [] pos) (fun K=>bn (qs.map Prod.snd) fun xs=>okK (opN .range xs) fun z=>okK (bM z) K):=by
 refine mP (F:="range") hx rfl hq fun s vs xs z l E I rs e el=>?_;cases rs with
 | nil=>(injection e; done)
 | cons r rs=>
  cases rs with
  | nil=>exact b8 (f:=fun b=>lN 0 b) (C:=fun x=>Φ.rp s.heap _ x->dw Φ T st s E "range" l [_]) e (fun b e r=>r.int_elim (C:=fun v=>dw Φ T st s E "range" l [v]) fun t=>gB (C:=fun l=>dw Φ T st s E "range" l [.int b t]) e el fun h1 hz=>call_range_1 (iv I h1 hz (IsRange.new ..) (Grown.push s _ _))) r
  | cons r' rs=>
   cases rs with
   | nil=>exact cz (C:=fun v u=>dw Φ T st s E "range" l [v,u]) e r r' fun a b t t' e=>gB (C:=fun l=>dw Φ T st s E "range" l [.int a t,.int b t']) e el fun h1 hz=>call_range_2 (iv I h1 hz (IsRange.new ..) (Grown.push s _ _))
   | cons _ _=>(injection e; done)
end
def dX (h:Heap) (k:Bool) (l:Addr) (xs:Array Value):Prop:=match k with
 | true=>h.IsList l xs
 | false=>h.IsTuple l xs
def fg (h:Heap) (k:Bool) (it l:Addr) (i:Nat):Prop:=match k with
 | true=>h.IsListIter it l i
 | false=>h.IsTupleIter it l i
theorem dX.at (x:dX h k l xs) (e:∀ o,h.get? l=some o->h'.get? l=some o):dX h' k l xs:=by
 cases k
 ·exact Heap.IsTuple.at x e
 ·exact Heap.IsList.at x e
theorem fg.at (x:fg h k it l i) (e:∀ o,h.get? it=some o->h'.get? it=some o):fg h' k it l i:=by
 cases k
 ·exact Heap.IsTupleIter.at x e
 ·exact Heap.IsListIter.at x e
theorem fg.lt (x:fg h k it l i):aI h it/\it < h.objs.size:=by
 cases k
 ·obtain ⟨o,e,c,_⟩:=x; exact ⟨⟨o,e⟩,lt_size e⟩
 ·obtain ⟨o,e,c,_⟩:=x; exact ⟨⟨o,e⟩,lt_size e⟩
theorem dX.live (x:dX h k l xs):aI h l:=by
 cases k
 ·obtain ⟨o,e,c,_⟩:=x; exact ⟨o,e⟩
 ·obtain ⟨o,e,c,_⟩:=x; exact ⟨o,e⟩
section
variable {prog:Program} {w:World} {A:Around} {E:Value->Shared->Prop} {s:Shared}
def gF {items} (CE:fg s.heap k it l i) (hl:dX s.heap k l items) (hx:items[i]?=some x)
  (hQ:∀ h',fg h' k it l (i+1)->SameBut it s.heap h'->Q x { s with heap:=h' }):wpAny (model prog w) A (Builtin.SmallTypes.nextOf (.ref it)) Q E s:=by
 cases k with
 | true=>exact wpAny_nextOf_list_item CE hl hx hQ
 | false=>
  obtain ⟨o,ho,hc,hd⟩:=id CE;obtain ⟨ol,F5,_,nl,EG⟩:=hl;have hT:s.TypeIs (.ref it) "tuple_iterator":=⟨o,ho,hc⟩;refine zC1 (wpAny_callSpecial?_slot (name:=ofString "__next__") hT PySem.F.slot_tuple_iterator_next
   (wpAny_call_entry PySem.F.slot_tuple_iterator_next hT PySem.F.entry_tuple_iterator_next ?_ (PySem.F.args_tuple_iterator_next_1 _)))
  refine (?_:wpAny _ _ (field (.ref it) 0 >>= _) _ _ s);refine (bFi ho hd (x:=.ref l) rfl ?_);refine wpAny_ite_false (c:=(Value.ref l==Value.none)=true) rfl ((bFi ho hd (x:=.int i 0) rfl ?_));refine (?_:wpAny _ _ (seqItems? (.ref l) >>= _) _ _ s);refine zC1 (wpAny_seqItems F5 EG ?_);dsimp only;refine (hx:items[(i:Int).toNat]?=_).symm▸zC1 (wpAny_setField ho hd (by simp) (zC2 ⟨x,rfl,zC2 (hQ _ ?_ (SameBut.update ..))⟩));exact ⟨_,get?_update_self _ ho (Obj.isFreed_of_fields (data_mapFields hd _)),(Obj.cls_mapFields ..).trans hc,by rw [data_mapFields hd]; simp [rawInt]⟩
def im {items} (hh:A.handled=none) (CE:fg s.heap k it l i) (hl:dX s.heap k l items) (hx:items[i]?=none)
  (hE:∀ h' e,Heap.ExtBut it s.heap h'->(∃ o,h'.get? e=some o/\o.cls=.type "StopIteration")->E (.ref e) { s with heap:=h' }):wpAny (model prog w) A (Builtin.SmallTypes.nextOf (.ref it)) Q E s:=by
 cases k with
 | true=>exact wpAny_nextOf_list_end hh CE hl hx hE
 | false=>
  obtain ⟨o,ho,hc,hd⟩:=id CE;obtain ⟨ol,F5,_,nl,EG⟩:=hl;have hT:s.TypeIs (.ref it) "tuple_iterator":=⟨o,ho,hc⟩;refine zC1 (wpAny_callSpecial?_slot (name:=ofString "__next__") hT PySem.F.slot_tuple_iterator_next
   (wpAny_call_entry PySem.F.slot_tuple_iterator_next hT PySem.F.entry_tuple_iterator_next ?_ (PySem.F.args_tuple_iterator_next_1 _)))
  refine (?_:wpAny _ _ (field (.ref it) 0 >>= _) _ _ s);refine (bFi ho hd (x:=.ref l) rfl ?_);refine wpAny_ite_false (c:=(Value.ref l==Value.none)=true) rfl ((bFi ho hd (x:=.int i 0) rfl ?_));refine (?_:wpAny _ _ (seqItems? (.ref l) >>= _) _ _ s);refine zC1 (wpAny_seqItems F5 EG ?_);dsimp only;refine (hx:items[(i:Int).toNat]?=_).symm▸(bRu (zC1 (wpAny_setField ho hd (by simp) ?_)));refine (?_:wpAny _ _ (newExc (.type "StopIteration") [] >>= _) _ _ _);refine zC1 (zC1 (wpAny_newObj_type (zC1 (wpAny_of_eq (a:=Value.none) rfl (wpAny_newObj_type ?_ (by size_fits)))) (by size_fits)));refine wpAny_raiseNew_none (hh:A.in1.handled=none) ?_;exact hE _ _ (((SameBut.update ..).extBut.push _).push _) ⟨_,J0 _ rfl,rfl⟩
def xZ:0 < 5:=by decide
def BO:1 < 5:=by decide
def pW (hh:A.handled=none) (D:ZipApart z TI TO i1 i2 l1 l2)
  (hz:IsZip s.heap z TI TO .none) (hTI:IsPair s.heap TI (.ref i1) (.ref i2)) (hTO:IsPair s.heap TO a b)
  (h1:fg s.heap c1 i1 l1 k) (h2:fg s.heap c2 i2 l2 k) (hl1:dX s.heap c1 l1 xs) (hl2:dX s.heap c2 l2 ys)
  (hQ:∀ x y h',xs[k]?=some x->ys[k]?=some y->IsZip h' z TI TO (rawInt s.heap.objs.size)->IsPair h' TO x y->fg h' c1 i1 l1 (k+1)->fg h' c2 i2 l2 (k+1)->IsPair h' s.heap.objs.size x y ->
   (∀ c o,c≠z->c≠TO->c≠i1->c≠i2->s.heap.get? c=some o->h'.get? c=some o)->Q (.done (.ret (.ref s.heap.objs.size))) { s with heap:=h' })
  (hE:(xs[k]?=none\/ys[k]?=none)->∀ h' e,(∀ c o,c≠z->c≠TO->c≠i1->c≠i2->s.heap.get? c=some o->h'.get? c=some o)->(∃ o,h'.get? e=some o/\o.cls=.type "StopIteration")->E (.ref e) { s with heap:=h' }) :
  wpAny (model prog w) A (Builtin.«zip.__next__» ⟨[.ref z],[]⟩) Q E s:=by
 have Cr:∀ {h:Heap} {e:Addr} {oe:Obj},IsZip h z TI TO .ellipsis->h.get? e=some oe->oe.cls=.type "StopIteration"->e≠z:=fun Dp EZ E3 x=>by
  subst x; (injection Dp.symm.trans EZ with Xq; subst Xq); exact absurd (show Value.type "zip"=Value.type "StopIteration" from E3) (by decide)
 refine (?_:wpAny _ _ (field (.ref z) 2 >>= _) _ _ _);refine (bFi hz rfl (x:=.bool false) rfl ?_);refine (?_:wpAny _ _ (field (.ref z) 3 >>= _) _ _ _);refine (bFi hz rfl (x:=.ref TI) rfl ?_);refine zC1 (wpAny_seqItems hTI rfl ?_);refine wpAny_bind (m:=Builtin.SmallTypes.ownedTupleIsFree (.ref z)) ((bFi hz rfl (x:=.none) rfl (zC2 ?_)));refine wpAny_ite_true rfl ((bRu ?_));refine (bFi hz rfl (x:=.ref TO) rfl ?_);refine zC1 (wpAny_setField_rec hz xZ fun Cs Dq Cu=>?_);replace Dq:IsZip Cs z TI TO .ellipsis:=Dq;refine zC1 ?_;simp only [List.zipIdx_cons,List.zipIdx_nil,forIn_cons,List.forIn_nil];refine zC1 (zC1 (wpAny_onRaise ?_));refine (?_:wpAny _ _ (Builtin.SmallTypes.nextOf (.ref i1) >>= _) _ _ _);cases hx:xs[k]? with
 | none=>
  refine zC1 (im hh (h1.at fun o e=>Cu.extBut _ o D.i1z e) (hl1.at fun o e=>Cu.extBut _ o D.l1z e) hx fun Df e Cz ⟨oe,EZ,E3⟩=>?_);have Dp:IsZip Df z TI TO .ellipsis:=Cz _ _ D.i1z.symm Dq;exact wpAny_setField_rec Dp xZ fun CH U Cy=>hE (.inl hx) CH e (fun c o c1 U c3 U x=>Cy.extBut _ _ c1 (Cz _ _ c3 (Cu.extBut _ _ c1 x))) ⟨oe,Cy.extBut _ _ (Cr Dp EZ E3) EZ,E3⟩
 | some x=>
 refine zC1 (gF (h1.at fun o e=>Cu.extBut _ o D.i1z e) (hl1.at fun o e=>Cu.extBut _ o D.l1z e) hx fun Df Gq Cz=>zC2 ?_);have D4:IsPair Df TO a b:=Cz.extBut _ _ D.TOi1 (Cu.extBut _ _ D.TOz hTO);refine zC1 (wpAny_seqItems D4 rfl ?_);refine zC1 (wpAny_updateSeq_pair D4 fun CH Dk Cy=>?_);replace Dk:IsPair CH TO x b:=Dk;refine zC1 (wpAny_letGo (zC2 ?_));refine zC1 (zC1 (wpAny_onRaise ?_));refine (?_:wpAny _ _ (Builtin.SmallTypes.nextOf (.ref i2) >>= _) _ _ _);have EI:fg CH c2 i2 l2 k:=h2.at fun o e=>Cy.extBut _ o D.TOi2.symm (Cz.extBut _ o D.i12.symm (Cu.extBut _ o D.i2z e));have DZ:dX CH c2 l2 ys:=hl2.at fun o e=>Cy.extBut _ o D.l2TO (Cz.extBut _ o D.l2i1 (Cu.extBut _ o D.l2z e));have Ez:IsZip CH z TI TO .ellipsis:=Cy.extBut _ _ D.TOz.symm (Cz.extBut _ _ D.i1z.symm Dq);have EE:∀ c o,c≠z->c≠TO->c≠i1->s.heap.get? c=some o->CH.get? c=some o:=fun c o c1 c2 c3 e=>Cy.extBut _ _ c2 (Cz.extBut _ _ c3 (Cu.extBut _ _ c1 e));cases hy:ys[k]? with
 | none=>
  refine zC1 (im hh EI DZ hy fun DS e CD ⟨oe,EZ,E3⟩=>?_);have Ey:IsZip DS z TI TO .ellipsis:=CD _ _ D.i2z.symm Ez;exact wpAny_setField_rec Ey xZ fun CO U CC=>hE (.inr hy) CO e (fun c o c1 c2 c3 c4 x=>CC.extBut _ _ c1 (CD _ _ c4 (EE c o c1 c2 c3 x))) ⟨oe,CC.extBut _ _ (Cr Ey EZ E3) EZ,E3⟩
 | some y=>
 refine zC1 (gF EI DZ hy fun DS Gp CD=>zC2 ?_);have D3:IsPair DS TO x b:=CD.extBut _ _ D.TOi2 Dk;refine zC1 (wpAny_seqItems D3 rfl ?_);refine zC1 (wpAny_updateSeq_pair D3 fun CO C5 CC=>?_);replace C5:IsPair CO TO x y:=C5;refine zC1 (wpAny_letGo (zC2 (zC2 ?_)));refine zC1 (wpAny_seqItems C5 rfl ?_);refine zC1 (wpAny_newTuple ?_);have hsz:CO.objs.size=s.heap.objs.size:=CC.1.trans (CD.1.trans (Cy.1.trans (Cz.1.trans Cu.1)));have Ex:IsZip CO z TI TO .ellipsis:=CC.extBut _ _ D.TOz.symm (CD.extBut _ _ D.i2z.symm Ez);have hn:CO.objs.size≠z:=ne_of_gt (lt_size Ex);refine wpAny_bind (m:=Builtin.SmallTypes.ownedTupleHandOut (.ref z) (.ref CO.objs.size)) (zC1 (wpAny_setField_rec (J7 _ Ex) xZ fun Ef FP EC=>?_));refine wpAny_setField_rec FP BO fun FM FO EB=>?_;have up:∀ c o,c≠z->CO.get? c=some o->FM.get? c=some o:=fun c o c1 e=>EB.extBut _ _ c1 (EC.extBut _ _ c1 (J7 _ e));refine zC2 ?_;have fin:=hQ x y FM hx hy;rw [<- hsz] at fin;exact fin FO (up _ _ D.TOz C5) (Gq.at fun o e=>up _ o D.i1z (CC.extBut _ o D.TOi1.symm (CD.extBut _ o D.i12 (Cy.extBut _ o D.TOi1.symm e)))) (Gp.at fun o e=>up _ o D.i2z (CC.extBut _ o D.TOi2.symm e))
  (EB.extBut _ _ hn (EC.extBut _ _ hn (J0 _ rfl))) fun c o c1 c2 c3 c4 e=>up c o c1 (CC.extBut _ _ c2 (CD.extBut _ _ c4 (EE c o c1 c2 c3 e)))
end
def mc {P:Addr->Prop} (h:P a) (t:∀ x∈l,P x):∀ x∈a :: l,P x:=zA1 ⟨h,t⟩
def Ar {P:Addr->Prop} (h1:P a) (h2:P b) (h3:P c) (h4:P d):∀ x∈[a,b,c,d],P x:=mc h1 (mc h2 (mc h3 (mc h4 fun U m=>nM m)))
def By {P:Addr->Prop} (h1:P a) (h2:P b) (h3:P c) (h4:P d) (h5:P e) (h6:P f) (h7:P g):∀ x∈[a,b,c,d,e,f,g],P x:=mc h1 (mc h2 (mc h3 (Ar h4 h5 h6 h7)))
def nm4 (h:x∉[a,b,c,d]):x≠a/\x≠b/\x≠c/\x≠d:=
 ⟨fun e=>h (e▸.head _),fun e=>h (e▸.tail _ (.head _)),fun e=>h (e▸.tail _ (.tail _ (.head _))),fun e=>h (e▸.tail _ (.tail _ (.tail _ (.head _))))⟩
theorem RpAll.unapp:∀ {l:List V},u.length=l.length->RpAll g bad h (u++v) (l++m)->RpAll g bad h u l/\RpAll g bad h v m:=by
 induction u with
 | nil=>intro l e x; obtain rfl:=length_eq_zero_iff.mp e.symm; exact ⟨.nil,x⟩
 | cons a u ih=>
  intro l e x;cases l with
  | nil=>exact nomatch e
  | cons b l=>cases x with | cons y x=>exact (ih (Nat.succ.inj e) x).imp_left (.cons y)
structure ZipSt (c1 c2:Bool) (z TI TO i1 i2 l1 l2:Addr) (xs ys:Array Value) (i:Nat) (h:Heap):Prop where
 z:IsZip h z TI TO .none
 ti:IsPair h TI (.ref i1) (.ref i2)
 to:∃ a b,IsPair h TO a b
 h1:fg h c1 i1 l1 i
 h2:fg h c2 i2 l2 i
 hl1:dX h c1 l1 xs
 hl2:dX h c2 l2 ys
def sZ {l r:List V} {i:Nat} (e:(og l r)[i]?=some x):∃ a b,l[i]?=some a/\r[i]?=some b/\x=.tuple [a,b]:=by
 unfold og at e;rw [List.getElem?_zipWith] at e
 revert e
 cases l[i]? with
 | none=>exact fun e=>nN e.symm
 | some a=>cases r[i]? with
  | none=>exact fun e=>nN e.symm
  | some b=>exact fun e=>⟨_,_,rfl,rfl,(Option.some.inj e).symm⟩
def gu (l r:List V):(og l r).length=min l.length r.length:=List.length_zipWith
def uv (hh:A.handled=none) {Dm:List Expr} {kk:Nat} {c1 c2:Bool} (D:ZipApart z TI TO i1 i2 l1 l2) (xs ys:Array Value) (la lb:List V) (hla:xs.size=la.length) (hlb:ys.size=lb.length) :
  Feed g A (.Tuple Dm kk pos) z [z,TI,TO,i1,i2,l1,l2] [z,TO,i1,i2] (xs.toList++ys.toList) (la++lb) (og la lb) (ZipSt c1 c2 z TI TO i1 i2 l1 l2 xs ys) where
 sub:=Ar (.head _) (.tail _ (.tail _ (.head _))) (.tail _ (.tail _ (.tail _ (.head _)))) (.tail _ (.tail _ (.tail _ (.tail _ (.head _)))))
 frame:=fun i h h' st hk=>st.to.elim fun a ⟨b,e⟩=>
  have m4:TO∈[z,TI,TO,i1,i2,l1,l2]:=.tail _ (.tail _ (.head _));have t:∀ x∈[i1,i2,l1,l2],∀ o,h.get? x=some o->h'.get? x=some o:=fun x m=>hk x (.tail _ (.tail _ (.tail _ m)))
  ⟨hk z (.head _) _ st.z,hk TI (.tail _ (.head _)) _ st.ti,⟨a,b,hk TO m4 _ e⟩,st.h1.at (t _ (.head _)),st.h2.at (t _ (.tail _ (.head _))),st.hl1.at (t _ (.tail _ (.tail _ (.head _)))),st.hl2.at (t _ (.tail _ (.tail _ (.tail _ (.head _)))))⟩
 live:=fun i h b st hb=>st.to.elim fun a ⟨b',EW⟩=>By (P:=aI h) ⟨_,st.z⟩ ⟨_,st.ti⟩ ⟨_,EW⟩ st.h1.lt.1 st.h2.lt.1 st.hl1.live st.hl2.live b hb
 item:=fun i x s bad Q E hx st hv hb hw hQ=>by
  obtain ⟨xa,xb,ha,hbb,rfl⟩:=sZ hx;have hv:=RpAll.unapp hla hv;obtain ⟨va,GY,ra⟩:=hv.1.get ha;obtain ⟨vb,GX,rb⟩:=hv.2.get hbb;replace GY:=Ja.symm.trans GY;replace GX:=Ja.symm.trans GX;obtain ⟨a,b,EW⟩:=st.to;have hT:s.TypeIs (.ref z) "zip":=⟨_,st.z,rfl⟩;unfold pyNext;refine zC1 (wpAny_attempt (wpAny_callSpecial?_slot (name:=ofString "__next__") hT PySem.F.slot_zip_next
   (wpAny_call_entry PySem.F.slot_zip_next hT PySem.F.entry_zip_next
    (pW hh D st.z st.ti EW st.h1 st.h2 st.hl1 st.hl2 (fun x y h' ex ey a1 a2 a3 a4 a5 hk=>⟨_,rfl,zC2 ?_⟩) fun q=>q.elim (fun q=>nomatch GY.symm.trans q) fun q=>nomatch GX.symm.trans q) (PySem.F.args_zip_next_1 _))))
  (injection GY.symm.trans ex with Xq; subst Xq);(injection GX.symm.trans ey with Xq; subst Xq);refine ⟨_,rfl,wpAny_letOwnedTupleGo_zip a1 fun Eo hz' C1=>?_⟩;have up:∀ c o,c∉[z,TO,i1,i2]->s.heap.get? c=some o->Eo.get? c=some o:=fun c o hc e=>
   have hc:=nm4 hc
   C1.extBut _ _ hc.1 (hk c o hc.1 hc.2.1 hc.2.2.1 hc.2.2.2 e)
  have Cq:s.heap.objs.size≠z:=ne_of_gt (lt_size st.z);have kb:a7 bad bad s.heap Eo:=fun c o e nb=>⟨nb,up c o (fun m=>nb (hw c m)) e⟩;refine hQ _ Eo s.toks ⟨hz',?_,⟨_,_,C1.extBut _ _ D.TOz a2⟩,a3.at fun o e=>C1.extBut _ o D.i1z e,a4.at fun o e=>C1.extBut _ o D.i2z e,?_,?_⟩ up (.tuple (fun q=>by obtain ⟨o,e⟩:=hb _ q; rw [ag] at e; (injection e; done)) (C1.extBut _ _ Cq a5) rfl rfl ?_)
  ·exact C1.extBut _ _ D.TIz (hk _ _ D.TIz D.TITO D.TIi1 D.TIi2 st.ti)
  ·exact st.hl1.at fun o e=>C1.extBut _ o D.l1z (hk _ o D.l1z D.l1TO D.l1i1 D.l1i2 e)
  ·exact st.hl2.at fun o e=>C1.extBut _ o D.l2z (hk _ o D.l2z D.l2TO D.l2i1 D.l2i2 e)
  ·exact .cons (ra.map kb) (.cons (rb.map kb) .nil)
 done:=fun s Q E st hQ=>by
  obtain ⟨a,b,EW⟩:=st.to;have hT:s.TypeIs (.ref z) "zip":=⟨_,st.z,rfl⟩;unfold pyNext;refine zC1 (wpAny_attempt (wpAny_callSpecial?_slot (name:=ofString "__next__") hT PySem.F.slot_zip_next
   (wpAny_call_entry PySem.F.slot_zip_next hT PySem.F.entry_zip_next (pW hh D st.z st.ti EW st.h1 st.h2 st.hl1 st.hl2 (fun x y h' ex ey U U U U U U=>?_) fun U h' e hk he=>?_) (PySem.F.args_zip_next_1 _))))
  ·exact absurd (Nat.lt_min.mpr ⟨hla▸(Array.getElem?_eq_some_iff.mp ex).1,hlb▸(Array.getElem?_eq_some_iff.mp ey).1⟩) (not_lt.mpr (zB2 (gu la lb).symm))
  ·obtain ⟨o,ho,hc⟩:=he;refine zC1 (wpAny_isInstance (T:="StopIteration") (b:=true) ⟨o,ho,hc⟩ isSubtype_stop ?_);refine zC2 ⟨rfl,hQ _ s.toks fun c o hc e=>?_⟩;have hc:=nm4 hc;exact hk c o hc.1 hc.2.1 hc.2.2.1 hc.2.2.2 e
 self:=fun i s Q E st hQ=>wpAny_pyIter_zip st.z hQ
section
variable {A:Around} {E:Value->Shared->Prop} {s:Shared}
noncomputable def oG (c:Bool) (l:Addr):Obj:={ cls:=.type (if c then "list_iterator" else "tuple_iterator"),data:=.fields #[.ref l,.int 0 0] }
def nC (e:h.get? i=some (oG c l)):fg h c i l 0:=by
 cases c
 ·exact ⟨_,e,rfl,rfl⟩
 ·exact ⟨_,e,rfl,rfl⟩
def jP (h:dX s.heap c l xs) (hQ:Q (.ref s.heap.objs.size) { s with heap:=s.heap.push (oG c l) }):wpAny (model prog w) A (pyIter (.ref l)) Q E s:=by
 cases c
 ·exact wpAny_pyIter_tuple h hQ
 ·exact wpAny_pyIter_list h hQ
noncomputable def zH1 (h:Heap) (c1:Bool) (l1:Addr):Heap:=h.push (oG c1 l1)
noncomputable def zH2 (h:Heap) (c1 c2:Bool) (l1 l2:Addr):Heap:=(zH1 h c1 l1).push (oG c2 l2)
noncomputable def zH3 (h:Heap) (c1 c2:Bool) (l1 l2:Addr):Heap:=(zH2 h c1 c2 l1 l2).push { cls:=.type "tuple",data:=.seq #[.ref h.objs.size,.ref (zH1 h c1 l1).objs.size] }
noncomputable def zH4 (h:Heap) (c1 c2:Bool) (l1 l2:Addr):Heap:=(zH3 h c1 c2 l1 l2).push { cls:=.type "tuple",data:=.seq #[.none,.none] }
noncomputable def zH5 (h:Heap) (c1 c2:Bool) (l1 l2:Addr):Heap:=(zH4 h c1 c2 l1 l2).push { cls:=.type "zip",data:=.fields #[.none,.bool false,.bool false,.ref (zH2 h c1 c2 l1 l2).objs.size,.ref (zH3 h c1 c2 l1 l2).objs.size] }
def rD (c1 c2:Bool) (l1 l2:Addr) (xs ys:Array Value) :
  Meets (Builtin.«zip.__new__» ⟨[.type "zip",.ref l1,.ref l2],[]⟩) (fun U R s=>dX s.heap c1 l1 xs/\dX s.heap c2 l2 ys /\
   R (.ok (.ret (.ref (zH4 s.heap c1 c2 l1 l2).objs.size))) { s with heap:=zH5 s.heap c1 c2 l1 l2 }):=
 .of_wp fun prog w A R s h=>by
  obtain ⟨hp,g,d,tk,os⟩:=s; obtain ⟨hl1,hl2,h⟩:=h;have FS:=sub_zip;have hL1:dX (Shared.heap ⟨hp,g,d,tk,os⟩) c1 l1 xs:=hl1;have hL2:dX (Shared.heap ⟨hp.push (oG c1 l1),g,d,tk,os⟩) c2 l2 ys:=hl2.at fun o e=>J7 _ e
  wp_walk using jP hL1,jP hL2
  exact ⟨_,rfl,h⟩
def tX (hl1:dX s.heap c1 l1 xs) (hl2:dX s.heap c2 l2 ys)
  (h:∀ h',IsZip h' (s.heap.objs.size+4) (s.heap.objs.size+2) (s.heap.objs.size+3) .none->IsPair h' (s.heap.objs.size+2) (.ref s.heap.objs.size) (.ref (s.heap.objs.size+1)) ->
   IsPair h' (s.heap.objs.size+3) .none .none->fg h' c1 s.heap.objs.size l1 0->fg h' c2 (s.heap.objs.size+1) l2 0 ->
   (∀ c o,s.heap.get? c=some o->h'.get? c=some o)->Q (.ref (s.heap.objs.size+4)) { s with heap:=h' }) :
  wpAny (model prog w) A (call (.type "zip") [.ref l1,.ref l2]) Q E s:=by
 refine callType_new PySem.F.called_zip (by decide) (PySem.F.typeCall_zip_2 _ _) (PySem.F.newCall_zip_2 _ _) (fun obj=>PySem.F.args_object_init_3 obj _ _) PySem.F.entry_zip_new
  (rD c1 c2 l1 l2 xs ys) ⟨hl1,hl2,?_⟩
 have z1:(zH1 s.heap c1 l1).objs.size=s.heap.objs.size+1:=size_push ..;have z2:(zH2 s.heap c1 c2 l1 l2).objs.size=s.heap.objs.size+2:=by unfold zH2; rw [size_push,z1]
 have z3:(zH3 s.heap c1 c2 l1 l2).objs.size=s.heap.objs.size+3:=by unfold zH3; rw [size_push,z2]
 have z4:(zH4 s.heap c1 c2 l1 l2).objs.size=s.heap.objs.size+4:=by unfold zH4; rw [size_push,z3]
 have g5:(zH5 s.heap c1 c2 l1 l2).get? (zH4 s.heap c1 c2 l1 l2).objs.size=some _:=J0 _ rfl;have g4:(zH5 s.heap c1 c2 l1 l2).get? (zH3 s.heap c1 c2 l1 l2).objs.size=some _:=J7 _ (J0 _ rfl);have g3:(zH5 s.heap c1 c2 l1 l2).get? (zH2 s.heap c1 c2 l1 l2).objs.size=some _:=J7 _ (J7 _ (J0 _ rfl));have g2:(zH5 s.heap c1 c2 l1 l2).get? (zH1 s.heap c1 l1).objs.size=some _:=J7 _ (J7 _ (J7 _ (J0 _ rfl)));have g1:(zH5 s.heap c1 c2 l1 l2).get? s.heap.objs.size=some _:=J7 _ (J7 _ (J7 _ (J7 _ (J0 _ rfl))));refine (?_:_/\_);rw [z2,z3,z4] at g5;rw [z1,z2] at g3;rw [z3] at g4;rw [z1] at g2;rw [z4];exact ⟨⟨_,g5,rfl⟩,h _ g5 g3 g4 (nC g1) (nC g2) fun c o x=>
  J7 _ (J7 _ (J7 _ (J7 _ (J7 _ x))))⟩
end
def Aj (n a b:Nat) (h1:a < n) (h2:b < n):ZipApart (n+4) (n+2) (n+3) n (n+1) a b:=by
 have q:∀ {i j:Nat},i≠j->n+i≠n+j:=fun h e=>h (Nat.add_left_cancel e);have p:∀ {i x:Nat},x < n->x≠n+i:=fun h=>ne_of_lt (J6 h (le_add_right _ _));constructor <;> first | exact p (i:=0) h1 | exact p h1 | exact p (i:=0) h2 | exact p h2 | exact q (by decide) | exact q (i:=0) (by decide) | exact q (j:=0) (by decide)
section
variable {Φ:Ct} {E:Value->Shared->Prop} {s:Shared} {st:Bool}
def xU (e:fC x=some l) (r:Φ.rp s.heap v x):∃ c a xs,v=.ref a/\dX s.heap c a xs/\Φ.rps s.heap xs.toList l/\xs.size=l.length/\¬ Φ.bad a/\l.length<=ac:=
 jS (C:=fun x l=>Φ.rp s.heap v x->∃ c a xs,v=.ref a/\dX s.heap c a xs/\Φ.rps s.heap xs.toList l/\xs.size=l.length/\¬ Φ.bad a/\l.length<=ac) e
  (fun l hz r=>r.list_elim fun a o vs n hb ha hc hd hl=>⟨true,a,vs,rfl,⟨_,ha,hc.1,_,hd⟩,hl,aR hl,hb,hz⟩) (fun l hz r=>r.tuple_elim fun a o vs n hb ha hc hd hl=>⟨false,a,vs,rfl,⟨_,ha,hc,_,hd⟩,hl,aR hl,hb,hz⟩) r
def uf (I:Inv Φ s) (e1:fC x=some la) (e2:fC y=some lb) (r1:Φ.rp s.heap v1 x) (r2:Φ.rp s.heap v2 y):dw Φ (.Tuple Dm kk pos) st s E "zip" (og la lb) [v1,v2]:=by
 obtain ⟨c1,a1,xs,rfl,h1,rr1,Hn,nb1,sz1⟩:=xU e1 r1;obtain ⟨c2,a2,ys,rfl,h2,rr2,Hm,nb2,_⟩:=xU e2 r2;refine tX h1 h2 fun h' hz hti EW hi1 hi2 hk=>wpAny_pyIter_zip hz ⟨⟨hk,rfl,rfl⟩,?_⟩;have fresh:∀ k,s.heap.get? (s.heap.objs.size+k)=none:=fun k=>by
  cases e:s.heap.get? (s.heap.objs.size+k) with
  | none=>rfl
  | some o=>exact absurd (lt_size e) (not_lt.mpr (le_add_right _ _))
 have lt1:a1 < s.heap.objs.size:=by obtain ⟨o,e⟩:=h1.live; exact lt_size e
 have lt2:a2 < s.heap.objs.size:=by obtain ⟨o,e⟩:=h2.live; exact lt_size e
 have D:ZipApart (s.heap.objs.size+4) (s.heap.objs.size+2) (s.heap.objs.size+3) s.heap.objs.size (s.heap.objs.size+1) a1 a2:=Aj _ _ _ lt1 lt2;refine ⟨_,_,_,_,_,_,rfl,uv I.ok.hand (c1:=c1) (c2:=c2) D xs ys la lb Hn Hm,⟨hz,hti,⟨_,_,EW⟩,hi1,hi2,h1.at fun o e=>hk _ o e,h2.at fun o e=>hk _ o e⟩,rr1.append rr2,Ar (fresh 4) (fresh 3) (fresh 0) (fresh 1),By (.inl (fresh 4)) (.inl (fresh 2)) (.inl (fresh 3)) (.inl (fresh 0)) (.inl (fresh 1)) (.inr fun U=>nb1) (.inr fun U=>nb2),gu la lb▸zB1 (Nat.min_le_left _ _) sz1⟩
def wc {qs:List (Expr×DV)} {Dm:List Expr} {kk:Nat} (hx:bK Φ.fx.env.scope.names "zip"=true) (hq:∀ q∈qs,aj q.1=true/\bi Φ q) :
  eX Φ (.Tuple Dm kk tp) st (.Call (.Name "zip" fp) (qs.map Prod.fst) [] pos) (fun K=>bn (qs.map Prod.snd) fun xs=>okK (opN .zip xs) fun z=>okK (bM z) K):=
 mP (F:="zip") hx rfl hq fun s vs xs z l E I rs e el=>tj (C:=dw Φ (.Tuple Dm kk tp) st s E "zip" l) e rs fun v u x y r1 r2 e=>(bind_eq_some_iff.mp e).elim fun la ⟨h1,e⟩=>map_elim (C:=fun z=>bM z=some l->dw Φ (.Tuple Dm kk tp) st s E "zip" l [v,u]) e (fun lb h2 el=>fit_elim (C:=fun l=>dw Φ (.Tuple Dm kk tp) st s E "zip" l [v,u]) el fun U=>uf I h1 h2 r1 r2) el
end
def af (h:x=none) (e:x=some a):False:=nomatch h.symm.trans e
def gP (h:Heap) (p:Pl) (v:Option Value) (h':Heap):Prop:=match p with
 | .ns a x=>(∃ m,h.Ns a m/\h'.Ns a (fun y=>if y=x then v else m y))/\SameBut a h h'
 | .cell c=>h'.IsCell c v/\SameBut c h h'
 | .off=>False
section
variable {Φ Φ':Ct} {s s' B0:Shared} {h h':Heap}
def dO (I:Inv Φ s) (hx:Φ.fx.ρ.lookup x=some k) (HG:Φ.fx.env.kindOf x≠some .free) (h:∀ h' tk,gP s.heap (Φ.fx.pl k) (some v) h'->Q () { s with heap:=h',toks:=tk }):Φ.wp (storeName Φ.fx.env x v) Q s:=fun E=>by
 obtain ⟨u,pr,_⟩:=I.slot k;rcases I.ok.vis x k hx with ⟨hl,hp⟩ | ⟨hl,c,hc,hp⟩
 ·rw [hp] at pr h;obtain ⟨m,GJ,hv⟩:=pr;exact wpAny_storeName_local hl GJ (fun h' Dr C1=>h h' _ ⟨⟨m,GJ,Dr⟩,C1⟩) (by rw [I.ok.kind]; rfl)
 ·rw [hp] at pr h;rcases hl with hl | hl
  ·exact wpAny_storeName_cell I.ok.kind hl hc pr fun h' C4 C1=>h h' s.toks ⟨C4,C1⟩
  ·exact absurd hl HG
theorem gP.addr (ps:gP h p v h'):∃ a,p.addr=some a/\SameBut a h h'/\aI h' a:=by
 cases p with
 | ns a x=>obtain ⟨⟨m,_,hn⟩,hs⟩:=ps; obtain ⟨o,es,ep,ho,_⟩:=hn; exact ⟨a,rfl,hs,⟨o,ho⟩⟩
 | cell c=>obtain ⟨⟨o,ho,hd⟩,hs⟩:=ps; exact ⟨c,rfl,hs,⟨o,ho⟩⟩
 | off=>exact ps.elim
theorem gP.self (ps:gP h p v h'):aw h' p v:=by
 cases p with
 | ns a x=>obtain ⟨⟨m,_,hn⟩,hs⟩:=ps; exact ⟨_,hn,if_pos rfl⟩
 | cell c=>exact ps.1
 | off=>exact ps.elim
theorem gP.other (ps:gP h p v h') (Cr:q≠p) (ap:∀ a x c,(p=.ns a x/\q=.cell c)\/(q=.ns a x/\p=.cell c)->a≠c) (r:aw h q u):aw h' q u:=by
 cases p with
 | ns a x=>
  obtain ⟨⟨m,hm,hn⟩,hs⟩:=ps;cases q with
  | ns b y=>
   obtain ⟨m',ED,hu⟩:=r;by_cases e:b=a
   ·subst e;refine ⟨_,hn,?_⟩;rw [if_neg fun q=>Cr (by rw [q])];refine aQ fun Z17 Hs=>?_;obtain ⟨o,es,ep,ho,hd,_,hf⟩:=hm;obtain ⟨o',Ds,ep',CA,Cv,_,E2⟩:=ED;refine Hs ?_;replace CA:=ho▸CA; (injection CA with CA; subst CA);replace Cv:=hd▸Cv; (injection Cv with Cv; subst Cv);rw [<- hf,E2]; exact hu
   ·exact ⟨m',ED.sameBut hs e,hu⟩
  | cell c=>obtain ⟨o,ho,hd⟩:=r; exact ⟨o,hs.extBut c o (Ne.symm (ap a x c (.inl ⟨rfl,rfl⟩))) ho,hd⟩
  | off=>exact r
 | cell c=>
  obtain ⟨hc,hs⟩:=ps;cases q with
  | ns b y=>obtain ⟨m',ED,hu⟩:=r; exact ⟨m',ED.sameBut hs (ap b y c (.inr ⟨rfl,rfl⟩)),hu⟩
  | cell d=>obtain ⟨o,ho,hd⟩:=r; exact ⟨o,hs.extBut d o (fun q=>Cr (by rw [q])) ho,hd⟩
  | off=>exact r
 | off=>exact ps.elim
theorem dF.refl (F:List (List Addr)):dF F F:=fun j fa e=>⟨[],by rw [append_nil]; exact e⟩
theorem dF.trans (x:dF F F') (y:dF F' F''):dF F F'':=fun j fa e=>by
 obtain ⟨r,e⟩:=x j fa e;obtain ⟨r',e⟩:=y j _ e;exact ⟨r++r',by rw [<- append_assoc]; exact e⟩
noncomputable def isI:Slot->Prop
 | .ownI _=>True
 | _=>False
structure TrS (Φ:Ct) (s:Shared) (Φ':Ct) (s':Shared) (k:Nat):Prop where
 inst:∀ a F,Φ'.oa k=[a] :: F->isI (getSlot Φ'.G k)->∃ CS,Φ.oa k=[a] :: CS/\isI (getSlot Φ.G k)
 set:getSlot Φ'.G k=.unset->getSlot Φ.G k=.unset
 objs:∀ o',getSlot Φ'.G k=.obj o'->getSlot Φ.G k≠.unset->∃ o,getSlot Φ.G k=.obj o/\dF (Φ.oa k) (Φ'.oa k)/\∀ u,aw s.heap (Φ.fx.pl k) (some u)->aw s'.heap (Φ.fx.pl k) (some u)
structure Tr (Φ:Ct) (s:Shared) (Φ':Ct) (s':Shared):Prop where
 fx:Φ'.fx=Φ.fx
 keep:∀ b o,s.heap.get? b=some o->¬ Φ.own b->s'.heap.get? b=some o
 live:∀ b,aI s.heap b->aI s'.heap b
 grow:∀ a,aI s.heap a->Φ'.own a->Φ.own a
 sl:∀ k,TrS Φ s Φ' s' k
theorem TrS.same (e1:Φ'.oa k=Φ.oa k) (e2:getSlot Φ'.G k=getSlot Φ.G k) (e3:∀ u,aw s.heap (Φ.fx.pl k) u->aw s'.heap (Φ.fx.pl k) u):TrS Φ s Φ' s' k:=
 ⟨fun a F q i=>⟨F,e1▸q,e2▸i⟩,fun q=>e2▸q,fun o' q U=>⟨o',e2▸q,e1.symm▸.refl _,fun u=>e3 _⟩⟩
theorem Tr.trans (x:Tr Φ s Φ₂ w') (y:Tr Φ₂ w' Φ₃ Cw):Tr Φ s Φ₃ Cw where
 fx:=y.fx.trans x.fx
 keep:=fun b o e n=>y.keep b o (x.keep b o e n) fun q=>n (x.grow b ⟨o,e⟩ q)
 live:=fun b l=>y.live b (x.live b l)
 grow:=fun a l q=>x.grow a l (y.grow a (x.live a l) q)
 sl:=fun k=>⟨fun a F e q=>((y.sl k).inst a F e q).elim fun CS z=>(x.sl k).inst a CS z.1 z.2,fun q=>(x.sl k).set ((y.sl k).set q),fun o' q n=>by
  obtain ⟨o2,e2,g2,p2⟩:=(y.sl k).objs o' q fun z=>n ((x.sl k).set z);obtain ⟨o1,e1,g1,p1⟩:=(x.sl k).objs o2 e2 n;exact ⟨o1,e1,g1.trans g2,fun u r=>by have:=p2 u; rw [x.fx] at this; exact this (p1 u r)⟩⟩
theorem Tr.of_keeps (k:ah s.heap s'.heap):Tr Φ s Φ s':=⟨rfl,fun b o e U=>k b o e,fun U=>k.live,fun U U q=>q,fun j=>.same rfl rfl fun U r=>r.keep k⟩
theorem Tr.refl (Φ:Ct) (s:Shared):Tr Φ s Φ s:=.of_keeps (.refl _)
theorem Tr.mapK (t:Tr Φ s Φ' s'):a7 Φ.bad Φ'.bad s.heap s'.heap:=fun a o e n=>
 ⟨fun b=>b.elim (fun b=>n (.inl (t.fx▸b))) fun b=>n (.inr (t.grow a ⟨o,e⟩ b)),t.keep a o e fun q=>n (.inr q)⟩
def aT {G:Gs} {k:Nat} {x:Slot} (hk:k < G.length):getSlot (G.set k x) k=x:=by
 unfold getSlot; rw [getD_eq_getElem?_getD,getElem?_set_self hk]; rfl
def cA (h:j≠k):getSlot (G.set k x) j=getSlot G j:=by
 unfold getSlot; rw [getD_eq_getElem?_getD,getD_eq_getElem?_getD,getElem?_set_ne (Ne.symm h)]
noncomputable def Ct.put (Φ:Ct) (k:Nat) (oak:List (List Addr)) (sl:Slot):Ct:=⟨Φ.fx,fun j=>if j=k then oak else Φ.oa j,Φ.G.set k sl⟩
def cJ (h:j≠k):(Φ.put k oak sl).oa j=Φ.oa j:=if_neg h
def put_self:(Φ.put k oak sl).oa k=oak:=if_pos rfl
def put_own (q:(Φ.put k oak sl).own a):a∈oak.flatten\/Φ.own a:=by
 rcases q with q | ⟨j,q⟩
 ·exact .inr (.inl q)
 ·by_cases e:j=k
  ·subst e; rw [put_self] at q; exact .inl q
  ·rw [cJ e] at q; exact .inr (.inr ⟨j,q⟩)
noncomputable def yg:Slot->Prop
 | .obj _=>True
 | _=>False
def pS (Dg:k < Φ.G.length) (h:∀ o',sl=.obj o'->∃ o,getSlot Φ.G k=.obj o/\dF (Φ.oa k) oak):∀ m j i u,Φ.al m j i u->(Φ.put k oak sl).al m j i u:=fun m j i u x o' e=>by
 have e:getSlot (Φ.G.set k sl) m=.obj o':=e;by_cases c:m=k
 ·subst c;rw [aT Dg] at e;obtain ⟨o,e1,g⟩:=h o' e;obtain ⟨fa,b,q1,q2,q3⟩:=x o e1;obtain ⟨r,q1⟩:=g j fa q1;exact ⟨fa++r,b,by rw [put_self]; exact q1,(getElem?_append_left (List.getElem?_eq_some_iff.mp q2).1).trans q2,q3⟩
 ·rw [cA c] at e;obtain ⟨fa,b,q1,q2,q3⟩:=x o' e;exact ⟨fa,b,by rw [cJ c]; exact q1,q2,q3⟩
def jE (I:Inv Φ s) (h:Φ.fx.pl k≠.off):k < Φ.G.length:=by
 rw [I.gl];exact J6 (Nat.lt_of_not_le fun q=>h (I.ok.offs k q)) I.ok.nfs
def qy {p:Pl} (h:p.addr=some a):p≠.off:=fun e=>by rw [e] at h; exact nN h.symm
def fT {p:Pl} (h:aw s.heap p (some u)):p≠.off:=fun e=>by rw [e] at h; exact nN h
def qw (I:Inv Φ s) (hn:∀ a∈oak.flatten,a∈(Φ.oa k).flatten\/¬ Φ.own a):(∀ i j a,a∈((Φ.put k oak sl).oa i).flatten->a∈((Φ.put k oak sl).oa j).flatten->i=j)/\∀ i a,a∈((Φ.put k oak sl).oa i).flatten->∀ j,(Φ.fx.pl j).addr≠some a:=by
 have one:∀ j a,j≠k->a∈(Φ.oa j).flatten->a∉oak.flatten:=fun j a e q z=>(hn a z).elim (fun z=>e (I.inj j k a q z)) fun z=>z (.inr ⟨j,q⟩);refine ⟨fun i j a q1 q2=>?_,fun i a q j z=>?_⟩
 ·by_cases h1:i=k
  ·by_cases h2:j=k
   ·exact h1.trans h2.symm
   ·subst h1; rw [put_self] at q1; rw [cJ h2] at q2; exact absurd q1 (one j a h2 q2)
  ·rw [cJ h1] at q1;by_cases h2:j=k
   ·subst h2; rw [put_self] at q2; exact absurd q2 (one i a h1 q1)
   ·rw [cJ h2] at q2; exact I.inj i j a q1 q2
 ·by_cases h1:i=k
  ·subst h1; rw [put_self] at q; exact (hn a q).elim (fun q=>I.off i a q j z) fun q=>q (.inl ⟨j,z⟩)
  ·rw [cJ h1] at q; exact I.off i a q j z
theorem aV.irr (r:aV g bad h al oak v sl) (n:gL sl=true):aV g bad h al' oak v sl:=by
 cases sl with
 | ali=>exact nB n
 | _=>exact r
theorem Inv.put (I:Inv Φ B0) (B:Base Φ.fx.g s) (k₀:ah B0.heap s.heap) (ps:gP s.heap (Φ.fx.pl k) v h')
  (so:aV Φ.fx.g (Φ.put k oak sl).bad h' (Φ.put k oak sl).al oak v sl) (Cq:∀ a∈oak.flatten,B0.heap.get? a=none/\aI h' a) (HF:¬ isI sl) (C':sl≠.unset) (DW:yg sl->getSlot Φ.G k=.unset/\∀ n,gL (getSlot Φ.G n)=true):Inv (Φ.put k oak sl) { s with heap:=h',toks:=tk }/\Tr Φ B0 (Φ.put k oak sl) { s with heap:=h',toks:=tk }:=by
 obtain ⟨a,ha,hs,hl⟩:=ps.addr;have Dg:k < Φ.G.length:=jE I (qy ha);have C2:Φ.own a:=.inl ⟨k,ha⟩;have kp:∀ b o,b≠a->B0.heap.get? b=some o->h'.get? b=some o:=fun b o n e=>hs.extBut b o n (k₀ b o e);have live:∀ b,aI B0.heap b->aI h' b:=fun b ⟨o,e⟩=>(Classical.em (b=a)).elim (fun q=>q▸hl) fun n=>⟨o,kp b o n e⟩;have nl:∀ b,b∈oak.flatten->¬ aI B0.heap b:=fun b e ⟨o,q⟩=>af (Cq b e).1 q;have mk:a7 Φ.bad (Φ.put k oak sl).bad B0.heap h':=fun b o e n=>by
  refine ⟨fun q=>?_,kp b o (fun q=>n (.inr (q▸C2))) e⟩;rcases q with q | q
  ·exact n (.inl q)
  ·exact (put_own q).elim (fun q=>nl b q ⟨o,e⟩) fun q=>n (.inr q)
 have EQ:∀ j u,j≠k->aw B0.heap (Φ.fx.pl j) u->aw h' (Φ.fx.pl j) u:=fun j u e pr=>by
  by_cases ho:Φ.fx.pl j=.off
  ·rw [ho] at pr ⊢; exact pr
  ·exact ps.other (fun q=>e (I.ok.inj j k q ho)) (fun a' x c q=>q.elim (fun q=>I.ok.apart k j a' x c q.1 q.2) fun q=>I.ok.apart j k a' x c q.1 q.2) (pr.keep k₀)
 have ij:=qw (k:=k) (sl:=sl) I fun b q=>.inr fun z=>nl b q (I.new b z).1;have al:∀ j u,aV Φ.fx.g Φ.bad B0.heap Φ.al (Φ.oa j) u (getSlot Φ.G j)->aV Φ.fx.g Φ.bad B0.heap (Φ.put k oak sl).al (Φ.oa j) u (getSlot Φ.G j):=by
  cases sl with
  | obj o=>exact fun j u x=>x.irr ((DW trivial).2 j)
  | _=>exact fun j u x=>x.map (fun b o e n=>⟨n,e⟩) (pS Dg fun o' e=>nomatch e) fun b U o e=>e
 refine ⟨⟨I.ok,⟨fun b o e=>hs.extBut b o (fun q=>af (I.new a C2).2.1 (q▸e)) (B.stays b o e),B.os,B.gens⟩,fun j=>?_,fun b q=>?_,ij.1,ij.2,?_,fun b q=>live b (I.mo b q)⟩,
  ⟨rfl,fun b o e n=>kp b o (fun q=>n (q▸C2)) e,live,fun b l q=>(put_own q).elim (fun q=>absurd l (nl b q)) id,fun j=>?_⟩⟩
 ·by_cases e:j=k
  ·subst e;refine ⟨v,ps.self,?_⟩;have e2:getSlot (Φ.put j oak sl).G j=sl:=aT Dg;rw [put_self,e2]; exact so
  ·obtain ⟨u,pr,sj⟩:=I.slot j;have e2:getSlot (Φ.put k oak sl).G j=getSlot Φ.G j:=cA e;rw [cJ e,e2];exact ⟨u,EQ j u e pr,(al j u sj).map mk (fun U U U U q=>q) fun b eb o e'=>kp b o (fun q=>I.off j b eb k (q▸ha)) e'⟩
 ·rcases put_own q with q | q
  ·exact ⟨(Cq b q).2,aH (fun l=>I.base.stays.live l) (Cq b q).1,fun z=>nl b q (I.mo b z)⟩
  ·obtain ⟨l,n⟩:=I.new b q;exact ⟨live b l,n⟩
 ·refine (?_:(Φ.G.set k sl).length=_);rw [List.length_set]; exact I.gl
 ·by_cases e:j=k
  ·subst e;have e2:getSlot (Φ.put j oak sl).G j=sl:=aT Dg;refine ⟨fun a F U q=>absurd (e2▸q) HF,fun q=>absurd (e2.symm.trans q) C',fun o' q n=>absurd (DW ?_).1 n⟩;rw [e2.symm.trans q]; trivial
  ·exact .same (cJ e) (cA e) fun u r=>EQ j u e r
theorem Inv.upd (I:Inv Φ s) (Eg:s'.os=s.os) (HM:s'.gens=s.gens) (pr:aw s.heap (Φ.fx.pl k) (some u)) (Fj:∀ b o,b∉(Φ.oa k).flatten->s.heap.get? b=some o->s'.heap.get? b=some o) (hl:∀ b,aI s.heap b->aI s'.heap b) (Cq:∀ a∈oak.flatten,a∈(Φ.oa k).flatten\/(s.heap.get? a=none/\aI s'.heap a))
  (so:aV Φ.fx.g (Φ.put k oak sl).bad s'.heap (Φ.put k oak sl).al oak (some u) sl) (hi:isI sl->∀ a F,oak=[a] :: F->∃ CS,Φ.oa k=[a] :: CS/\isI (getSlot Φ.G k)) (C':sl≠.unset) (DW:∀ o',sl=.obj o'->∃ o,getSlot Φ.G k=.obj o/\dF (Φ.oa k) oak) :
  Inv (Φ.put k oak sl) s'/\Tr Φ s (Φ.put k oak sl) s':=by
 have Dg:k < Φ.G.length:=jE I (fT pr);have Dv:∀ b,(Φ.put k oak sl).own b->Φ.own b\/(s.heap.get? b=none/\aI s'.heap b):=fun b q=>(put_own q).elim (fun q=>(Cq b q).imp (fun q=>.inr ⟨k,q⟩) id) .inl;have mk:a7 Φ.bad (Φ.put k oak sl).bad s.heap s'.heap:=fun b o e n=>by
  refine ⟨fun q=>?_,Fj b o (fun q=>n (.inr (.inr ⟨k,q⟩))) e⟩;rcases q with q | q
  ·exact n (.inl q)
  ·exact (Dv b q).elim (fun q=>n (.inr q)) fun q=>af q.1 e
 have EQ:∀ j u,aw s.heap (Φ.fx.pl j) u->aw s'.heap (Φ.fx.pl j) u:=fun j u r=>by
  have na:∀ c,(Φ.fx.pl j).addr=some c->c∉(Φ.oa k).flatten:=fun c e q=>I.off k c q j e;generalize Φ.fx.pl j=p at r na;cases p with
  | ns c x=>obtain ⟨m,hn,hu⟩:=r; exact ⟨m,hn.at' fun o e=>Fj c o (na c rfl) e,hu⟩
  | cell c=>obtain ⟨o,ho,hd⟩:=r; exact ⟨o,Fj c o (na c rfl) ho,hd⟩
  | off=>exact r
 have ij:=qw (sl:=sl) I fun b q=>(Cq b q).imp id fun q z=>(I.new b z).1.elim fun o e=>af q.1 e;have al:=pS (sl:=sl) Dg DW;refine ⟨⟨I.ok,⟨fun b o e=>Fj b o (fun q=>af (I.new b (.inr ⟨k,q⟩)).2.1 e) (I.base.stays b o e),Eg.trans I.base.os,HM.trans I.base.gens⟩,fun j=>?_,fun b q=>?_,ij.1,ij.2,?_,fun b q=>hl b (I.mo b q)⟩,
  ⟨rfl,fun b o e n=>Fj b o (fun q=>n (.inr ⟨k,q⟩)) e,hl,fun b l q=>(Dv b q).elim id fun q=>l.elim fun o e=>(af q.1 e).elim,fun j=>?_⟩⟩
 ·by_cases e:j=k
  ·subst e;have e2:getSlot (Φ.put j oak sl).G j=sl:=aT Dg;rw [put_self,e2]; exact ⟨some u,EQ j _ pr,so⟩
  ·obtain ⟨w,r,sj⟩:=I.slot j;have e2:getSlot (Φ.put k oak sl).G j=getSlot Φ.G j:=cA e;rw [cJ e,e2];exact ⟨w,EQ j w r,sj.map mk al fun b eb o e'=>Fj b o (fun q=>e (I.inj j k b eb q)) e'⟩
 ·rcases Dv b q with q | q
  ·obtain ⟨l,n⟩:=I.new b q;exact ⟨hl b l,n⟩
  ·exact ⟨q.2,aH (fun l=>I.base.stays.live l) q.1,fun z=>(I.mo b z).elim fun o e=>af q.1 e⟩
 ·refine (?_:(Φ.G.set k sl).length=_);rw [List.length_set]; exact I.gl
 ·by_cases e:j=k
  ·subst e;have e2:getSlot (Φ.put j oak sl).G j=sl:=aT Dg;refine ⟨fun a F q i=>hi (e2▸i) a F (put_self.symm.trans q),fun q=>absurd (e2.symm.trans q) C',fun o' q n=>?_⟩;obtain ⟨o,h1,h2⟩:=DW o' (e2.symm.trans q);exact ⟨o,h1,by rw [put_self]; exact h2,fun u r=>EQ j _ r⟩
  ·exact .same (cJ e) (cA e) fun u r=>EQ j u r
end
noncomputable abbrev Ct.wi (Φ:Ct) (oa:Nat->List (List Addr)) (G:Gs):Ct:=⟨Φ.fx,oa,G⟩
section
variable {Φ:Ct} {s s' s₁:Shared} {v:Value} {x:V}
def kY (I:Inv Φ s) (ps:gP s.heap (Φ.fx.pl k) (some v) h') (r:Φ.rp s.heap v x):Inv (Φ.put k [] (.v x)) { s with heap:=h',toks:=tk }/\Tr Φ s (Φ.put k [] (.v x)) { s with heap:=h',toks:=tk }:=by
 refine aQ fun Z1 Ht=>?_;obtain ⟨a,ha,hs,_⟩:=ps.addr;refine Ht ?_;refine Inv.put (oak:=[]) (sl:=.v x) I I.base (.refl _) ps ⟨rfl,v,rfl,r.map fun b o e n=>⟨fun q=>?_,hs.extBut b o (fun q=>n (.inr (.inl ⟨k,q▸ha⟩))) e⟩⟩ (fun a q=>nM q) id nofun fun q=>q.elim;exact n (q.imp id fun (q:(Φ.put k [] (.v x)).own b)=>(put_own q).elim (fun z=>nM z) id)
structure TgtOk (ρ:List (Str×Nat)) (env:Env) (n:Str) (k:Nat):Prop where
 lk:ρ.lookup n=some k
 nf:env.kindOf n≠some .free
def xQ (hT:TgtOk Φ.fx.ρ Φ.fx.env n k) (I:Inv Φ s) (r:Φ.rp s.heap v x) :
  Φ.wp (assign (.Name n py) Φ.fx.env v) (fun U s'=>Inv (Φ.put k [] (.v x)) s'/\Tr Φ s (Φ.put k [] (.v x)) s'/\∀ b o,s.heap.get? b=some o->(Φ.fx.pl k).addr≠some b->s'.heap.get? b=some o) s:=fun E=>by
 rw [arm_assign_Name];refine (bSt (wpAny_bindName (dO I hT.lk hT.nf (fun h' tk ps=>?_) E)));refine aQ fun Z2 Hq=>?_;obtain ⟨a,ha,hs,_⟩:=ps.addr;refine Hq ?_;have q:=kY (tk:=tk) I ps r;exact ⟨q.1,q.2,fun b o e n=>hs.extBut b o (fun q=>n (q▸ha)) e⟩
noncomputable def uW (ks:List Nat) (xs:List V) (G:Gs):Gs:=(ks.zip xs).foldl (fun G p=>G.set p.1 (.v p.2)) G
inductive TgtsOk (ρ:List (Str×Nat)) (env:Env):List Expr->List Nat->Prop
 | nil:TgtsOk ρ env [] []
 | cons {n:Str} {p:Pos} {k:Nat} {es:List Expr} {ks:List Nat}:TgtOk ρ env n k->TgtsOk ρ env es ks->TgtsOk ρ env (.Name n p :: es) (k :: ks)
noncomputable def offs (ks:List Nat) (oa:Nat->List (List Addr)):Nat->List (List Addr):=ks.foldl (fun oa k j=>if j=k then [] else oa j) oa
def lD (fx:Fx) (oa:Nat->List (List Addr)) (G:Gs) (s:Shared) (ks:List Nat) (G':Gs) (s':Shared):Prop:=
 Inv ⟨fx,offs ks oa,G'⟩ s'/\Tr ⟨fx,oa,G⟩ s ⟨fx,offs ks oa,G'⟩ s'/\∀ b o,s.heap.get? b=some o->(∀ k∈ks,(fx.pl k).addr≠some b)->s'.heap.get? b=some o
def BI (hT:TgtsOk fx.ρ fx.env es ks):∀ {oa:Nat->List (List Addr)} {G:Gs} {vs:List Value} {xs:List V} {s:Shared},xs.length=ks.length->Inv ⟨fx,oa,G⟩ s->(Ct.mk fx oa G).rps s.heap vs xs ->
  (Ct.mk fx oa G).wp (assignInOrder ((assignEach es fx.env).map (·.2)) vs) (fun U s'=>lD fx oa G s ks (uW ks xs G) s') s:=by
 induction hT with
 | nil=>
  intro oa G vs xs s hl I r E;obtain rfl:=length_eq_zero_iff.mp hl;cases r
  exact zC2 ⟨I,.refl _ _,fun U U e U=>e⟩
 | @cons n p k es ks h1 _ ih=>
  intro oa G vs xs s hl I r E;cases r with
  | nil=>(injection hl; done)
  | @cons v vs x xs r rs=>
   refine (?_:wpAny _ _ (holding vs (assign (.Name n p) fx.env v) >>= fun U=>assignInOrder ((assignEach es fx.env).map (·.2)) vs) _ _ _);refine zC1 (wpAny_holding (wpAny_mono (xQ (Φ:=⟨fx,oa,G⟩) h1 I r E) (fun U s₁ q=>?_) fun U U z=>z));refine wpAny_mono (ih (Nat.succ.inj hl) q.1 (rs.map q.2.1.mapK) E) (fun U w' z=>?_) fun U U z=>z;exact ⟨z.1,q.2.1.trans z.2.1,fun b o e n=>z.2.2 b o (q.2.2 b o e (n k (.head _))) fun j m=>n j (.tail _ m)⟩
def oo (hT:TgtsOk ρ e0 es ks):(assignEach es env).length=ks.length/\(assignEach es env).findIdx? (·.1)=none:=by
 induction hT with
 | nil=>exact ⟨rfl,rfl⟩
 | @cons n p k es ks h1 _ ih=>
  have e:assignEach (.Name n p :: es) env=(false,assign (.Name n p) env) :: assignEach es env:=rfl;rw [e];exact ⟨congrArg (· + 1) ih.1,by rw [findIdx?_cons,ih.2]; rfl⟩
def kJ (e:bu ks G x=some G') {C:V->Gs->Prop} (k:∀ xs,xs.length=ks.length->C (.tuple xs) (uW ks xs G)):C x G':=by
 cases x with
 | tuple xs=>exact if_elim e fun h=>k xs h
 | _=>(injection e; done)
def Bu (hT:TgtsOk Φ.fx.ρ Φ.fx.env es ks) (I:Inv Φ s) (e:bu ks Φ.G x=some G') (r:Φ.rp s.heap v x) :
  Φ.wp (assign (.Tuple es kk p) Φ.fx.env v) (fun U s'=>lD Φ.fx Φ.oa Φ.G s ks G' s') s:=fun E=>
 kJ (C:=fun x G'=>Φ.rp s.heap v x->wpAny _ _ (assign (.Tuple es kk p) Φ.fx.env v) (fun U s'=>lD Φ.fx Φ.oa Φ.G s ks G' s') E s) e (fun xs hl r=>r.tuple_elim fun a o vs n hb ha hc hd hr=>by
  obtain ⟨h1,h2⟩:=oo (env:=Φ.fx.env) hT;refine wpAny_assign_Tuple I.ok.hand ⟨_,ha,hc,_,hd⟩ (by exact h1.symm▸hl▸(aR hr).symm) h2 fun h' he=>?_;have gr:Grown s { s with heap:=h' }:=⟨fun b o e=>he b o (ne_of_lt (lt_size e)) e,rfl,rfl⟩;refine wpAny_mono (BI (oa:=Φ.oa) (G:=Φ.G) hT hl (I.keep (I.base.grown gr) gr.keeps) (hr.keep gr.keeps) E) (fun U w' z=>⟨z.1,(Tr.of_keeps gr.keeps).trans z.2.1,fun b o e n=>z.2.2 b o (gr.keeps b o e) n⟩) fun U U z=>z) r
def vH (Φ:Ct) (s:Shared) (h:Heap) (f:Flow) (fl:Option V):Prop:=match fl with
 | none=>f=.next
 | some x=>∃ v,f=.ret v/\Φ.rp h v x/\(Φ.fx.nw=true->jC s.heap v)
theorem vH.lift (x:vH Φ s₁ h f fl) (k:∀ b,aI s.heap b->aI s₁.heap b):vH Φ s h f fl:=by
 cases fl with
 | none=>exact x
 | some y=>obtain ⟨v,e,r,n⟩:=x; exact ⟨v,e,r,fun q=>(n q).le k⟩
inductive PostS (Φ:Ct) (s:Shared) (K:Option V->Gs->Prop) (f:Flow) (s':Shared):Prop
 | mk:∀ Cc G' fl,Inv (Φ.wi Cc G') s'->Tr Φ s (Φ.wi Cc G') s'->vH (Φ.wi Cc G') s s'.heap f fl->K fl G'->PostS Φ s K f s'
def ExB (fx:Fx) (t:Sem Flow) (X:B):Prop:=∀ oa G K s,X G K->Inv ⟨fx,oa,G⟩ s->∀ E,wpAny (model fx.g.prog fx.g.w) fx.A t (PostS ⟨fx,oa,G⟩ s K) E s
theorem PostS.lift {K:Option V->Gs->Prop} {oa₁:Nat->List (List Addr)} (p:PostS (Φ.wi oa₁ G₁) s₁ K f s') (t:Tr Φ s (Φ.wi oa₁ G₁) s₁):PostS Φ s K f s':=by
 obtain ⟨Cc,G',fl,I,t',h,h'⟩:=p;exact ⟨Cc,G',fl,I,t.trans t',h.lift t.live,h'⟩
theorem PostS.next {K:Option V->Gs->Prop} {Cc:Nat->List (List Addr)} (I:Inv (Φ.wi Cc G') s') (t:Tr Φ s (Φ.wi Cc G') s') (k:K none G'):PostS Φ s K .next s':=⟨Cc,G',none,I,t,rfl,k⟩
end
section
variable {fx:Fx} {s:Shared}
def zW:ExB fx (execs [] fx.env) (fun G K=>K none G):=fun oa G K s hd I E=>wpAny_execs_nil (.next I (.refl _ _) hd)
def xh {st:Stmt} {r:List Stmt} {X Y:B} (h1:ExB fx (exec st fx.env) X) (h2:ExB fx (execs r fx.env) Y):ExB fx (execs (st :: r) fx.env) (fun G K=>X G fun fl G'=>match fl with | none=>Y G' K | some x=>K (some x) G'):=fun oa G K s hd I E=>by
 refine wpAny_execs_cons (wpAny_mono (h1 oa G _ s hd I E) (fun f s₁ ⟨oa₁,G₁,fl,g',t₁,hf,hk⟩=>?_) fun U U z=>z);cases fl with
 | none=>subst hf; exact wpAny_mono (h2 oa₁ G₁ K s₁ hk g' E) (fun U U p=>p.lift t₁) fun U U z=>z
 | some x=>obtain ⟨v,rfl,r⟩:=hf; exact ⟨oa₁,G₁,some x,g',t₁,⟨v,rfl,r⟩,hk⟩
def Bk {d:Gs->DV} (hc:∀ oa G,EvT ⟨fx,oa,G⟩ (isTrue c fx.env (eval c fx.env)) (tst (d G))) (ha:ExB fx (execs a fx.env) X) (hb:ExB fx (execs b fx.env) Y) :
  ExB fx (exec (.If c a b pos) fx.env) (fun G K=>d G fun x=>okK (cq x some) fun t=>if t=true then X G K else Y G K):=fun oa G K s hd I E=>by
 refine wpAny_If (wpAny_mono (hc oa G (fun t=>if t=true then X G K else Y G K) s hd I _) (fun t s₁ ⟨B,k,t',hk,e⟩=>?_) fun U U z=>z);subst e;cases t with
 | true=>exact wpAny_mono (ha oa G K s₁ hk (I.keep B k) E) (fun U U p=>p.lift (.of_keeps k)) fun U U z=>z
 | false=>exact wpAny_mono (hb oa G K s₁ hk (I.keep B k) E) (fun U U p=>p.lift (.of_keeps k)) fun U U z=>z
def zV {d:Gs->DV} (hnw:fx.nw=false) (h:∀ oa G,Ev ⟨fx,oa,G⟩ (eval e fx.env) (d G)):ExB fx (exec (.Return (some e) pos) fx.env) (fun G K=>d G fun x=>K (some x) G):=fun oa G K s hd I E=>by
 rw [exec_Return_some];exact (bSt (zC1 (wpAny_mono (h oa G _ s hd I _) ((by rintro v s₁ ⟨B,k,x,hx,r⟩; exact zC2 ⟨oa,G,some x,I.keep B k,.of_keeps k,⟨v,rfl,r,fun q=>nomatch hnw.symm.trans q⟩,hx⟩)) fun U U z=>z)))
def w9 {d:Gs->DV} (h:∀ oa G,EvN ⟨fx,oa,G⟩ (eval e fx.env) (d G)):ExB fx (exec (.Return (some e) pos) fx.env) (fun G K=>d G fun x=>K (some x) G):=fun oa G K s hd I E=>by
 rw [exec_Return_some];exact (bSt (zC1 (wpAny_mono (h oa G _ s hd I _) ((by rintro v s₁ ⟨⟨B,k,x,hx,r⟩,n⟩; exact zC2 ⟨oa,G,some x,I.keep B k,.of_keeps k,⟨v,rfl,r,fun U=>n⟩,hx⟩)) fun U U z=>z)))
def aP (h:bR value=true):swapsWith value t n env=pure false:=by
 cases value <;> first | rfl | exact nB h
def kf {d:Gs->DV} (hs:swapsWith value (some (.Name n py)) spos.line fx.env=pure false) (hT:TgtOk fx.ρ fx.env n k) (h:∀ oa G,Ev ⟨fx,oa,G⟩ (eval value fx.env) (d G)) :
  ExB fx (exec (.Assign [.Name n py] value spos) fx.env) (fun G K=>d G fun x=>K none (G.set k (.v x))):=fun oa G K s hd I E=>by
 refine (exec_Assign_Name _ _ _ _ _ hs).symm▸?_;refine (bSt (zC1 (wpAny_mono (h oa G _ s hd I _) (fun v s₁ ⟨B,B7,x,hx,r⟩=>?_) fun U U z=>z)));have g':=I.keep B B7;refine (bSt (zC1 (wpAny_bindName (dO g' hT.lk hT.nf (fun h' tk ps=>zC2 ?_) _))));have q:=kY (tk:=tk) g' ps r;exact .next q.1 ((Tr.of_keeps B7).trans q.2) hx
def uy {t:Sem Flow}:ExB fx t (fun U U=>False):=fun oa G K s hd=>hd.elim
end
noncomputable abbrev Fx.mo (fx:Fx) (X:Addr->Prop):Fx:={ fx with Mo:=fun b=>fx.Mo b\/X b }
noncomputable abbrev Ct.mo (Φ:Ct) (X:Addr->Prop):Ct:=⟨Φ.fx.mo X,Φ.oa,Φ.G⟩
section
variable {Φ:Ct} {s s' B0 w':Shared} {h':Heap} {X:Addr->Prop}
theorem FxOk.any (ok:FxOk fx) (h:∀ a,M a->fx.g.h0.get? a=none):FxOk { fx with Mo:=M }:=⟨ok.gr,ok.hand,ok.kind,ok.globals,ok.builtins,ok.vis,ok.inj,ok.apart,ok.offs,ok.nfs,ok.room,ok.units,ok.call,h⟩
def qI (hX:∀ b,X b->B0.heap.get? b=none) (k:ah B0.heap w'.heap):a7 Φ.bad (Φ.mo X).bad B0.heap w'.heap:=fun b o e n=>
 ⟨fun q=>q.elim (fun q=>q.elim (fun q=>n (.inl q)) fun q=>af (hX b q) e) fun q=>n (.inr q),k b o e⟩
theorem Inv.more (I:Inv Φ B0) (B:Base Φ.fx.g w') (k:ah B0.heap w'.heap) (hX:∀ b,X b->B0.heap.get? b=none) (hl:∀ b,X b->aI w'.heap b):Inv (Φ.mo X) w' where
 ok:=I.ok.any fun a q=>q.elim (I.ok.mo0 a) fun q=>aH (fun l=>I.base.stays.live l) (hX a q)
 base:=B
 slot:=fun j=>let ⟨v,r,x⟩:=I.slot j; ⟨v,r.keep k,x.map (qI hX k) (fun U U U U q=>q) fun a U o e=>k a o e⟩
 new:=fun a q=>let ⟨x,y,z⟩:=I.new a q; ⟨k.live x,y,fun w=>w.elim z fun w=>x.elim fun o e=>af (hX a w) e⟩
 inj:=I.inj
 off:=I.off
 gl:=I.gl
 mo:=fun a q=>q.elim (fun q=>k.live (I.mo a q)) (hl a)
def jX:a7 (Φ.mo X).bad Φ.bad h h:=fun b o e n=>⟨fun q=>n (q.imp .inl id),e⟩
theorem Inv.less (I:Inv (Φ.mo X) s):Inv Φ s where
 ok:=I.ok.any (M:=Φ.fx.Mo) fun a q=>I.ok.mo0 a (.inl q)
 base:=I.base
 slot:=fun j=>let ⟨v,r,x⟩:=I.slot j; ⟨v,r,x.map jX (fun U U U U q=>q) fun a U o e=>e⟩
 new:=fun a q=>let ⟨x,y,z⟩:=I.new a q; ⟨x,y,fun w=>z (.inl w)⟩
 inj:=I.inj
 off:=I.off
 gl:=I.gl
 mo:=fun a q=>I.mo a (.inl q)
theorem Inv.others {wr:List Addr} {tk:Nat} {Mo₂:Addr->Prop} (I:Inv Φ s) (k:∀ b o,b∉wr->s.heap.get? b=some o->h'.get? b=some o) (hw:∀ b∈wr,Φ.fx.Mo b) (h0:∀ b∈wr,Φ.fx.g.h0.get? b=none) (hs:∀ a,Mo₂ a->Φ.fx.Mo a) (hl:∀ a,Mo₂ a->aI h' a):Inv ⟨{ Φ.fx with Mo:=Mo₂ },Φ.oa,Φ.G⟩ { s with heap:=h',toks:=tk }:=by
 have ET:∀ b,Φ.own b->b∉wr:=fun b q m=>(I.new b q).2.2 (hw b m);have mk:a7 Φ.bad (Ct.mk { Φ.fx with Mo:=Mo₂ } Φ.oa Φ.G).bad s.heap h':=fun b o e n=>⟨fun q=>n (q.imp (hs b) id),k b o (fun m=>n (.inl (hw b m))) e⟩;refine ⟨I.ok.any fun a q=>I.ok.mo0 a (hs a q),⟨fun b o e=>k b o (fun m=>af (h0 b m) e) (I.base.stays b o e),I.base.os,I.base.gens⟩,fun j=>?_,fun a q=>?_,I.inj,I.off,I.gl,hl⟩
 ·obtain ⟨u,r,so⟩:=I.slot j;refine ⟨u,?_,so.map mk (fun U U U U q=>q) fun a ea o e=>k a o (ET a (.inr ⟨j,ea⟩)) e⟩;refine (?_:aw h' (Φ.fx.pl j) u);have na:∀ a,(Φ.fx.pl j).addr=some a->a∉wr:=fun a e=>ET a (.inl ⟨j,e⟩);generalize Φ.fx.pl j=p at r na;cases p with
  | ns a x=>obtain ⟨m,hn,hu⟩:=r; exact ⟨m,hn.at' fun o e=>k a o (na a rfl) e,hu⟩
  | cell c=>obtain ⟨o,ho,hd⟩:=r; exact ⟨o,k c o (na c rfl) ho,hd⟩
  | off=>exact r
 ·refine aQ fun Z4 FL=>?_;refine (I.new a q).elim fun E9 E8=>E9.elim fun o e=>E8.elim fun y z=>?_;refine FL ?_;exact ⟨⟨o,k a o (ET a q) e⟩,y,fun w=>z (hs a w)⟩
theorem Tr.mo (e:Φ'.fx=Φ.fx) (t:Tr (Φ.mo X) s (Φ'.mo X) s'):Tr Φ s Φ' s':=⟨e,t.keep,t.live,t.grow,fun k=>⟨(t.sl k).inst,(t.sl k).set,(t.sl k).objs⟩⟩
theorem Tr.others {wr:List Addr} {tk:Nat} (Cf:Inv Φ B0) (t:Tr Φ B0 Φ' s) (k:∀ b o,b∉wr->s.heap.get? b=some o->h'.get? b=some o) (hw:∀ b∈wr,B0.heap.get? b=none):Tr Φ B0 Φ' { s with heap:=h',toks:=tk } where
 fx:=t.fx
 keep:=fun b o e n=>k b o (fun m=>af (hw b m) e) (t.keep b o e n)
 live:=fun b l=>(t.live b l).elim fun o' e'=>⟨o',k b o' (fun m=>l.elim fun o e=>af (hw b m) e) e'⟩
 grow:=t.grow
 sl:=fun j=>⟨(t.sl j).inst,(t.sl j).set,fun o' q n=>by
  obtain ⟨o,h1,h2,h3⟩:=(t.sl j).objs o' q n;refine ⟨o,h1,h2,fun u r=>?_⟩;have r:=h3 u r;have na:∀ a,(Φ.fx.pl j).addr=some a->a∉wr:=fun a e m=>(Cf.new a (.inl ⟨j,e⟩)).1.elim fun o e=>af (hw a m) e;refine (?_:aw h' (Φ.fx.pl j) _);generalize Φ.fx.pl j=p at r na;cases p with
  | ns a x=>obtain ⟨m,hn,hu⟩:=r; exact ⟨m,hn.at' fun o e=>k a o (na a rfl) e,hu⟩
  | cell c=>obtain ⟨o,ho,hd⟩:=r; exact ⟨o,k c o (na c rfl) ho,hd⟩
  | off=>exact r⟩
def gm (h:bH e=true) (x:Value):foldedSetIterable e env x=pure x:=by
 cases e <;> first | rfl | exact nB h
def pV (fx:Fx) (T:Expr) (b:Gs->V->Option Gs):Prop:=∀ X oa G v x G' s,Inv ⟨fx.mo X,oa,G⟩ s->b G x=some G'->(Ct.mk (fx.mo X) oa G).rp s.heap v x->(Ct.mk (fx.mo X) oa G).wp (assign T fx.env v) (fun U s'=>∃ Cc,Inv ⟨fx.mo X,Cc,G'⟩ s'/\Tr ⟨fx.mo X,oa,G⟩ s ⟨fx.mo X,Cc,G'⟩ s') s
end
theorem Feed.turn {St:Nat->Heap->Prop} (F:Feed g A T I fp wr vals l0 l St) {bad:Addr->Prop} {N:Shared->Prop} {Q:Value->Shared->Prop} {E:Value->Shared->Prop}
  (hx:l[i]?=some x) (st:St i s.heap) (rv:RpAll g bad s.heap vals l0) (hb:∀ a,bad a->aI s.heap a) (hw:∀ b∈wr,bad b)
  (hQ:∀ v h' tk,St (i+1) h'->(∀ b o,b∉wr->s.heap.get? b=some o->h'.get? b=some o)->Rp g bad h' v x->Q v { s with heap:=h',toks:=tk }) :
  wpAny (model g.prog g.w) A (pyNext (.ref I)) (fun r s₁=>match r with | none=>N s₁ | some v=>wpAny (model g.prog g.w) A (letOwnedTupleGo T (.ref I) v) (fun U w'=>Q v w') E s₁) E s:=
 wpAny_mono (F.item i x s bad Q E hx st rv hb hw hQ) (fun r s₁ Fb=>Fb.elim fun v Es=>Es.elim fun e z=>by subst e; exact z) fun U U z=>z
theorem Feed.over {St:Nat->Heap->Prop} (F:Feed g A T I fp wr vals l0 l St) {N:Shared->Prop} {Q:Value->Shared->Prop} {E:Value->Shared->Prop}
  (st:St l.length s.heap) (hN:∀ h' tk,(∀ b o,b∉wr->s.heap.get? b=some o->h'.get? b=some o)->N { s with heap:=h',toks:=tk }) :
  wpAny (model g.prog g.w) A (pyNext (.ref I)) (fun r s₁=>match r with | none=>N s₁ | some v=>wpAny (model g.prog g.w) A (letOwnedTupleGo T (.ref I) v) (fun U w'=>Q v w') E s₁) E s:=
 wpAny_mono (F.done s N E st hN) (fun r s₁ GD=>GD.elim fun e z=>by subst e; exact z) fun U U z=>z
inductive FLI (fx:Fx) (X:Addr->Prop) (oa:Nat->List (List Addr)) (G:Gs) (B0:Shared) (Sp:Nat->Heap->Prop) (vals:List Value) (l0 l:List V) (b:Gs->V->Option Gs) (A:B) (K:Option V->Gs->Prop) (n:Nat) (s':Shared):Prop
 | mk (i:Nat) (Cc:Nat->List (List Addr)) (G':Gs) (en:n=l.length - i) (hi:i<=l.length) (st:Sp i s'.heap) (I':Inv ⟨fx.mo X,Cc,G'⟩ s') (t':Tr ⟨fx,oa,G⟩ B0 ⟨fx,Cc,G'⟩ s') (rv:(Ct.mk (fx.mo X) Cc G').rps s'.heap vals l0) (ef:jv b A (l.drop i) G' K):FLI fx X oa G B0 Sp vals l0 l b A K n s'
def vr {body:List Stmt} {d:Gs->(List V->Prop)->Prop} {b:Gs->V->Option Gs} (Dw:bH iter=true) (hT:pV fx T b) (C8:∀ oa G,eX ⟨fx,oa,G⟩ T true iter (d G)) (hb:∀ X,ExB (fx.mo X) (execs body fx.env) A) :
  ExB fx (exec (.For T iter body [] pos) fx.env) (fun G K=>d G fun xs=>jv b A xs G K):=fun oa G K s hd I E=>by
 refine wpAny_For (C8 oa G _ s hd I _ _ fun l B0 it w' kl Cf k₀ gr fa=>?_) (gm Dw);obtain ⟨J,fp,wr,vals,l0,Sp,rfl,F,Fw,rv,D6,hfp,hsz⟩:=fa;have start:Tr ⟨fx,oa,G⟩ s ⟨fx,oa,G⟩ B0:=.of_keeps k₀;have Fs:∀ b∈wr,fx.g.h0.get? b=none:=fun b m=>aH (fun l=>Cf.base.stays.live l) (D6 b m)
 let X:Addr->Prop:=fun b=>b∈fp/\B0.heap.get? b=none
 have D9:∀ b∈wr,(fx.mo X).Mo b:=fun b m=>.inr ⟨F.sub b m,D6 b m⟩;have DQ:∀ {Cc:Nat->List (List Addr)} {G':Gs} {s':Shared},Inv ⟨fx.mo X,Cc,G'⟩ s'->Tr ⟨fx,oa,G⟩ B0 ⟨fx,Cc,G'⟩ s'->∀ b∈fp,¬ (Ct.mk fx Cc G').own b:=fun I' t' b hb q=>by
  cases e:B0.heap.get? b with
  | none=>exact (I'.new b q).2.2 (.inr ⟨hb,e⟩)
  | some o=>exact ((hfp b hb).resolve_left fun z=>af z e) rfl (.inr (t'.grow b ⟨o,e⟩ q))
 refine codeAny_forLoop_any (FLI fx X oa G B0 Sp vals l0 l b A K) (fun n s' hLI=>?_) l.length ⟨0,oa,G,rfl,zero_le _,Fw,Cf.more (Cf.base.grown gr) gr.keeps (fun b q=>q.2) fun b q=>F.live 0 _ b Fw q.1,.of_keeps gr.keeps,rv.map (qI (fun b q=>q.2) gr.keeps),kl⟩;refine aQ fun Z kZ=>?_;obtain ⟨i,Cc,G',rfl,hi,st,I',t',FA,ef⟩:=hLI;cases hx:l[i]? with
 | none=>
  have Dy:i=l.length:=le_antisymm hi (List.getElem?_eq_none_iff.mp hx);subst Dy;rw [List.drop_length] at ef;refine kZ (F.over st fun h' tk hk=>wpAny_execs_nil ?_);have I3:Inv ⟨fx,Cc,G'⟩ { s' with heap:=h',toks:=tk }:=Inv.others (Φ:=⟨fx.mo X,Cc,G'⟩) (Mo₂:=fx.Mo) I' hk D9 Fs (fun a q=>.inl q) fun a q=>(I'.mo a (.inl q)).elim fun o e=>⟨o,hk a o (fun m=>(Cf.mo a q).elim fun o e=>af (D6 a m) e) e⟩;exact .next I3 (start.trans (Tr.others Cf t' hk D6)) ef
 | some x=>
  have Dy:=(List.getElem?_eq_some_iff.mp hx).1;have ed:l.drop i=x :: l.drop (i+1):=by rw [List.drop_eq_getElem_cons Dy]; congr 1; exact (List.getElem?_eq_some_iff.mp hx).2
  replace ef:=ed▸ef;refine kZ (F.turn hx st FA (fun a q=>I'.badLive q) (fun b m=>.inl (D9 b m)) fun v h' tk B8 hk rx=>?_);clear kZ;refine aQ fun Z kZ=>?_;refine ab ef fun G₁ Ep ef=>?_;have I3:Inv ⟨fx.mo X,Cc,G'⟩ { s' with heap:=h',toks:=tk }:=Inv.others (Φ:=⟨fx.mo X,Cc,G'⟩) (Mo₂:=(fx.mo X).Mo) I' hk D9 Fs (fun a q=>q) fun a q=>by
   by_cases nw:a∈wr
   ·exact F.live _ _ a B8 (F.sub a nw)
   ·obtain ⟨o,e⟩:=I'.mo a q;exact ⟨o,hk a o nw e⟩
  have t3:Tr ⟨fx,oa,G⟩ B0 ⟨fx,Cc,G'⟩ { s' with heap:=h',toks:=tk }:=Tr.others Cf t' hk D6;have rv3:(Ct.mk (fx.mo X) Cc G').rps h' vals l0:=FA.map fun b o e n=>⟨n,hk b o (fun m=>n (.inl (D9 b m))) e⟩;refine kZ (wpAny_mono (hT X Cc G' v x G₁ _ I3 Ep rx _) (fun U Cx GC=>GC.elim fun Do GB=>GB.elim fun I4 t4=>?_) fun U U z=>z);have Hb:Tr ⟨fx,oa,G⟩ B0 ⟨fx,Do,G₁⟩ Cx:=t3.trans (t4.mo (Φ:=⟨fx,Cc,G'⟩) (Φ':=⟨fx,Do,G₁⟩) rfl);have Fv:Sp (i+1) Cx.heap:=F.frame _ _ _ B8 fun b hb o e=>t4.keep b o e (DQ I3 t3 b hb);refine wpAny_mono (hb X Do G₁ _ Cx ef I4 _) (fun f CB ⟨oa₅,G₅,fl,I5,t5,hf,ek⟩=>?_) fun U U z=>z;have t05:Tr ⟨fx,oa,G⟩ B0 ⟨fx,oa₅,G₅⟩ CB:=Hb.trans (t5.mo (Φ:=⟨fx,Do,G₁⟩) (Φ':=⟨fx,oa₅,G₅⟩) rfl);cases fl with
  | none=>
   subst hf;exact ⟨l.length - (i+1),Nat.sub_succ_lt_self _ _ Dy,i+1,oa₅,G₅,rfl,Dy,F.frame _ _ _ Fv fun b hb o e=>t5.keep b o e (DQ I4 Hb b hb),I5,t05,(rv3.map t4.mapK).map t5.mapK,ek⟩
  | some y=>
   obtain ⟨w,rfl,rw,nv⟩:=hf;exact ⟨oa₅,G₅,some y,Inv.less (Φ:=⟨fx,oa₅,G₅⟩) I5,start.trans t05,⟨w,rfl,rw.map (jX (Φ:=⟨fx,oa₅,G₅⟩)),fun q=>(nv q).le fun b l=>Hb.live b (k₀.live l)⟩,ek⟩
section
variable {fx:Fx}
def tz (hT:TgtOk fx.ρ fx.env n k):pV fx (.Name n py) (jm k):=fun X oa G v x G' s I e r E=>by
 (injection e with e; subst e);exact wpAny_mono (xQ (Φ:=⟨fx.mo X,oa,G⟩) hT I r E) (fun U s' q=>⟨_,q.1,q.2.1⟩) fun U U z=>z
def ty (hT:TgtsOk fx.ρ fx.env es ks):pV fx (.Tuple es kk p) (bu ks):=fun X oa G v x G' s I e r E=>wpAny_mono (Bu (Φ:=⟨fx.mo X,oa,G⟩) hT I e r E) (fun U s' q=>⟨_,q.1,q.2.1⟩) fun U U z=>z
def put_new (hT:TgtOk fx.ρ fx.env n k) (I:Inv ⟨fx,oa,G⟩ B0) (B:Base fx.g s) (k₀:ah B0.heap s.heap) (Cq:∀ a∈oak.flatten,B0.heap.get? a=none/\aI s.heap a) (C':sl≠.unset) (HF:¬ isI sl)
  (DW:yg sl->getSlot G k=.unset/\∀ n,gL (getSlot G n)=true)
  (ow:∀ h',(∀ b o,s.heap.get? b=some o->¬ (Ct.mk fx oa G).own b->h'.get? b=some o)->aV fx.g ((Ct.mk fx oa G).put k oak sl).bad h' ((Ct.mk fx oa G).put k oak sl).al oak (some u) sl)
  (h:∀ s',Inv ((Ct.mk fx oa G).put k oak sl) s'->Tr ⟨fx,oa,G⟩ B0 ((Ct.mk fx oa G).put k oak sl) s'->Q () s'):(Ct.mk fx oa G).wp (storeName fx.env n u) Q s:=fun E=>by
 refine dO (Φ:=⟨fx,oa,G⟩) (I.keep B k₀) hT.lk hT.nf (fun h' tk ps=>?_) E;refine ps.addr.elim fun c Ic=>Ic.elim fun hc Ib=>Ib.elim fun hs U=>?_;have kp:∀ b o,s.heap.get? b=some o->¬ (Ct.mk fx oa G).own b->h'.get? b=some o:=fun b o e nb=>hs.extBut b o (fun q=>nb (.inl ⟨k,q▸hc⟩)) e;have q:=Inv.put (tk:=tk) I B k₀ ps (ow h' kp) (fun a m=>⟨(Cq a m).1,(Cq a m).2.elim fun o e=>⟨o,kp a o e fun q=>(I.new a q).1.elim fun o e=>af (Cq a m).1 e⟩⟩) HF C' DW;exact h _ q.1 q.2
def tW {s s₁:Shared} {a:Addr} (ha:s.heap.get? a=none) (kp:∀ b o,s.heap.get? b=some o->¬ (Ct.mk fx oa G).own b->h'.get? b=some o):a7 (Ct.mk fx oa G).bad ((Ct.mk fx oa G).put k [[a]] sl).bad s.heap h':=fun b o e n=>⟨fun q=>by
 rcases q with q | q
 ·exact n (.inl q)
 ·exact (put_own q).elim (fun q=>by obtain rfl:=zA6 q; exact af ha e) fun q=>n (.inr q),kp b o e fun q=>n (.inr q)⟩
def xc {qs:Gs->List (Expr×DV)} (hT:TgtOk fx.ρ fx.env n k) (he:∀ G,(qs G).map Prod.fst=es) (hq:∀ oa G,∀ q∈qs G,aj q.1=true/\bi ⟨fx,oa,G⟩ q) :
  ExB fx (exec (.Assign [.Name n py] (.List es pos) spos) fx.env) (fun G K=>bn ((qs G).map Prod.snd) fun xs=>xs.length<=ac/\K none (G.set k (.ownL xs))):=fun oa G K s hd I E=>by
 rw [exec_Assign_Name _ _ _ _ _ (aP rfl),arm_eval_List,<- he G];simp only [bind_assoc];refine (bSt ((bSt (zC1 (wpAny_mono (dj (Φ:=⟨fx,oa,G⟩) (hq oa G) _ s hd I _) (fun vs s₁ ⟨B,B7,xs,⟨hz,hx⟩,rs⟩=>?_) fun U U z=>z)))));have g':=I.keep B B7;refine zC1 (wpAny_newObj_type ?_ (by refine (?_:vs.toArray.size<=sizeLine); exact size_toArray.symm▸rs.length.symm▸bV hz));have gr:=Grown.push s₁ { cls:=.type "list",data:=.seq vs.toArray } s₁.toks;have hD:s₁.heap.get? s₁.heap.objs.size=none:=ag _;refine (bSt (zC1 (wpAny_bindName (put_new (oak:=[[s₁.heap.objs.size]]) (sl:=.ownL xs) hT g' (B.grown gr) gr.keeps (fun a m=>by obtain rfl:=zA6 m; exact ⟨hD,_,J0 _ rfl⟩) nofun id (fun q=>q.elim) (fun h' kp=>?_) (fun s' I' t'=>zC2 (.next I' ((Tr.of_keeps B7).trans t') hx)) _))));have nb:¬ (Ct.mk fx oa G).own s₁.heap.objs.size:=fun q=>g'.fresh (.inr q);exact ⟨_,rfl,rfl,_,_,_,kp _ _ (J0 _ rfl) nb,⟨rfl,rfl⟩,rfl,rs.map (tW (s₁:=s₁) hD fun b o e=>kp b o (ae _ _ b o e))⟩
end
section
variable {prog:Program} {w:World} {A:Around} {R:Result->Shared->Prop} {s:Shared}
def kN (I:Nat->Shared->Prop)
  (turn:∀ n s,I n s->wpAny (model prog w) A (pyNext it) (fun r s₁=>match r with
   | none=>R (.ok .next) s₁
   | some v=>wpAny (model prog w) A (letOwnedTupleGo target it v) (fun U Et=>wpAny (model prog w) A (assign target env v) (fun U w'=>
     wpAny (model prog w) A (forIn ifs true fun c r=>if r=true then do let ok <- isTrue c env (eval c env); pure (ForInStep.yield ok) else pure (ForInStep.yield r)) (fun ok Cw=>
      if ok=true then wpAny (model prog w) A (eval CF env) (fun x Cx=>
       wpAny (model prog w) A (call (.builtin "list.append") [acc,x]) (fun U CB=>∃ m,m < n/\I m CB) (notedBy (model prog w) A env fun e s'=>R (.error e) s') Cx) (notedBy (model prog w) A env fun e s'=>R (.error e) s') Cw
      else ∃ m,m < n/\I m Cw) (notedBy (model prog w) A env fun e s'=>R (.error e) s') w') (notedBy (model prog w) A env fun e s'=>R (.error e) s') Et) (notedBy (model prog w) A env fun e s'=>R (.error e) s') s₁) (notedBy (model prog w) A env fun e s'=>R (.error e) s') s)
  (n:Nat) (h:I n s):codeAny (model prog w) A (.compLoop (.ListComp CF [⟨target,iter,ifs,0⟩] scope pos) 0 it acc env) R s:=by
 refine codeAny_loop rfl I (fun n s hI=>?_) n h
 (refine (?_:wpAny _ A ((compTurn (.ListComp CF [⟨target,iter,ifs,0⟩] scope pos) 0 it acc env).onRaise (fun x=>do noteFrame x env; theTreesLotGoes x)) _ _ s))
 refine wpAny_noted ?_;rw [compTurn_list];refine (bSt (zC1 (wpAny_mono (turn n s hI) (fun r s₁ Cs=>?_) fun U U h'=>h')));cases r with
 | none=>exact wpAny_pure Cs
 | some v=>
  refine zC1 (wpAny_mono Cs (fun U Et FN=>?_) fun U U h'=>h');refine zC1 (wpAny_mono FN (fun U w' Df=>zC1 (wpAny_mono Df (fun ok Cw CH=>?_) fun U U h'=>h')) fun U U h'=>h');cases ok with
  | false=>exact zC2 ⟨rfl,CH⟩
  | true=>
   exact zC1 (zC1 (wpAny_mono CH (fun x Cx DS=>zC1 (wpAny_mono DS (fun U CB CO=>zC2 (zC2 ⟨rfl,CO⟩)) fun U U h'=>h')) fun U U h'=>h'))
end
noncomputable def dH (ifs:List Expr) (env:Env):Sem Bool:=forIn ifs true fun c r=>if r=true then do let ok <- isTrue c env (eval c env); pure (ForInStep.yield ok) else pure (ForInStep.yield r)
theorem gv (env:Env):∀ ifs:List Expr,(forIn ifs false fun c r=>if r=true then do let ok <- isTrue c env (eval c env); pure (ForInStep.yield ok) else pure (ForInStep.yield r):Sem Bool)=pure false
 | []=>rfl
 | c :: r=>by
  rw [forIn_cons];simp only [false_eq_true,if_false,pure_bind];exact gv env r
def cI (hk:env.scope.kind=.function):(relabel scope env).names=gJ env.scope.names scope.names:=by
 unfold relabel gJ;simp only [hk];apply map_congr_left
 rintro ⟨n,k⟩ _;have:(ScopeKind.function==ScopeKind.function)=true:=by decide
 simp only [this,Bool.and_true];rfl
theorem relab_lookup (sc:List (Str×NameKind)):∀ (names:List (Str×NameKind)) (x:Str),(gJ sc names).lookup x=(names.lookup x).map fun k=>if k==.free&&sc.lookup x==some .cell then .cell else k
 | [],x=>rfl
 | (n,k) :: r,x=>by
  have ih:=relab_lookup sc r x;have e:gJ sc ((n,k) :: r)=(n,if k==.free&&sc.lookup n==some .cell then .cell else k) :: gJ sc r:=by
   unfold gJ;rw [map_cons]
   congr 1
   show (if _ then (n,NameKind.cell) else (n,k))=_
   split <;> rfl
  rw [e,lookup_cons,lookup_cons];cases hx:x==n with
  | true=>have:=beq_iff_eq.mp hx; subst this; rfl
  | false=>exact ih
noncomputable def clOf (cells:List (Str×Addr)):List (Str×NameKind)->List (Str×Addr)->List (Str×Addr)
 | [],acc=>acc
 | (n,k) :: r,acc=>clOf cells r (if k==.free then (n,(cells.lookup n).getD 0) :: acc else acc)
def l6 (cells:List (Str×Addr)) (names:List (Str×NameKind)):Prop:=∀ n,(n,NameKind.free)∈names->∃ c,cells.lookup n=some c
def iI (h:l6 env.cells scope.names):closureFor scope env=pure (clOf env.cells scope.names []):=by
 unfold closureFor
 suffices ∀ (names:List (Str×NameKind)) (acc:List (Str×Addr)),l6 env.cells names->(do
   let r <- forIn names acc fun x r=>match x with
    | (name,kind)=>if (kind==NameKind.free)=true then do let c <- cellOf env name; pure (ForInStep.yield ((name,c) :: r)) else pure (ForInStep.yield r)
   pure r:Sem (List (Str×Addr)))=pure (clOf env.cells names acc) by
  simpa using this scope.names [] h
 intro names;induction names with
 | nil=>intro acc _; rfl
 | cons p r ih=>
  obtain ⟨n,k⟩:=p;intro acc hf;rw [forIn_cons];have hr:l6 env.cells r:=fun m q=>hf m (.tail _ q);by_cases hk:k=.free
  ·subst hk;obtain ⟨c,hc⟩:=hf n (.head _);have e1:cellOf env n=pure c:=by unfold cellOf; rw [hc]
   have:=ih ((n,c) :: acc) hr;simp only [beq_self_eq_true,if_true,e1,pure_bind,clOf,hc,getD_some] at this ⊢;exact this
  ·have hb:(k==NameKind.free)=false:=by simpa using hk
   have:=ih acc hr;simp only [hb,false_eq_true,if_false,pure_bind,clOf] at this ⊢;exact this
theorem fL (cells:List (Str×Addr)):∀ (names:List (Str×NameKind)) (acc:List (Str×Addr)) (x:Str) (c:Addr),cells.lookup x=some c->((x,NameKind.free)∈names\/acc.lookup x=some c)->(∀ d,acc.lookup x=some d->d=c)->(clOf cells names acc).lookup x=some c
 | [],acc,x,c,_,h,_=>by rcases h with h | h; cases h; exact h
 | (n,k) :: r,acc,x,c,hc,h,ha=>by
  unfold clOf;by_cases hk:k=.free
  ·subst hk;simp only [beq_self_eq_true,if_true];by_cases hx:x=n
   ·subst hx;refine fL cells r _ x c hc (.inr ?_) fun d hd=>?_
    ·simp [hc]
    ·simp only [lookup_cons,beq_self_eq_true,hc,getD_some,Option.some.injEq] at hd; exact hd.symm
   ·have hb:(x==n)=false:=by simpa using hx
    refine fL cells r _ x c hc ?_ fun d hd=>?_
    ·rcases h with h | h
     ·rcases mem_cons.mp h with q | q
      ·(injection q with q; subst q); exact absurd rfl hx
      ·exact .inl q
     ·exact .inr (by rw [lookup_cons,hb]; exact h)
    ·rw [lookup_cons,hb] at hd; exact ha d hd
  ·have hb:(k==NameKind.free)=false:=by simpa using hk
   simp only [hb,false_eq_true,if_false];refine fL cells r acc x c hc ?_ ha;rcases h with h | h
   ·rcases mem_cons.mp h with q | q
    ·cases q; exact absurd rfl hk
    ·exact .inl q
   ·exact .inr h
theorem ip:∀ {l:List (Str×α)} {n:Str} {c:α},l.lookup n=some c->(n,c)∈l
 | (k,v) :: r,n,c,h=>by
  rw [lookup_cons] at h;cases hb:n==k with
  | true=>replace h:=hb▸h; (injection h with h; subst h); rw [beq_iff_eq.mp hb]; exact .head _
  | false=>rw [hb] at h; exact .tail _ (ip h)
theorem cM {p:Str->Bool}:∀ {l:List (Str×Nat)} {x:Str} {k:Nat},(l.filter fun q=>p q.1).lookup x=some k->p x=true/\l.lookup x=some k
 | [],_,_,h=>by simp at h
 | (n,v) :: r,x,k,h=>by
  replace h:=List.filter_cons▸h;split at h
  ·rename_i hp;rw [lookup_cons] at h ⊢;cases hx:x==n with
   | true=>replace h:=hx▸h; (injection h with h; subst h); have:=beq_iff_eq.mp hx; subst this; exact ⟨hp,rfl⟩
   | false=>rw [hx] at h; exact cM h
  ·rename_i hp;obtain ⟨h1,h2⟩:=cM h;refine ⟨h1,?_⟩;rw [lookup_cons];cases hx:x==n with
   | true=>have:=beq_iff_eq.mp hx; subst this; exact absurd h1 (by exact hp)
   | false=>exact h2
theorem mL:∀ {qs:List (Expr×DV)},(∀ q∈qs,EvT Φ (isTrue q.1 Φ.fx.env (eval q.1 Φ.fx.env)) (tst q.2))->EvT Φ (dH (qs.map Prod.fst) Φ.fx.env) (nW true (qs.map Prod.snd))
 | [],_=>fun K s hd I=>EvR.pure (a:=true) I hd rfl
 | q :: r,h=>fun K s hd I=>by
  have e:dH ((q :: r).map Prod.fst) Φ.fx.env=(isTrue q.1 Φ.fx.env (eval q.1 Φ.fx.env) >>= fun ok=>if ok then dH (r.map Prod.fst) Φ.fx.env else pure false):=by
   unfold dH;rw [map_cons,forIn_cons];simp only [if_true,bind_assoc,pure_bind]
   congr 1
   funext ok
   cases ok
   ·exact gv _ _
   ·rfl
  rw [e];refine (h q (.head _)).bind (K₁:=fun c=>if c=true then nW true (r.map Prod.snd) K else K c) hd I fun t c s₁ g' B7 hk e=>?_;subst e;cases t
  ·exact EvR.pure g' hk rfl
  ·exact mL (fun x m=>h x (.tail _ m)) K s₁ hk g'
noncomputable def cpl (fx:Fx) (C:Addr) (x x':Str) (k:Nat):Pl:=if k=fx.nf then .ns C x else if k=fx.nf+1 then (if x'=x then .off else .ns C x') else fx.pl k
noncomputable def aC (fx:Fx) (scope:Scope) (C:Addr) (x x':Str) (X:Addr->Prop):Fx:=
 { fx with env:=compEnvC scope (clOf fx.env.cells scope.names []) C fx.env,ρ:=(x,fx.nf) :: (x',fx.nf+1) :: fx.ρ.filter (fun p=>scope.names.lookup p.1==some .free),nf:=fx.nf+2,Mo:=fun b=>fx.Mo b\/X b,pl:=cpl fx C x x' }
structure CompOk (fx:Fx) (scope:Scope) (x x':Str):Prop where
 kind:scope.kind=.function
 loc:scope.names.lookup x=some .local
 loc':scope.names.lookup x'=some .local
 nocell:∀ y∈scope.names,y.2≠.cell
 names:∀ y∈scope.names,y.2=.local->scope.names.lookup y.1=some .local
 free:∀ n,(n,NameKind.free)∈scope.names->fx.env.kindOf n=some .cell\/fx.env.kindOf n=some .free
 cells:l6 fx.env.cells scope.names
 room:fx.nf+2<=fx.ns
section
variable {Φ:Ct} {s B0 w':Shared} {X:Addr->Prop} {scope:Scope} {x x':Str} {C:Addr}
def cpl_c (fx:Fx) (C:Addr) (x x':Str) (k:Nat):(k=fx.nf/\cpl fx C x x' k=.ns C x)\/(k=fx.nf+1/\x'≠x/\cpl fx C x x' k=.ns C x')\/(k=fx.nf+1/\cpl fx C x x' k=.off)\/cpl fx C x x' k=fx.pl k:=by
 unfold cpl;by_cases h:k=fx.nf
 ·exact .inl ⟨h,if_pos h⟩
 ·rw [if_neg h];by_cases h':k=fx.nf+1
  ·rw [if_pos h'];by_cases e:x'=x
   ·exact .inr (.inr (.inl ⟨h',if_pos e⟩))
   ·exact .inr (.inl ⟨h',e,if_neg e⟩)
  ·exact .inr (.inr (.inr (if_neg h')))
def rk (ho:∀ k,fx.nf<=k->fx.pl k=.off) (h:fx.pl k≠.off):cpl fx C x x' k=fx.pl k:=by
 have:k < fx.nf:=Nat.lt_of_not_le fun q=>h (ho k q);unfold cpl;rw [if_neg (ne_of_lt this),if_neg (ne_of_lt (Nat.lt_succ_of_lt this))]
def compFx_addr (h:((aC fx scope C x x' X).pl k).addr=some a):a=C\/(fx.pl k).addr=some a:=by
 have h:(cpl fx C x x' k).addr=some a:=h;rcases cpl_c fx C x x' k with ⟨_,e⟩ | ⟨_,_,e⟩ | ⟨_,e⟩ | e <;> replace h:=e▸h
 ·(injection h with h; subst h); exact .inl rfl
 ·(injection h with h; subst h); exact .inl rfl
 ·(injection h; done)
 ·exact .inr h
theorem CompOk.toFx (c:CompOk fx scope x x') (ok:FxOk fx) (hC:∀ j,(fx.pl j).addr≠some C) (hX0:∀ b,X b->fx.g.h0.get? b=none):FxOk (aC fx scope C x x' X) where
 gr:=ok.gr
 hand:=ok.hand
 kind:=c.kind
 globals:=ok.globals
 builtins:=ok.builtins
 vis:=fun y k hy=>by
  have kn:∀ y,(aC fx scope C x x' X).env.kindOf y=(gJ fx.env.scope.names scope.names).lookup y:=fun y=>by
   refine (?_:(relabel scope fx.env).names.lookup y=_);rw [cI ok.kind]
  have hy:((x,fx.nf) :: (x',fx.nf+1) :: fx.ρ.filter (fun p=>scope.names.lookup p.1==some .free)).lookup y=some k:=hy;rw [lookup_cons] at hy;cases hb:y==x with
  | true=>
   replace hy:=hb▸hy; (injection hy with hy; subst hy);cases eq_of_beq hb
   exact .inl ⟨by rw [kn,relab_lookup,c.loc]; rfl,if_pos rfl⟩
  | false=>
   rw [hb] at hy;replace hy:((x',fx.nf+1) :: fx.ρ.filter (fun p=>scope.names.lookup p.1==some .free)).lookup y=some k:=hy;rw [lookup_cons] at hy;cases DI:y==x' with
   | true=>
    replace hy:=DI▸hy; (injection hy with hy; subst hy);cases eq_of_beq DI
    refine .inl ⟨by rw [kn,relab_lookup,c.loc']; rfl,?_⟩;refine (?_:cpl fx C x x' (fx.nf+1)=.ns C x');unfold cpl;rw [if_neg (succ_ne_self _),if_pos rfl,if_neg fun q=>by rw [q,beq_self_eq_true] at hb; (injection hb; done)]
   | false=>
    rw [DI] at hy;obtain ⟨hf,hk⟩:=cM (p:=fun y=>scope.names.lookup y==some .free) hy;have hf:=eq_of_beq hf;have hm:=ip hf;right
    refine ⟨?_,?_⟩
    ·rw [kn,relab_lookup,hf];simp only [map_some,beq_self_eq_true,Bool.true_and];split
     ·exact .inl rfl
     ·exact .inr rfl
    ·obtain ⟨cc,GQ⟩:=c.cells y hm;refine ⟨cc,fL _ _ _ _ _ GQ (.inl hm) (fun d hd=>by (injection hd; done)),?_⟩;rcases ok.vis y k hk with ⟨q,_⟩ | ⟨_,c',C4,hp⟩
     ·rcases c.free y hm with q' | q' <;> rw [q] at q' <;> cases q'
     ·replace C4:=GQ▸C4; (injection C4 with C4; subst C4);exact (rk ok.offs (by exact hp.symm▸nofun)).trans hp
 inj:=fun k j e Cr=>by
  have e:cpl fx C x x' k=cpl fx C x x' j:=e;have Cr:cpl fx C x x' k≠.off:=Cr;have no:∀ j y,Pl.ns C y≠fx.pl j:=fun j y q=>hC j (by rw [<- q]; rfl);rcases cpl_c fx C x x' k with ⟨h1,e1⟩ | ⟨h1,n1,e1⟩ | ⟨_,e1⟩ | e1 <;> rcases cpl_c fx C x x' j with ⟨h2,e2⟩ | ⟨h2,n2,e2⟩ | ⟨_,e2⟩ | e2 <;>
   first | exact h1.trans h2.symm | exact absurd e1 Cr | exact absurd (e.trans e2) Cr | (replace e:=e2▸e1▸e; first | (cases e; exact absurd rfl n1) | (cases e; exact absurd rfl n2) | exact absurd e (no _ _) | exact absurd e.symm (no _ _) | exact ok.inj k j e (e1▸Cr))
 apart:=fun k j a y cc e1 e2=>by
  have e1:cpl fx C x x' k=.ns a y:=e1;have e2:cpl fx C x x' j=.cell cc:=e2;have e2:fx.pl j=.cell cc:=by
   rcases cpl_c fx C x x' j with ⟨_,q⟩ | ⟨_,_,q⟩ | ⟨_,q⟩ | q
   ·exact nomatch q.symm.trans e2
   ·exact nomatch q.symm.trans e2
   ·exact nomatch q.symm.trans e2
   ·exact q.symm.trans e2
  have ER:a=C->a≠cc:=fun z q=>hC j (by rw [e2,<- z,q]; rfl);rcases cpl_c fx C x x' k with ⟨_,q⟩ | ⟨_,_,q⟩ | ⟨_,q⟩ | q <;> replace e1:=q▸e1
  ·(injection e1 with e1; subst e1); exact ER rfl
  ·(injection e1 with e1; subst e1); exact ER rfl
  ·(injection e1; done)
  ·exact ok.apart k j a y cc e1 e2
 offs:=fun k hk=>by
  have hk:fx.nf+2<=k:=hk;have a:k≠fx.nf:=ne_of_gt (J6 (Nat.lt_add_of_pos_right (by decide)) hk);have b:k≠fx.nf+1:=ne_of_gt hk;exact (if_neg a).trans ((if_neg b).trans (ok.offs k (zB1 (le_add_right _ _) hk)))
 nfs:=c.room
 room:=ok.room
 units:=ok.units
 call:=ok.call
 mo0:=fun a q=>q.elim (ok.mo0 a) (hX0 a)
def comp_own (q:(Ct.mk (aC Φ.fx scope C x x' X) oa G).own a) (h:oa=Φ.oa):a=C\/Φ.own a:=by
 subst h;rcases q with ⟨j,q⟩ | q
 ·exact (compFx_addr q).imp id fun q=>.inl ⟨j,q⟩
 ·exact .inr (.inr q)
def tM (I:Inv Φ s) (q:Φ.own a):(Ct.mk (aC Φ.fx scope C x x' X) Φ.oa Φ.G).own a:=by
 rcases q with ⟨j,q⟩ | q
 ·exact .inl ⟨j,by refine (?_:(cpl Φ.fx C x x' j).addr=some a); rw [rk I.ok.offs fun e=>by replace q:=e▸q; (injection q; done)]; exact q⟩
 ·exact .inr q
theorem Inv.comp (c:CompOk Φ.fx scope x x') (I:Inv Φ B0) (B:Base Φ.fx.g s) (k:ah B0.heap s.heap) (hX:∀ b,X b->B0.heap.get? b=none/\aI s.heap b/\b≠C) (CX:B0.heap.get? C=none) (hC:s.heap.Ns C fun U=>none) :
  Inv ⟨aC Φ.fx scope C x x' X,Φ.oa,Φ.G⟩ s/\a7 Φ.bad (Ct.mk (aC Φ.fx scope C x x' X) Φ.oa Φ.G).bad B0.heap s.heap:=by
 have HX:aI s.heap C:=by obtain ⟨o,_,_,e,_⟩:=hC; exact ⟨o,e⟩
 have hCp:∀ j,(Φ.fx.pl j).addr≠some C:=fun j e=>(I.new C (.inl ⟨j,e⟩)).1.elim fun o e=>af CX e;have mk:a7 Φ.bad (Ct.mk (aC Φ.fx scope C x x' X) Φ.oa Φ.G).bad B0.heap s.heap:=fun b o e n=>by
  refine ⟨fun q=>?_,k b o e⟩;rcases q with (q | q) | q
  ·exact n (.inl q)
  ·exact af (hX b q).1 e
  ·exact (comp_own (Φ:=Φ) q rfl).elim (fun q=>af CX (q▸e)) fun q=>n (.inr q)
 refine ⟨⟨c.toFx I.ok hCp fun b q=>aH (fun l=>I.base.stays.live l) (hX b q).1,B,fun j=>?_,fun a q=>?_,I.inj,fun j a e i q=>?_,I.gl,fun a q=>q.elim (fun q=>k.live (I.mo a q)) fun q=>(hX a q).2.1⟩,mk⟩
 ·obtain ⟨v,r,so⟩:=I.slot j;have so':=so.map mk (fun U U U U q=>q) fun a U o e=>k a o e;refine ⟨v,?_,so'⟩;refine (?_:aw s.heap (cpl Φ.fx C x x' j) v);have vn:Φ.fx.nf<=j->v=none:=fun q=>by rw [I.ok.offs j q] at r; exact r
  rcases cpl_c Φ.fx C x x' j with ⟨h,e⟩ | ⟨h,_,e⟩ | ⟨h,e⟩ | e <;> refine e.symm▸?_
  ·rw [vn (zB2 h.symm)]; exact ⟨_,hC,rfl⟩
  ·rw [vn (h▸le_succ _)]; exact ⟨_,hC,rfl⟩
  ·exact vn (h▸le_succ _)
  ·exact r.keep k
 ·rcases comp_own (Φ:=Φ) q rfl with rfl | q
  ·exact ⟨HX,aH (fun l=>I.base.stays.live l) CX,fun z=>z.elim (fun z=>(I.mo a z).elim fun o e=>af CX e) fun z=>(hX a z).2.2 rfl⟩
  ·obtain ⟨⟨o,e⟩,n,m⟩:=I.new a q;exact ⟨⟨o,k a o e⟩,n,fun z=>z.elim m fun z=>af (hX a z).1 e⟩
 ·rcases compFx_addr q with rfl | q
  ·exact (I.new a (.inr ⟨j,e⟩)).1.elim fun o e=>af CX e
  ·exact I.off j a e i q
end
def fB {h h':Heap} {D:Addr} {vs:Array Value} (p:h.PlainList D vs) (k:∀ o,h.get? D=some o->h'.get? D=some o):h'.PlainList D vs:=p.elim fun c e=>⟨c,k _ e⟩
def hU {h:Heap} {D:Addr} {vs:Array Value} (p:h.PlainList D vs):aI h D:=p.elim fun c e=>⟨_,e⟩
def tJ {Φ:Ct} {k:Nat} {sl:Slot} (h:Φ.oa k=[]):Φ.put k [] sl=⟨Φ.fx,Φ.oa,Φ.G.set k sl⟩:=by
 unfold Ct.put
 congr 1
 funext j
 by_cases e:j=k
 ·rw [if_pos e,e,h]
 ·exact if_neg e
def tP (so:aV g bad h al oak none sl):oak=[]:=by
 cases sl with
 | unset=>exact so.1
 | junk=>exact so.1
 | v x=>exact so.1
 | ali k j i=>exact so.1
 | ownL l=>obtain ⟨_,_,q,_⟩:=so; exact nN q.symm
 | ownD l=>obtain ⟨_,_,q,_⟩:=so; exact nN q.symm
 | ownI l=>obtain ⟨_,_,_,_,q,_⟩:=so; exact nN q.symm
 | obj l=>obtain ⟨_,q,_⟩:=so; exact nN q.symm
section
variable {Φ:Ct} {s B0 w':Shared} {scope:Scope} {x x':Str}
inductive CompEnd (Φ:Ct) (B0:Shared) (K:List V->Prop) (D C:Addr) (s':Shared):Prop
 | mk:∀ m ys,Base Φ.fx.g s'->ah B0.heap s'.heap->B0.heap.get? C=none->B0.heap.get? D=none->D≠C->s'.heap.Ns C m->K ys->∀ vs,s'.heap.PlainList D vs->RpAll Φ.fx.g (fun b=>Φ.bad b\/b=C) s'.heap vs.toList ys->CompEnd Φ B0 K D C s'
def o8 (Φ:Ct) (scope:Scope) (T:Expr) (x x':Str) (b:Gs->V->Option Gs):Prop:=(∀ G y G₁ z,b G y=some G₁->b G₁ z=b G z) /\
 ∀ C X G G₁ v y s,Φ.fx.env.scope.kind=.function->(∀ k,Φ.fx.nf<=k->Φ.oa k=[])->Inv ⟨aC Φ.fx scope C x x' X,Φ.oa,G⟩ s->b G y=some G₁->(Ct.mk (aC Φ.fx scope C x x' X) Φ.oa G).rp s.heap v y ->
  (Ct.mk (aC Φ.fx scope C x x' X) Φ.oa G).wp (assign T (aC Φ.fx scope C x x' X).env v) (fun U s'=>Inv ⟨aC Φ.fx scope C x x' X,Φ.oa,G₁⟩ s'/\∀ b o,b≠C->s.heap.get? b=some o->s'.heap.get? b=some o) s
inductive CLC (Φ:Ct) (CM:Fx) (B0:Shared) (Sp:Nat->Heap->Prop) (vals:List Value) (l0 l:List V) (Da:Addr) (de:D) (ts:List D) (b:Gs->V->Option Gs) (K:List V->Prop) (n:Nat) (s':Shared):Prop
 | mk (i:Nat) (G':Gs) (zs:List V) (vs:Array Value) (en:n=l.length - i) (hi:i<=l.length) (st:Sp i s'.heap) (I':Inv ⟨CM,Φ.oa,G'⟩ s') (hG:∀ z,b G' z=b Φ.G z) (kx:ah B0.heap s'.heap) (rv:(Ct.mk CM Φ.oa Φ.G).rps s'.heap vals l0)
   (hD:s'.heap.PlainList Da vs) (rz:(Ct.mk CM Φ.oa Φ.G).rps s'.heap vs.toList zs) (hz:zs.length<=i) (ec:iH de ts b Φ.G (l.drop i) fun ys=>K (zs++ys)):CLC Φ CM B0 Sp vals l0 l Da de ts b K n s'
def ki {CF iter T:Expr} {b:Gs->V->Option Gs} {ifs:List Expr} {pos:Pos} {l:List V} {it:Value} {de:D} {ts:List D} {K:List V->Prop} {RR:Value->Addr->Result->Shared->Prop} {E:Value->Shared->Prop}
  (c:CompOk Φ.fx scope x x') (Cf:Inv Φ B0) (gr:Grown B0 w') (fa:FeedAt Φ T false B0 w' it l)
  (DA:∀ C X oa G,Ev ⟨aC Φ.fx scope C x x' X,oa,G⟩ (eval CF (aC Φ.fx scope C x x' X).env) (de G))
  (CU:∀ C X oa G,EvT ⟨aC Φ.fx scope C x x' X,oa,G⟩ (dH ifs (aC Φ.fx scope C x x' X).env) (cm true ts G))
  (hT:o8 Φ scope T x x' b) (er:iH de ts b Φ.G l K)
  (hK:∀ D C s',CompEnd Φ B0 K D C s'->RR (.ref D) C (.ok .next) s') :
  wpAny (model Φ.fx.g.prog Φ.fx.g.w) Φ.fx.A (newList []) (fun acc Cw=>wpAny (model Φ.fx.g.prog Φ.fx.g.w) Φ.fx.A (newFunctionEnv scope Φ.fx.env.globals (clOf Φ.fx.env.cells scope.names []) [] Φ.fx.env.qual none .none (some Φ.fx.env)) (fun Gz Cx=>
   codeAny (model Φ.fx.g.prog Φ.fx.g.w) Φ.fx.A (.compStart (.ListComp CF [⟨T,iter,ifs,0⟩] scope pos) 0 it acc { Gz with scope:=relabel scope Φ.fx.env }) (RR acc Gz.locals) Cx) E Cw) E w':=by
 refine aQ fun Z kZ=>?_;obtain ⟨J,fp,wr,vals,l0,Sp,rfl,F,Fw,rv,D6,hfp,hsz⟩:=fa;refine kZ (wpAny_newObj_type (wpAny_newFunctionEnv c.nocell (fun y hy=>nM hy) (fun Cs C3 C0=>?_) c.kind));clear kZ;dsimp only at C3 C0 ⊢;generalize hH2:w'.heap.push { cls:=.type "list",dict:=none,data:=.seq ([]:List Value).toArray }=H2 at C3 C0 ⊢;have HT:w'.heap.get? w'.heap.objs.size=none:=ag _;have E7:B0.heap.get? w'.heap.objs.size=none:=aH gr.keeps.live HT;have up1:∀ b o,w'.heap.get? b=some o->H2.get? b=some o:=fun b o e=>hH2▸J7 _ e;have HV:H2.get? w'.heap.objs.size=some { cls:=.type "list",dict:=none,data:=.seq ([]:List Value).toArray }:=hH2▸J0 _ rfl;have HW:H2.get? H2.objs.size=none:=ag _;have GS:w'.heap.get? H2.objs.size=none:=aH (fun l=>l.elim fun o e=>⟨o,up1 _ o e⟩) HW;have CX:B0.heap.get? H2.objs.size=none:=aH gr.keeps.live GS;have EH:w'.heap.objs.size≠H2.objs.size:=fun q=>af HW (q▸HV);have G9:∀ b o,b≠H2.objs.size->H2.get? b=some o->Cs.get? b=some o:=fun b o n e=>C0.extBut b o n (J7 _ e);have up:ah w'.heap Cs:=fun b o e=>G9 b o (fun q=>af GS (q▸e)) (up1 b o e);have HU:Cs.PlainList w'.heap.objs.size #[]:=⟨_,G9 _ _ EH HV⟩;generalize hDD:w'.heap.objs.size=D at HT E7 HV EH HU ⊢;generalize hCC:H2.objs.size=C at C3 C0 HW CX GS EH G9 ⊢;have H0:Grown B0 { w' with heap:=Cs,toks:=w'.toks+([]:List (Str×Value)).length }:=gr.trans ⟨up,rfl,rfl⟩
 let X:Addr->Prop:=fun b=>(b∈fp/\B0.heap.get? b=none)\/b=D
 have H1:∀ b∈fp,aI w'.heap b:=fun b hb=>F.live 0 _ b Fw hb;have H3:∀ b∈fp,b≠C:=fun b hb q=>(H1 b hb).elim fun o e=>af GS (q▸e);have fpD:∀ b∈fp,b≠D:=fun b hb q=>(H1 b hb).elim fun o e=>af HT (q▸e);have hXp:∀ b,X b->B0.heap.get? b=none/\aI Cs b/\b≠C:=fun b q=>by
  rcases q with ⟨q,n⟩ | rfl
  ·exact ⟨n,up.live (H1 b q),H3 b q⟩
  ·exact ⟨E7,hU HU,EH⟩
 obtain ⟨g',FH⟩:=Cf.comp (X:=X) c (Cf.base.grown H0) H0.keeps hXp CX C3
 let CM:=aC Φ.fx scope C x x' X
 have Eh:∀ k,Φ.fx.nf<=k->Φ.oa k=[]:=fun k hk=>by
  obtain ⟨v,r,so⟩:=Cf.slot k;replace r:=(Cf.ok.offs _ hk)▸r;cases r
  exact tP so
 have D9:∀ b∈wr,CM.Mo b:=fun b m=>.inr (.inl ⟨F.sub b m,D6 b m⟩);have Fs:∀ b∈wr,Φ.fx.g.h0.get? b=none:=fun b m=>aH (fun l=>Cf.base.stays.live l) (D6 b m);have D0:Φ.fx.g.h0.get? D=none:=aH (fun l=>Cf.base.stays.live l) E7;have wrD:D∉wr:=fun m=>fpD D (F.sub D m) rfl;have DE:Sp 0 Cs:=F.frame _ _ _ Fw fun b U o e=>up b o e;have plC:(CM.pl Φ.fx.nf).addr=some C:=by show (cpl Φ.fx C x x' Φ.fx.nf).addr=_; unfold cpl; rw [if_pos rfl]; rfl
 have FJ:codeAny (model Φ.fx.g.prog Φ.fx.g.w) Φ.fx.A (.compLoop (.ListComp CF [⟨T,iter,ifs,0⟩] scope pos) 0 (.ref J) (.ref D) CM.env) (RR (.ref D) C) { w' with heap:=Cs,toks:=w'.toks+([]:List (Str×Value)).length }:=by
  refine kN (CLC Φ CM B0 Sp vals l0 l D de ts b K) ?_ l.length ⟨0,Φ.G,[],#[],rfl,zero_le _,DE,g',fun U=>rfl,H0.keeps,rv.map FH,HU,.nil,zero_le _,er⟩;intro n s' hLC;refine aQ fun Z kZ=>?_;obtain ⟨i,G',zs,vs,rfl,hi,st,I',hG,kx,FA,Go,rz,hz,ec⟩:=hLC;cases hx:l[i]? with
  | none=>
   have Dy:i=l.length:=le_antisymm hi (List.getElem?_eq_none_iff.mp hx);subst Dy;replace ec:=List.drop_length▸ec;refine kZ (F.over st fun h' tk hk=>hK D C _ ?_);have kC:∀ b o,s'.heap.get? b=some o->b∉wr->h'.get? b=some o:=fun b o e n=>hk b o n e;obtain ⟨v,⟨m,hn,hv⟩,_⟩:∃ v,(∃ m,s'.heap.Ns C m/\m x=v)/\True:=by
    obtain ⟨v,r,_⟩:=I'.slot Φ.fx.nf;have r:aw s'.heap (cpl Φ.fx C x x' Φ.fx.nf) v:=r;unfold cpl at r;rw [if_pos rfl] at r;exact ⟨v,r,trivial⟩
   refine ⟨m,zs,⟨fun b o e=>hk b o (fun q=>af (Fs b q) e) (I'.base.stays b o e),I'.base.os,I'.base.gens⟩,fun b o e=>hk b o (fun q=>af (D6 b q) e) (kx b o e),CX,E7,EH,hn.at' fun o e=>hk C o (fun q=>H3 C (F.sub C q) rfl) e,?_,vs,fB Go fun o e=>hk D o wrD e,rz.map fun b o e n=>⟨fun q=>n ?_,hk b o (fun q=>n (.inl (D9 b q))) e⟩⟩
   ·have ec:K (zs++[]):=ec;rwa [append_nil] at ec
   ·rcases q with q | rfl
    ·exact q.imp .inl fun q=>tM (X:=X) Cf q
    ·exact .inr (.inl ⟨_,plC⟩)
  | some y=>
   have Dy:=(List.getElem?_eq_some_iff.mp hx).1;have ed:l.drop i=y :: l.drop (i+1):=by rw [List.drop_eq_getElem_cons Dy]; congr 1; exact (List.getElem?_eq_some_iff.mp hx).2
   rw [ed] at ec;refine kZ (F.turn (bad:=(Ct.mk CM Φ.oa G').bad) hx st FA (fun a q=>I'.badLive q) (fun b m=>.inl (D9 b m)) fun v h' tk B8 hk rx=>?_);clear kZ;refine aQ fun Z kZ=>?_;have I3:Inv ⟨CM,Φ.oa,G'⟩ { s' with heap:=h',toks:=tk }:=Inv.others (Φ:=⟨CM,Φ.oa,G'⟩) (Mo₂:=CM.Mo) I' hk D9 Fs (fun a q=>q) fun a q=>by
    by_cases nw:a∈wr
    ·exact F.live _ _ a B8 (F.sub a nw)
    ·exact (I'.mo a q).elim fun o e=>⟨o,hk a o nw e⟩
   have mk3:a7 (Ct.mk CM Φ.oa Φ.G).bad (Ct.mk CM Φ.oa Φ.G).bad s'.heap h':=fun b o e n=>⟨n,hk b o (fun m=>n (.inl (D9 b m))) e⟩;have ec:okK (b Φ.G y) fun G₁=>_:=ec;refine ab ec fun G₁ Ep ec=>kZ (wpAny_mono (hT.2 C X G' G₁ v y _ Cf.ok.kind Eh I3 ((hG y).trans Ep) rx _) (fun U Cx q=>?_) fun U U z=>z);clear kZ;refine aQ fun Z kZ=>?_;obtain ⟨I4,kC⟩:=q;have mk4:a7 (Ct.mk CM Φ.oa Φ.G).bad (Ct.mk CM Φ.oa Φ.G).bad h' Cx.heap:=fun b o e n=>⟨n,kC b o (fun q=>n (.inr (.inl ⟨_,q▸plC⟩))) e⟩;have kx4:ah B0.heap Cx.heap:=fun b o e=>kC b o (fun q=>af CX (q▸e)) (hk b o (fun q=>af (D6 b q) e) (kx b o e));have Fv:Sp (i+1) Cx.heap:=F.frame _ _ _ B8 fun b hb o e=>kC b o (H3 b hb) e;have rv4:=(FA.map mk3).map mk4;have rz4:=(rz.map mk3).map mk4;have hD4:Cx.heap.PlainList D vs:=fB Go fun o e=>kC D o EH (hk D o wrD e);refine kZ (wpAny_mono (CU C X Φ.oa G₁ _ Cx ec I4 _) (fun b' CB ⟨B5,k5,c5,hc5,e5⟩=>?_) fun U U z=>z);clear kZ;refine aQ fun Z kZ=>?_;subst e5;have I5:=I4.keep B5 k5;have st5:Sp (i+1) CB.heap:=F.frame _ _ _ Fv fun b hb o e=>k5 b o e;have hD5:CB.heap.PlainList D vs:=fB hD4 fun o e=>k5 _ o e;have hGs:∀ z,b G₁ z=b Φ.G z:=fun z=>hT.1 _ _ _ z Ep;cases b' with
   | false=>exact kZ ⟨l.length - (i+1),Nat.sub_succ_lt_self _ _ Dy,i+1,_,zs,vs,rfl,Dy,st5,I5,hGs,kx4.trans k5,rv4.keep k5,hD5,rz4.keep k5,Nat.le_succ_of_le hz,hc5⟩
   | true=>
    refine kZ (wpAny_mono (DA C X Φ.oa G₁ _ CB hc5 I5 _) (fun yv DM ⟨B6,k6,z,hz6,rz6⟩=>?_) fun U U z=>z);clear kZ;refine aQ fun Z kZ=>?_;have I6:=I5.keep B6 k6;have hD6:DM.heap.PlainList D vs:=fB hD5 fun o e=>k6 _ o e;have rzs:=(rz4.keep k5).keep k6;refine kZ (wpAny_list_append_plain (hsz:=bV (by rw [aR (Φ:=⟨CM,Φ.oa,Φ.G⟩) rzs]; exact zB1 hz (zB1 hi hsz))) hD6 fun Ef hD7 FU=>?_);have k7:∀ b o,b∉[D]->DM.heap.get? b=some o->Ef.get? b=some o:=fun b o n e=>FU.extBut b o (fun q=>n (by rw [q]; exact .head _)) e;have I7:Inv ⟨CM,Φ.oa,G₁⟩ { DM with heap:=Ef,toks:=DM.toks }:=Inv.others (Φ:=⟨CM,Φ.oa,G₁⟩) (Mo₂:=CM.Mo) I6 k7 (fun b m=>by cases zA6 m; exact .inr (.inr rfl)) (fun b m=>by cases zA6 m; exact D0) (fun a q=>q) fun a q=>by
     by_cases nd:a=D
     ·subst nd; exact hU hD7
     ·exact (I6.mo a q).elim fun o e=>⟨o,FU.extBut a o nd e⟩
    have Hk:a7 (Ct.mk CM Φ.oa Φ.G).bad (Ct.mk CM Φ.oa Φ.G).bad DM.heap Ef:=fun b o e n=>⟨n,FU.extBut b o (fun q=>n (.inl (.inr (.inr q)))) e⟩;refine ⟨l.length - (i+1),Nat.sub_succ_lt_self _ _ Dy,i+1,_,zs++[z],vs.push yv,rfl,Dy,F.frame _ _ _ st5 fun b hb o e=>FU.extBut b o (fpD b hb) (k6 b o e),I7,hGs,fun b o e=>FU.extBut b o (fun q=>af E7 (q▸e)) (((kx4.trans k5).trans k6) b o e),((rv4.keep k5).keep k6).map Hk,hD7,?_,by rw [zB5]; exact succ_le_succ hz,?_⟩
    ·rw [toList_push];exact (rzs.map Hk).append (.cons (rz6.map Hk) .nil)
    ·have e:(fun ys=>K (zs++[z]++ys))=fun ys=>K (zs++(z :: ys)):=funext fun ys=>by rw [append_assoc]; rfl
     rw [e]; exact hz6
 exact codeAny_compStart_list FJ (F.self 0 _ _ _ DE FJ)
end
section
variable {fx:Fx} {Φ:Ct} {s:Shared}
def hJ (h:pz value=true):swappedStores [.Tuple es kk p] value env=pure none/\∀ t n,swapsWith value t n env=pure false:=by
 refine ⟨?_,fun t n=>aP (zA2 h).1⟩;cases value <;> first | rfl | exact nB h
def oU {d:Gs->DV} (hs:pz value=true) (hT:TgtsOk fx.ρ fx.env es ks) (h:∀ oa G,Ev ⟨fx,oa,G⟩ (eval value fx.env) (d G)) :
  ExB fx (exec (.Assign [.Tuple es kk p] value spos) fx.env) (fun G K=>d G fun x=>okK (bu ks G x) (K none)):=fun oa G K s hd I E=>
 Assign_Tuple (wpAny_mono (h oa G _ s hd I _) (fun v s₁ ⟨B,B7,x,hx,r⟩=>ab hx fun G' e kG=>wpAny_mono (Bu (Φ:=⟨fx,oa,G⟩) hT (I.keep B B7) e r _) (fun U w' q=>.next q.1 ((Tr.of_keeps B7).trans q.2.1) kG) fun U U z=>z) fun U U z=>z) ((hJ (es:=es) (kk:=kk) (p:=p) hs).2 _ _:swapsWith value (some (.Tuple es kk p)) spos.line fx.env=pure false) (hJ hs).1
def jT (e:ib G k=some l):getSlot G k=.ownD l:=by
 unfold ib at e
 revert e
 cases getSlot G k with
 | ownD m=>exact fun e=>congrArg Slot.ownD (Option.some.inj e)
 | _=>exact fun e=>nN e.symm
def fD (e:lf G k=some l):getSlot G k=.obj l:=by
 unfold lf at e
 revert e
 cases getSlot G k with
 | obj m=>exact fun e=>congrArg Slot.obj (Option.some.inj e)
 | _=>exact fun e=>nN e.symm
def b7 (e:dC G k c=some o):getSlot G k=.obj o/\o.c=c:=by
 unfold dC at e;obtain ⟨o',h,e⟩:=bind_eq_some_iff.mp e;exact if_elim (C:=fun o=>getSlot G k=.obj o/\o.c=c) e fun q=>⟨fD h,q⟩
def cZ (e:ia G k=some l):getSlot G k=.ownI l:=by
 unfold ia at e
 revert e
 cases getSlot G k with
 | ownI m=>exact fun e=>congrArg Slot.ownI (Option.some.inj e)
 | _=>exact fun e=>nN e.symm
def eQ (e:dI G k c=some o):getSlot G k=.ownI o/\o.c=c:=by
 unfold dI at e;obtain ⟨o',h,e⟩:=bind_eq_some_iff.mp e;exact if_elim (C:=fun o=>getSlot G k=.ownI o/\o.c=c) e fun q=>⟨cZ h,q⟩
def qB (I:Inv Φ s) (e:getSlot Φ.G k=.ownL l):∃ a,Φ.oa k=[[a]]/\aw s.heap (Φ.fx.pl k) (some (.ref a))/\OwnLAt Φ.fx.g Φ.bad s.heap a l:=by
 obtain ⟨v,pr,so⟩:=I.slot k;rw [e] at so;obtain ⟨a,ha,rfl,ow⟩:=so;exact ⟨a,ha,pr,ow⟩
def qC (I:Inv Φ s) (e:getSlot Φ.G k=.ownD l):∃ a,Φ.oa k=[[a]]/\aw s.heap (Φ.fx.pl k) (some (.ref a))/\OwnDAt Φ.fx.g Φ.bad s.heap a l:=by
 obtain ⟨v,pr,so⟩:=I.slot k;rw [e] at so;obtain ⟨a,ha,rfl,ow⟩:=so;exact ⟨a,ha,pr,ow⟩
def bY (I:Inv Φ s) (e:getSlot Φ.G k=.obj o):∃ u,aw s.heap (Φ.fx.pl k) (some u)/\ObjAt Φ.fx.g Φ.bad s.heap (Φ.oa k) u o:=by
 obtain ⟨v,pr,so⟩:=I.slot k;rw [e] at so;obtain ⟨u,rfl,ow⟩:=so;exact ⟨u,pr,ow⟩
theorem Inv.nsys (I:Inv Φ s) (q:Φ.own a):a≠sysModules:=fun e=>I.ok.gr.sysm.elim fun o z=>af (I.new a q).2.1 (e▸z)
theorem c9.rp (k:a7 bad B4 h h) (na:¬ B4 a/\a≠sysModules) (r:c9 g bad h a x):Rp g B4 h (.ref a) x:=by
 cases x with
 | list l=>cases (r:OwnLAt g bad h a l) with | mk o vs n ho hc hd hl=>exact .list na.1 ho hc hd (hl.map k)
 | dict l=>cases (r:OwnDAt g bad h a l) with | mk o es n ho hc hd hk r1 r2=>exact .dict na.1 na.2 ho hc hd hk rfl rfl (r1.map k) (r2.map k)
 | _=>exact r.elim
theorem InAll.rp (k:a7 bad B4 h h) (r:InAll g bad h vs l F):(∀ a∈F,¬ B4 a/\a≠sysModules)->RpAll g B4 h vs l:=by
 induction r with
 | nil=>exact fun U=>.nil
 | cons x _ ih=>exact fun na=>.cons (x.rp k (na _ (.head _))) (ih fun a m=>na a (.tail _ m))
theorem FldAt.rp (k:a7 bad B4 h h) (na:∀ a∈fa,¬ B4 a/\a≠sysModules) (r:FldAt g bad h w f fa):Rp g B4 h w f.v:=by
 cases r with
 | val x=>exact x.map k
 | L x=>exact c9.rp (x:=.list _) k (na _ (.head _)) x
 | D x=>exact c9.rp (x:=.dict _) k (na _ (.head _)) x
 | N x=>cases x with | mk o es n ho hc hd hk r1 r2=>exact .dict (na _ (.head _)).1 (na _ (.head _)).2 ho hc hd hk rfl rfl (r1.map k) (r2.rp k fun a m=>na a (.tail _ m))
theorem FldsAt.rp (k:a7 bad B4 h h) (r:FldsAt g bad h ws fs F):(∀ a∈F.flatten,¬ B4 a/\a≠sysModules)->RpAll g B4 h ws (fs.map Fld.v):=by
 induction r with
 | nil=>exact fun U=>.nil
 | cons x _ ih=>exact fun na=>.cons (x.rp k fun a m=>na a (mem_append_left _ m)) (ih fun a m=>na a (mem_append_right _ m))
theorem ObjAt.slot (k:a7 bad B4 h h) (na:∀ a∈F.flatten,¬ B4 a/\a≠sysModules) (r:ObjAt g bad h F u o):aV g B4 h al [] (some u) o.sl:=by
 obtain ⟨b,a,od,ws,rfl,nb,GG,hb,ho,hf,hl,nd⟩:=r;obtain ⟨c,fs⟩:=o;cases fs with
 | nil=>exact ⟨rfl,_,rfl⟩
 | cons f fs=>exact ⟨rfl,_,rfl,.inst (c:=c) (k _ _ hb nb).1 (k _ _ ho GG).1 hb ho hf rfl (map_map.trans (map_id _)) (hl.rp k na)⟩
theorem Inv.frz (I:Inv Φ s) (pr:aw s.heap (Φ.fx.pl k) (some u)) (hi:¬ isI sl) (C':sl≠.unset) (DW:∀ o,sl≠.obj o) (cv:∀ B4 al,(∀ a∈(Φ.oa k).flatten,¬ B4 a/\a≠sysModules)->a7 Φ.bad B4 s.heap s.heap->aV Φ.fx.g B4 s.heap al [] (some u) sl):Inv (Φ.put k [] sl) s/\Tr Φ s (Φ.put k [] sl) s:=
 Inv.upd (s':=s) I rfl rfl pr (fun U U U e=>e) (fun U l=>l) (fun a m=>nM m) (cv _ _ (fun a m=>⟨fun q=>by
  rcases q with q | q | ⟨j,q⟩
  ·exact (I.new a (.inr ⟨k,m⟩)).2.2 q
  ·exact q.elim fun j q=>I.off k a m j q
  ·by_cases e:j=k
   ·subst e; rw [put_self] at q; exact nM q
   ·rw [cJ e] at q; exact e (I.inj j k a q m),I.nsys (.inr ⟨k,m⟩)⟩) fun b o e n=>⟨fun q=>n (q.imp id fun q=>(put_own q).elim (fun q=>nM q) id),e⟩) (fun q=>absurd q hi) C' fun o e=>absurd e (DW o)
def sC (h:ExB fx t Y):ExB fx t (fun G K=>okK (gK G k) fun l=>Y (G.set k (.v (.list l))) K):=fun oa G K s hd I E=>ab hd fun l e hk=>by
 obtain ⟨a,ha,pr,ow⟩:=qB (Φ:=⟨fx,oa,G⟩) I (m7 e);have q:=Inv.frz (Φ:=⟨fx,oa,G⟩) (sl:=.v (.list l)) I pr id nofun nofun fun b al na mk=>⟨rfl,_,rfl,c9.rp (x:=.list l) mk (na a (by rw [ha]; exact .head _)) ow⟩;exact wpAny_mono (h _ _ K s hk q.1 E) (fun U U p=>p.lift (Φ:=⟨fx,oa,G⟩) q.2) fun U U z=>z
def oT (h:ExB fx t Y):ExB fx t (fun G K=>okK (ib G k) fun l=>Y (G.set k (.v (.dict l))) K):=fun oa G K s hd I E=>ab hd fun l e hk=>by
 obtain ⟨a,ha,pr,ow⟩:=qC (Φ:=⟨fx,oa,G⟩) I (jT e);have q:=Inv.frz (Φ:=⟨fx,oa,G⟩) (sl:=.v (.dict l)) I pr id nofun nofun fun b al na mk=>⟨rfl,_,rfl,c9.rp (x:=.dict l) mk (na a (by rw [ha]; exact .head _)) ow⟩;exact wpAny_mono (h _ _ K s hk q.1 E) (fun U U p=>p.lift (Φ:=⟨fx,oa,G⟩) q.2) fun U U z=>z
def vL (o:Ob):¬ isI o.sl/\o.sl≠.unset/\∀ p,o.sl≠.obj p:=by
 obtain ⟨c,fs⟩:=o;cases fs with
 | nil=>exact ⟨id,nofun,nofun⟩
 | cons=>exact ⟨id,nofun,nofun⟩
def oS (h:ExB fx t Y):ExB fx t (fun G K=>okK (lf G k) fun o=>Y (G.set k o.sl) K):=fun oa G K s hd I E=>ab hd fun o e hk=>by
 obtain ⟨u,pr,ow⟩:=bY (Φ:=⟨fx,oa,G⟩) I (fD e);have q:=Inv.frz (Φ:=⟨fx,oa,G⟩) (sl:=o.sl) I pr (vL o).1 (vL o).2.1 (vL o).2.2 fun b al na mk=>ow.slot mk na;exact wpAny_mono (h _ _ K s hk q.1 E) (fun U U p=>p.lift (Φ:=⟨fx,oa,G⟩) q.2) fun U U z=>z
theorem Inv.quiet (I:Inv Φ s):interactive Φ.fx.env=false:=by unfold interactive; rw [I.ok.kind]; rfl
def rB {f:Nat} {qs:List (Expr×DV)} {K:V->Prop} {Q:Value->Shared->Prop} {E:Value->Shared->Prop} (hx:bK Φ.fx.env.scope.names n=true) (hf:Φ.fx.g.fns.lookup n=some f) (CW:keepIn Φ.fx.g.K (.ref (Φ.fx.g.fn f))=true)
  (hq:∀ q∈qs,aj q.1=true/\bi Φ q) (hd:bn (qs.map Prod.snd) fun xs=>(ak Φ.fx.g.P Φ.fx.d).p f xs K) (I:Inv Φ s)
  (hQ:∀ v s' y,Inv Φ s'->ah s.heap s'.heap->K y->Φ.rp s'.heap v y->(Φ.fx.g.newf f=true->jC s.heap v)->Q v s'):wpAny (model Φ.fx.g.prog Φ.fx.g.w) Φ.fx.A (eval (.Call (.Name n fp) (qs.map Prod.fst) [] pos) Φ.fx.env) Q E s:=
 wpAny_mono (ev_call hx hf CW hq K s hd I E) (by rintro v s' ⟨⟨B,k,y,hy,r⟩,nv⟩; exact hQ v s' y (I.keep B k) k hy r nv) fun U U z=>z
def xi {qs:Gs->List (Expr×DV)} (Dz:∀ G,(qs G).map Prod.fst=es) (hx:bK fx.env.scope.names n=true) (hf:fx.g.fns.lookup n=some f) (CW:keepIn fx.g.K (.ref (fx.g.fn f))=true)
  (hq:∀ oa G,∀ q∈qs G,aj q.1=true/\bi ⟨fx,oa,G⟩ q):ExB fx (exec (.Expr (.Call (.Name n fp) es [] cpos) pos) fx.env) (fun G K=>bn ((qs G).map Prod.snd) fun xs=>(ak fx.g.P fx.d).p f xs fun y=>isNone y=true/\K none G):=fun oa G K s hd I E=>by
 rw [<- Dz G];refine wpAny_Expr (rB (Φ:=⟨fx,oa,G⟩) hx hf CW (hq oa G) hd I fun v s' y I' k hy r U=>?_) I.quiet rfl;cases y with
 | none=>exact r.none_elim (.next (Φ:=⟨fx,oa,G⟩) I' (.of_keeps k) hy.2)
 | _=>(injection hy.1; done)
def gG (o:Obj) (f:Array Value->Array Value):(o.mapSeq f).dict=o.dict:=by
 obtain ⟨c,d,dt,sl⟩:=o; cases dt <;> rfl
def sJ {E:Value->Shared->Prop} {Q:Value->Shared->Prop} (ho:s.heap.get? l=some o) (hc:o.cls=.type "list"/\o.dict=none) (hd:o.data=.seq items n) (hsz:items.size<=sizeLine)
  (hQ:∀ h' o' n',h'.get? l=some o'->o'.cls=.type "list"/\o'.dict=none->o'.data=.seq (items.push x) n'->SameBut l s.heap h'->Q .none { s with heap:=h' }):wpAny (model prog w) A (call (.builtin "list.append") [.ref l,x]) Q E s:=by
 obtain ⟨n',Cv⟩:=Obj.data_mapSeq hd (·.push x);refine wpAny_call_entry slot_list_append ⟨o,ho,hc.1⟩ entry_list_append ?_ (args_list_append _ _);refine (?_:wpAny _ _ (updateSeq l (·.push x) >>= fun U=>ret .none) _ _ s);exact zC1 (wpAny_updateSeq ho hd (zC2 ⟨.none,rfl,hQ _ _ n' (get?_update_self _ ho (Obj.isFreed_of_seq Cv)) ⟨(Obj.cls_mapSeq ..).trans hc.1,(gG ..).trans hc.2⟩ Cv (SameBut.update ..)⟩))
structure Chg (Φ:Ct) (s:Shared) (a:Addr) (h':Heap):Prop where
 kp:∀ b o,b≠a->s.heap.get? b=some o->h'.get? b=some o
 lv:aI h' a
theorem Chg.live (c:Chg Φ s a h'):∀ b,aI s.heap b->aI h' b:=fun b ⟨o,e⟩=>(Classical.em (b=a)).elim (fun q=>q▸c.lv) fun n=>⟨o,c.kp b o n e⟩
theorem Chg.mapK (c:Chg Φ s a h') (q:Φ.own a):a7 Φ.bad Φ.bad s.heap h':=fun b o e n=>⟨n,c.kp b o (fun z=>n (.inr (z▸q))) e⟩
def jh {E:Value->Shared->Prop} {Q:Value->Shared->Prop} (q:Φ.own a) (ow:OwnLAt Φ.fx.g Φ.bad s.heap a l) (r:Φ.rp s.heap v x) (hz:l.length < ac) (h:∀ h',Chg Φ s a h'->OwnLAt Φ.fx.g Φ.bad h' a (l++[x])->Q .none { s with heap:=h' }):wpAny (model Φ.fx.g.prog Φ.fx.g.w) Φ.fx.A (call (.builtin "list.append") [.ref a,v]) Q E s:=by
 obtain ⟨o,vs,m,ho,hc,Cv,hl⟩:=ow;refine sJ ho hc Cv (bV (by rw [aR hl]; exact le_of_lt hz)) fun h' o' n' CA C4 HP hs=>?_;have c:Chg Φ s a h':=⟨fun b o n e=>hs.extBut b o n e,_,CA⟩;exact h h' c ⟨o',_,n',CA,C4,HP,by rw [toList_push]; exact (hl.map (c.mapK q)).append (.cons (r.map (c.mapK q)) .nil)⟩
def k8 (h:Φ.oa k=oak):(Φ.put k oak sl).bad=Φ.bad:=by
 have eo:(Φ.put k oak sl).oa=Φ.oa:=funext fun j=>(Classical.em (j=k)).elim (fun e=>(if_pos e).trans (e▸h.symm)) fun e=>if_neg e;unfold Ct.bad Ct.own;rw [eo]; rfl
theorem Inv.chg (I:Inv Φ s) (c:Chg Φ s a h') (ha:Φ.oa k=[[a]]) (pr:aw s.heap (Φ.fx.pl k) (some u)) (so:∀ al,aV Φ.fx.g Φ.bad h' al [[a]] (some u) sl) (hi:¬ isI sl) (C':sl≠.unset) (DW:∀ o,sl≠.obj o):Inv (Φ.put k [[a]] sl) { s with heap:=h',toks:=tk }/\Tr Φ s (Φ.put k [[a]] sl) { s with heap:=h',toks:=tk }:=
 Inv.upd (s':={ s with heap:=h',toks:=tk }) I rfl rfl pr (fun b o n e=>c.kp b o (fun q=>n (by rw [ha,q]; exact .head _)) e) c.live (fun b m=>.inl (by rw [ha]; exact m)) (by rw [k8 ha]; exact so _) (fun q=>absurd q hi) C' fun o e=>absurd e (DW o)
def sD {d:Gs->DV} (hx:fx.ρ.lookup n=some k) (hn:aL n=true) (hp:aj e=true) (Ca:(Cb.endLine==pos.line)=true) (h:∀ oa G,Ev ⟨fx,oa,G⟩ (eval e fx.env) (d G)) :
  ExB fx (exec (.Expr (.Call (.Attribute (.Name n np) "append" Cb) [e] [] pos) spos) fx.env) (fun G K=>okK (gK G k) fun l=>d G fun x=>l.length < ac/\K none (G.set k (.ownL (l++[x])))):=fun oa G K s hd I E=>ab hd fun l el hd=>by
 refine wpAny_Expr ?_ I.quiet rfl;obtain ⟨a,ha,pr,ow⟩:=qB (Φ:=⟨fx,oa,G⟩) I (m7 el);have Cc:(Ct.mk fx oa G).own a:=.inr ⟨k,by rw [ha]; exact .head _⟩;refine wpAny_Call_method (T:="list") (id:="list.append") (aA rfl) ?_ Ca PySem.F.plainAttrs_list slot_list_append type_list_append (ba (Φ:=⟨fx,oa,G⟩) I.ok hx hn pr ⟨ow.casesOn fun o U U ho hc U U=>⟨o,ho,hc.1⟩,fun a q=>by cases q; exact ow.casesOn fun o U U ho hc U U=>⟨o,ho,hc.2⟩,?_⟩ _)
 ·rw [aq hp]; rfl
 refine callWith_builtin (by rw [aq hp]; rfl) ?_;refine bT (Φ:=⟨fx,oa,G⟩) (qs:=[(e,d G)]) (K:=fun xs=>okK (one xs some) fun x=>l.length < ac/\K none (G.set k (.ownL (l++[x])))) (fun q m=>by cases zA6 m; exact ⟨hp,h oa G⟩) hd I fun ws xs s₁ g' B7 hx rs=>ab hx fun x e hk=>?_;refine ci (Φ:=⟨fx,oa,G⟩) (C:=fun ws=>wpAny _ _ (call (.builtin "list.append") ([.ref a]++ws) []) _ _ s₁) e rs fun w y r e=>?_;cases e
 refine jh (Φ:=⟨fx,oa,G⟩) Cc (ow.map B7.mapK fun o e=>B7 _ o e) r hk.1 fun h' c DP=>?_;have q:=Inv.chg (Φ:=⟨fx,oa,G⟩) (sl:=.ownL (l++[x])) (tk:=s₁.toks) g' c ha (pr.keep B7) (fun al=>⟨a,rfl,rfl,DP⟩) id nofun nofun;exact .next (Φ:=⟨fx,oa,G⟩) q.1 ((Tr.of_keeps B7).trans q.2) hk.2
end
def dg (ds:List D) (G:Gs):be ds G=bn (ds.map (· G)):=by
 induction ds with
 | nil=>rfl
 | cons d r ih=>exact funext fun f=>congrArg (d G) (funext fun x=>congrFun ih fun xs=>f (x :: xs))
def gt (b:Bool) (ds:List D) (G:Gs):cm b ds G=nW b (ds.map (· G)):=by
 induction ds with
 | nil=>rfl
 | cons d r ih=>exact funext fun f=>congrArg (d G) (funext fun x=>congrArg (okK (cq x some)) (funext fun c=>congrArg (fun z=>if c=b then z else f c) (congrFun ih f)))
section
variable {Φ:Ct} {scope:Scope} {x x':Str}
def xB (hk:fx.env.scope.kind=.function) (h:scope.names.lookup y=some .local):(aC fx scope C x x' X).env.kindOf y≠some .free:=by
 show (relabel scope fx.env).names.lookup y≠_
 rw [cI hk,relab_lookup,h]; exact nofun
def Ac (c:CompOk Φ.fx scope x x'):o8 Φ scope (.Name x py) x x' (jm Φ.fx.nf):=by
 refine ⟨fun G y G₁ z e=>by (injection e with e; subst e); exact congrArg some (set_set ..),fun C X G G₁ v y s hk Eh I e r E=>?_⟩;(injection e with e; subst e);refine wpAny_mono (xQ (Φ:=⟨aC Φ.fx scope C x x' X,Φ.oa,G⟩) (k:=Φ.fx.nf) ⟨by refine (?_:((x,Φ.fx.nf) :: _).lookup x=_); rw [lookup_cons,beq_self_eq_true],xB hk c.loc⟩ I r E) (fun U s' q=>?_) fun U U z=>z;obtain ⟨I',_,k'⟩:=q;rw [tJ (Φ:=⟨aC Φ.fx scope C x x' X,Φ.oa,G⟩) (Eh _ (le_refl _))] at I';refine ⟨I',fun b o n e=>k' b o e fun q=>n ?_⟩;have q:(cpl Φ.fx C x x' Φ.fx.nf).addr=some b:=q;unfold cpl at q;rw [if_pos rfl] at q;(injection q with q; subst q); rfl
end
section
variable {Φ:Ct} {s B0:Shared} {scope:Scope} {x x':Str}
theorem CompEnd.rp {K:List V->Prop} {D C:Addr} {s':Shared} (Cf:Inv Φ B0) (ce:CompEnd Φ B0 K D C s'):∃ ys,K ys/\Rp Φ.fx.g (fun b=>Φ.bad b\/b=C) s'.heap (.ref D) (.list ys):=by
 obtain ⟨m,ys,B,kx,CX,E7,EH,hn,ky,vs,⟨c,hP⟩,rp⟩:=ce;exact ⟨ys,ky,.list (fun q=>q.elim (fun q=>(Cf.badLive q).elim fun o e=>af E7 e) EH) hP ⟨rfl,rfl⟩ rfl rp⟩
def rf {b:Gs->V->Option Gs} {ds:(List V->Prop)->Prop} (c:CompOk Φ.fx scope x x') (hT:o8 Φ scope T x x' b) (Dw:bH iter=true) (C8:eX Φ T false iter ds)
  (DA:∀ C X oa G,Ev ⟨aC Φ.fx scope C x x' X,oa,G⟩ (eval CF (aC Φ.fx scope C x x' X).env) (de G))
  (CU:∀ C X oa G,EvT ⟨aC Φ.fx scope C x x' X,oa,G⟩ (dH ifs (aC Φ.fx scope C x x' X).env) (cm true ts G)) :
  Ev Φ (eval (.ListComp CF [⟨T,iter,ifs,0⟩] scope pos) Φ.fx.env) (fun K=>ds fun xs=>iH de ts b Φ.G xs fun ys=>K (.list ys)):=fun K s hd I E=>by
 rw [eval_ListComp];refine wpAny_comprehension_free (use:=none) rfl (gm Dw) (iI c.cells) c.kind c.names (C8 _ s hd I _ _ fun l B0 it w' kl Cf k₀ gr fa=>ki (RR:=fun acc C=>compPost _ Φ.fx.A E none (Post Φ Φ.rp s K) acc C) c Cf gr fa DA CU hT kl fun D C s' ce=>?_);obtain ⟨ys,ky,rp⟩:=ce.rp Cf;obtain ⟨m,_,B,kx,CX,_,_,hn,_⟩:=ce;have h0:Φ.fx.g.h0.get? C=none:=aH (fun l=>Cf.base.stays.live l) CX;exact ⟨m,hn,fun h' hs=>⟨⟨fun b o e=>hs.extBut b o (fun q=>af h0 (q▸e)) (B.stays b o e),B.os,B.gens⟩,fun b o e=>hs.extBut b o (fun q=>af CX (q▸k₀ b o e)) ((k₀.trans kx) b o e),_,ky,rp.map fun b o e n=>⟨fun q=>n (.inl q),hs.extBut b o (fun q=>n (.inr q)) e⟩⟩⟩
noncomputable def xS (sc:List (Str×NameKind)) (scope:Scope) (y:Str) (py vp:Pos):Bool:=sc.lookup y==some .local&&py.line==vp.line&&!(scope.names.any fun (n,k)=>n==y&&(k==.local||k==.cell))
def ql {fx:Fx} {CF:Expr} {gens:List Comprehension} {pos py:Pos} {y:Str} {n:Nat} (hk:fx.env.scope.kind=.function):swapsWith (.ListComp CF gens scope pos) (some (.Name y py)) n fx.env=pure (xS fx.env.scope.names scope y py pos):=by
 have hb:(fx.env.blockKind==ScopeKind.function)=true:=by unfold Env.blockKind; rw [hk]; rfl
 refine (?_:(pure (fx.env.blockKind==ScopeKind.function&&_&&_&&_):Sem Bool)=_);rw [hb];rfl
def gY {fx:Fx} {CF iter T:Expr} {b:Gs->V->Option Gs} {ifs:List Expr} {pos py p' spos:Pos} {y:Str} {k:Nat} {ds:Gs->(List V->Prop)->Prop} {de:D} {ts:List D} (c:CompOk fx scope x x') (hTc:∀ oa G,o8 ⟨fx,oa,G⟩ scope T x x' b) (Dw:bH iter=true) (C8:∀ oa G,eX ⟨fx,oa,G⟩ T false iter (ds G))
  (DA:∀ C X oa G,Ev ⟨aC fx scope C x x' X,oa,G⟩ (eval CF (aC fx scope C x x' X).env) (de G))
  (CU:∀ C X oa G,EvT ⟨aC fx scope C x x' X,oa,G⟩ (dH ifs (aC fx scope C x x' X).env) (cm true ts G)) (hT:TgtOk fx.ρ fx.env y k) :
  ExB fx (exec (.Assign [.Name y p'] (.ListComp CF [⟨T,iter,ifs,0⟩] scope pos) spos) fx.env) (fun G K=>ds G fun xs=>iH de ts b G xs fun ys=>K none (G.set k (.v (.list ys)))):=fun oa G K s hd I E=>by
 cases hsw:xS fx.env.scope.names scope y p' pos with
 | false=>exact kf (fx:=fx) (d:=fun G K=>ds G fun xs=>iH de ts b G xs fun ys=>K (.list ys)) (by rw [ql I.ok.kind,hsw]) hT (fun oa G=>rf (Φ:=⟨fx,oa,G⟩) c (hTc oa G) Dw (C8 oa G) DA CU) oa G K s hd I E
 | true=>
  rw [exec_Assign_Name_used _ _ _ _ ((ql I.ok.kind).trans (by rw [hsw]))];refine (bSt (zC1 ?_))
  show wpAny _ _ (do let _ <- comprehension (.ListComp CF [⟨T,iter,ifs,0⟩] scope pos) scope fx.env _ (newList []) false (eval iter fx.env) (some (assign (.Name y p') fx.env))) _ _ s
  refine zC1 (wpAny_mono (wpAny_comprehension_free (use:=some (assign (.Name y p') fx.env)) (Q:=fun U s'=>PostS ⟨fx,oa,G⟩ s K .next s') (E:=E) rfl (gm Dw) (iI c.cells) c.kind c.names ?_) (fun U s' hq=>zC2 (wpAny_pure hq)) fun U U z=>z);refine C8 oa G _ s hd I _ _ fun l B0 it w' kl Cf k₀ gr fa=>ki (Φ:=⟨fx,oa,G⟩) (RR:=fun acc C=>compPost _ fx.A E (some (assign (.Name y p') fx.env)) (fun U s'=>PostS ⟨fx,oa,G⟩ s K .next s') acc C) c Cf gr fa DA CU (hTc oa G) kl fun D C s' ce=>?_;obtain ⟨ys,ky,rp⟩:=ce.rp Cf;obtain ⟨m,_,B,kx,CX,_,_,hn,_⟩:=ce;have h0:fx.g.h0.get? C=none:=aH (fun l=>Cf.base.stays.live l) CX;have HX:aI s'.heap C:=by obtain ⟨o,_,_,e,_⟩:=hn; exact ⟨o,e⟩
  have I':Inv ((Ct.mk fx oa G).mo (·=C)) s':=Cf.more B kx (fun b q=>q▸CX) fun b q=>q▸HX
  show wpAny _ _ (assign (.Name y p') fx.env (.ref D)) _ _ _
  refine wpAny_mono (xQ (Φ:=(Ct.mk fx oa G).mo (·=C)) hT I' (rp.map fun b o e n=>⟨fun q=>n (q.elim (fun q=>q.elim (fun q=>.inl (.inl q)) .inr) fun q=>.inl (.inr q)),e⟩) _) (fun _ CB ⟨I5,t5,k5⟩=>?_) fun U U z=>z;have hpC:(fx.pl k).addr≠some C:=fun q=>(Cf.new C (.inl ⟨k,q⟩)).1.elim fun o e=>af CX e;refine ⟨m,hn.at' fun o e=>k5 C o e hpC,fun h' hs=>?_⟩;have kC:∀ b o,b∉[C]->CB.heap.get? b=some o->h'.get? b=some o:=fun b o n e=>hs.extBut b o (fun q=>n (by rw [q]; exact .head _)) e;have I6:=Inv.others (tk:=CB.toks) (Φ:=((Ct.mk fx oa G).mo (·=C)).put k [] (.v (.list ys))) (Mo₂:=fx.Mo) I5 kC (fun b m=>by cases zA6 m; exact .inr rfl) (fun b m=>by cases zA6 m; exact h0) (fun a q=>.inl q)
   fun a q=>(I5.mo a (.inl q)).elim fun o e=>⟨o,hs.extBut a o (fun z=>(Cf.mo a q).elim fun o e=>af CX (z▸e)) e⟩
  have t6:Tr ⟨fx,oa,G⟩ B0 ((Ct.mk fx oa G).put k [] (.v (.list ys))) CB:=(Tr.of_keeps kx).trans (Tr.mo (Φ:=⟨fx,oa,G⟩) (Φ':=(Ct.mk fx oa G).put k [] (.v (.list ys))) (X:=(·=C)) rfl t5);exact .next (Φ:=⟨fx,oa,G⟩) I6 ((Tr.of_keeps k₀).trans (Tr.others (tk:=CB.toks) Cf t6 kC fun b m=>by cases zA6 m; exact CX)) ky
end
section
variable {Φ:Ct} {s:Shared} {v u:Value} {x y z:V} {d d1 d2 d3:DV}
def iJ {γ δ:Type} {R:Heap->γ->δ->Prop} {K:δ->Prop} {K₁:Bool->Prop} {fin stop:Value->Sem γ} (hs:bH c=true) (h1:Ev Φ (eval a Φ.fx.env) d1) (h2:Ev Φ (eval b Φ.fx.env) d2) (h3:Ev Φ (eval c Φ.fx.env) d3)
  (HN:∀ s b,Inv Φ s->K₁ b->Φ.wp (fin (.bool b)) (Post Φ R s K) s) (FT:∀ s,Inv Φ s->K₁ false->Φ.wp (stop (.bool false)) (Post Φ R s K) s)
  (hd:d1 fun x=>d2 fun y=>okK (bo .LtE x y) fun t=>if t=true then d3 fun z=>okK (bo o y z) K₁ else K₁ false) (I:Inv Φ s):Φ.wp (do
  let x <- eval a Φ.fx.env
  let y <- holding [x] (eval b Φ.fx.env)
  standAt pos
  let t <- holding [x,y] (compareOp .LtE x y)
  release [x,y] [t]
  if <- holding [t,y] (truthy t) then (do
   let z <- holding [y] (markedBehindIn o c (eval c Φ.fx.env))
   standAt pos
   let u <- operate [y,z] (compareOp o y z)
   fin u) else stop t) (Post Φ R s K) s:=by
 rw [ik hs];refine h1.bind hd I fun v x s₁ g' B7 hx r1=>h2.holding.bind hx g' fun u y w' Ce Ci hy r2=>a8 ?_;refine ab hy fun t e kt E=>zC1 (wpAny_holding (wpAny_mono (pN (o:=.LtE) (c:=t) e Ce (r1.keep Ci) r2 E) (fun w s' q=>?_) fun U U z=>z));obtain ⟨gr,rfl⟩:=q;have EN:=Ce.keep (Ce.base.grown gr) gr.keeps;refine zC1 (bq (zC1 (wpAny_holding (wpAny_truthy_bool ?_))));refine wpAny_mono (?_:wpAny _ _ _ (Post Φ R s' K) E s') (fun U U p=>p.lift gr.keeps) fun U U z=>z;cases t with
 | false=>exact FT _ EN kt E
 | true=>exact h3.holding.bind kt EN (fun w z Cw DC Ho hz r3=>ab hz fun c e kc=>a8 fun E=>zC1 (dA (fun E'=>wpAny_mono (pN (o:=o) e DC ((r2.keep gr.keeps).keep Ho) r3 E') (fun w s' q=>by obtain ⟨gr,rfl⟩:=q; exact wpAny_mono (HN _ _ (DC.keep (DC.base.grown gr) gr.keeps) kc E) (fun U U p=>p.lift gr.keeps) fun U U z=>z) fun U U z=>z) E)) E
def uG (hs:bH c=true) (h1:Ev Φ (eval a Φ.fx.env) d1) (h2:Ev Φ (eval b Φ.fx.env) d2) (h3:Ev Φ (eval c Φ.fx.env) d3) :
  Ev Φ (eval (.Compare a [.LtE,o] [b,c] pos) Φ.fx.env) (fun K=>d1 fun x=>d2 fun y=>okK (bo .LtE x y) fun t=>if t=true then d3 fun z=>okK (bo o y z) fun u=>K (.bool u) else K (.bool false)):=fun K s hd I=>by
 have q:=iJ (o:=o) (pos:=pos) (fin:=pure) (stop:=pure) (R:=Φ.rp) (K:=K) hs h1 h2 h3 (fun s b I k=>EvR.pure I k (.bool b)) (fun s I k=>EvR.pure I k (.bool _)) hd I;simp only [bind_pure] at q;exact q
def oq (hs:bH c=true) (h1:Ev Φ (eval a Φ.fx.env) d1) (h2:Ev Φ (eval b Φ.fx.env) d2) (h3:Ev Φ (eval c Φ.fx.env) d3) :
  EvT Φ (isTrue (.Compare a [.LtE,o] [b,c] pos) Φ.fx.env w) (fun K=>d1 fun x=>d2 fun y=>okK (bo .LtE x y) fun t=>if t=true then d3 fun z=>okK (bo o y z) fun u=>K u else K false):=fun K s hd I=>
 iJ (o:=o) (pos:=pos) (fin:=fun c=>holding [c] (truthy c)) (stop:=fun U=>pure false) (R:=fun U=>Eq) (K:=K) hs h1 h2 h3 (fun s b I k E=>wpAny_holding (wpAny_truthy_bool ⟨I.base,.refl _,b,k,rfl⟩)) (fun s I k=>EvR.pure I k rfl) hd I
def jc {dd:V->Prop} {K:V->Prop} (hx:bK Φ.fx.env.scope.names f=true) (hF:bC.lookup f=some F) (hk:(∃ id,F=.builtin id)\/∃ T,F=.type T) (hp:aj e=true) (h:Ev Φ (eval e Φ.fx.env) d)
  (st:∀ s v x E,Inv Φ s->Φ.rp s.heap v x->dd x->wpAny (model Φ.fx.g.prog Φ.fx.g.w) Φ.fx.A (call F [v]) (fN Φ s K) E s) (hd:d dd) (I:Inv Φ s):Φ.wp (eval (.Call (.Name f fp) [e] [] pos) Φ.fx.env) (fN Φ s K) s:=fun E=>by
 refine (?_:wpAny _ _ (eval (.Name f fp) Φ.fx.env >>= fun F=>callWith pos F [] (backTo pos (starEach [e] Φ.fx.env)) []) _ _ s);refine zC1 (bO I hx hF ?_ E);have Fh:(backTo pos (starEach [e] Φ.fx.env)).any (·.1)=false:=by rw [aq hp]; rfl
 have main:wpAny (model Φ.fx.g.prog Φ.fx.g.w) Φ.fx.A (evalArgs F true (backTo pos (starEach [e] Φ.fx.env)) []) (fun a s₁=>wpAny (model Φ.fx.g.prog Φ.fx.g.w) Φ.fx.A (call F ([]++a.pos) a.kw) (fN Φ s K) E s₁) E s:=
  bT (qs:=[(e,d)]) (K:=fun xs=>okK (one xs some) dd) (fun q m=>by obtain rfl:=zA6 m; exact ⟨hp,h⟩) hd I fun vs xs s₁ g' B7 hx rs=>ab hx fun x e hx=>ci (C:=fun vs=>wpAny _ _ (call F ([]++vs) []) _ _ s₁) e rs fun v x' r e=>by
   (injection e with e; subst e);exact wpAny_mono (st s₁ v _ E g' r hx) (fun U U p=>p.lift B7) fun U U z=>z
 rcases hk with ⟨id,rfl⟩ | ⟨T,rfl⟩
 ·exact callWith_builtin Fh main
 ·exact PySem.callWith_type Fh main
def wg {vs:List Value} {ns:List Int} (z:IntsAre vs ns):Φ.rps h vs (ns.map .int):=by
 induction z with
 | nil=>exact .nil
 | cons n t hr ih=>exact .cons (.int n t) ih
def sF (hx:bK Φ.fx.env.scope.names "sorted"=true) (hp:aj e=true) (h:Ev Φ (eval e Φ.fx.env) d) :
  EvN Φ (eval (.Call (.Name "sorted" fp) [e] [] pos) Φ.fx.env) (fun K=>d fun x=>okK (bz x cT) fun is=>is.length < 64/\∀ r:List Int,r.Perm is->r.Pairwise (·<=·)->K (.list (r.map .int))):=fun K s hd I=>
 jc hx rfl (.inl ⟨_,rfl⟩) hp h (fun s v x E I r hx=>ab hx fun is e ⟨hz,hK⟩=>by
  refine cw (C:=fun x=>Φ.rp s.heap v x->wpAny _ _ (call (.builtin "sorted") [v]) _ E s) e (fun l e r=>?_) r;refine r.list_elim fun a o vs n U ha hc hd hl=>?_;have hi:=eT e hl;refine sorted_ints (vs:=vs.toList) ⟨o,ha,hc.1,n,by rw [hd]⟩ hi (by rw [<- hi.nums,zA4] at hz; exact hz) fun out ns' h1 h2 h3=>?_;have k:ah s.heap (sortedAll s.heap vs.toList out):=fun b o e=>sortedAll_old e;obtain ⟨ep,ho⟩:=sortedAll_at s.heap vs.toList out;refine ⟨⟨I.base.grown (ja (tk:=s.toks) k),k,_,hK ns' h2 h3,.list (fun q=>?_) ho ⟨rfl,rfl⟩ rfl (wg h1)⟩,d7 (le_succ _)⟩;obtain ⟨o',e'⟩:=I.badLive q;exact absurd (lt_size e') (not_lt.mpr (le_succ _))) hd I
end
def td:typeLookup (.type "dict_values") "__len__"=pure (some (.builtin "dict_values.__len__")):=by rw [typeLookup_type,builtinLookup_eq_fast]; kernel_rfl
def tr:isSubtype (.type "dict_values") (.type "dict_values")=pure true:=by rw [isSubtype_type]; kernel_rfl
def uI:typeLookup (.type "dict") "__len__"=pure (some (.builtin "dict.__len__")):=by rw [typeLookup_type,builtinLookup_eq_fast]; kernel_rfl
def tt:isSubtype (.type "dict") (.type "dict")=pure true:=by rw [isSubtype_type]; kernel_rfl
section
variable {prog:Program} {w:World} {A:Around} {E:Value->Shared->Prop} {s:Shared} {I d X:Addr} {od:Obj} {es:Array DictEntry} {ep i:Nat}
def jI {Q:Option Value->Shared->Prop} (hh:A.handled=none) (CE:s.heap.IsValIter I d i es.size ep) (DU:s.heap.get? d=some od) (Cp:od.data=.dict es ep)
  (hQ:∀ e,es[i]?=some e->∀ h',h'.IsValIter I d (i+1) es.size ep->SameBut I s.heap h'->Q (some e.val) { s with heap:=h' })
  (hE:es[i]?=none->∀ h',(∀ b o,b≠I->s.heap.get? b=some o->h'.get? b=some o)->Q none { s with heap:=h' }):wpAny (model prog w) A (pyNext (.ref I)) Q E s:=by
 obtain ⟨o,ho,hc,hd⟩:=id CE;unfold pyNext;refine zC1 (wpAny_attempt (wpAny_callSpecial?_slot (name:=ofString "__next__") CE.typeIs F.slot_dict_valueiterator_next
  (wpAny_call_entry F.slot_dict_valueiterator_next CE.typeIs F.entry_dict_valueiterator_next ?_ (F.args_dict_valueiterator_next_1 _))))
 refine zC1 (zC2 ?_);refine zC1 ?_;refine zC1 ?_;first | refine zC1 (wpAny_typeNameOfWhole_valiter CE.typeIs (zC2 ?_)) | refine zC1 (wpAny_typeNameOf_valiter CE.typeIs (zC2 ?_))
 refine zC1 (wpAny_fieldsOf ho hd ?_);have C2:Builtin.Dict_items.ownsTuple "dict_valueiterator"=false:=by decide
 simp only [C2,false_eq_true,if_false];refine (?_:wpAny _ _ (if (Value.ref d==Value.none)=true then _ else _) _ _ s);rw [if_neg (show ¬ ((Value.ref d==Value.none)=true) from Bool.false_ne_true)];refine zC1 (zC2 ?_);refine zC1 (wpAny_dictEntries DU Cp ?_);rw [if_neg (by simp)];refine zC1 (zC2 ?_);refine zC1 (wpAny_dictEpoch DU Cp ?_);rw [if_neg (by simp)];refine zC2 ?_;simp only [show ¬ ((i:Int) < 0) from by omega,if_false,Int.toNat_natCast];cases ei:es[i]? with
 | some e=>
  refine zC1 ?_;first | refine zC1 (wpAny_typeNameOfWhole_valiter CE.typeIs (zC2 ?_)) | refine zC1 (wpAny_typeNameOf_valiter CE.typeIs (zC2 ?_))
  refine zC1 (wpAny_isOneOf_valiter CE.typeIs ?_);refine (?_:wpAny _ _ (setField (.ref I) 1 (rawInt ((i:Int)+1)) >>= _) _ _ s);refine zC1 (wpAny_setField ho hd (by simp) ?_);have Dx:(s.heap.update I (mapFields (·.setIfInBounds 1 (rawInt ((i:Int)+1))))).IsValIter I d (i+1) es.size ep:=
   ⟨_,get?_update_self _ ho (Obj.isFreed_of_fields (data_mapFields hd _)),(Obj.cls_mapFields ..).trans hc,by rw [data_mapFields hd]; simp [rawInt]⟩
  refine zC1 (wpAny_holding ?_);refine zC1 (wpAny_isOneOf_valiter (s:={ s with heap:=s.heap.update I (mapFields (·.setIfInBounds 1 (rawInt ((i:Int)+1)))) }) Dx.typeIs ?_);refine zC1 (wpAny_isOneOf_valiter (s:={ s with heap:=s.heap.update I (mapFields (·.setIfInBounds 1 (rawInt ((i:Int)+1)))) }) Dx.typeIs ?_);refine (?_:wpAny _ _ (pure e.val) _ _ _);exact zC2 (zC2 ⟨_,rfl,zC2 (hQ e ei _ Dx (SameBut.update ..))⟩)
 | none=>
  refine zC1 ?_;first | refine zC1 (wpAny_typeNameOfWhole_valiter CE.typeIs (zC2 ?_)) | refine zC1 (wpAny_typeNameOf_valiter CE.typeIs (zC2 ?_))
  refine (?_:wpAny _ _ (setField (.ref I) 0 .none >>= _) _ _ s);refine zC1 (wpAny_setField ho hd (by simp) ?_);exact qq hh fun h' k=>hE ei h' fun b o q e=>k b o ((get?_update_other _ _ (Ne.symm q)).trans e)
def oi (hh:A.handled=none) (Cr:d≠I) (Cp:od.data=.dict es ep):Walks prog w A I [I,d] [I] es.size (fun i v=>(es.toList.map (·.val))[i]?=some v) (fun i h=>h.IsValIter I d i es.size ep/\h.get? d=some od) where
 sub:=fun b m=>by obtain rfl:=zA6 m; exact .head _
 frame:=fun i h h' ⟨a,b⟩ k=>⟨a.at fun o e=>k I (.head _) o e,k d (.tail _ (.head _)) _ b⟩
 item:=fun i s Q E hi ⟨a,b⟩ hQ=>jI hh a b Cp (fun e ei h' D7 sb=>hQ e.val h' s.toks (by rw [Jc,Ja,ei]; rfl) ⟨D7,(sb.2 d Cr).trans b⟩ fun b o m e=>(sb.2 b fun q=>m (q▸.head _)).trans e) fun q=>absurd (Array.getElem?_eq_getElem hi) (by rw [q]; exact fun z=>nomatch z)
 done:=fun s Q E ⟨a,b⟩ hQ=>jI hh a b Cp (fun e ei=>absurd (Array.getElem?_eq_some_iff.mp ei).1 (lt_irrefl _)) fun U h' k=>hQ h' s.toks fun b o m e=>k b o (fun q=>m (q▸.head _)) e
 self:=fun i s Q E ⟨a,b⟩ h=>wpAny_pyIter_valiter a h
def sm {Q:Bool->Shared->Prop} (hT:s.TypeIs (.ref X) "dict_values") (h:Q false s):wpAny (model prog w) A (Builtin.List.listLengthHint (.ref X)) Q E s:=by
 unfold Builtin.List.listLengthHint;refine zC1 (wpAny_specialOf hT td ?_)
 wp_delta
 refine zC1 (wpAny_isInstance hT tr ?_);refine (?_:wpAny _ A (typeOf (Value.ref X) >>= _) _ _ _);exact zC1 (wpAny_typeOf hT (wpAny_pure h))
def r9 {Q:Value->Shared->Prop} (hv:s.heap.IsValuesView X d) (DU:s.heap.get? d=some od) (Cp:od.data=.dict es ep)
  (hQ:Q (.ref s.heap.objs.size) { s with heap:=s.heap.push { cls:=.type "dict_valueiterator",data:=.fields #[.ref d,.int 0 0,.int es.size 0,.int ep 0] } }):wpAny (model prog w) A (pyIter (.ref X)) Q E s:=by
 obtain ⟨ov,hov,hcv,hdv⟩:=id hv;refine wpAny_pyIter_slot hv.typeIs F.slot_dict_values_iter (wpAny_call_entry F.slot_dict_values_iter hv.typeIs F.entry_dict_values_iter ?_ (F.args_dict_values_iter_1 _));unfold Builtin.«dict_values.__iter__»;refine zC1 (zC2 ?_);refine zC1 ?_;unfold Builtin.Dict_items.dictOf;refine zC1 (wpAny_field hov hdv (x:=.ref d) rfl (zC2 ?_));refine zC1 ?_;unfold Builtin.Dict_items.newIterator;refine zC1 (wpAny_dictEntries DU Cp ?_);refine zC1 (wpAny_dictEpoch DU Cp ?_);have C2:Builtin.Dict_items.ownsTuple "dict_valueiterator"=false:=by decide
 simp only [C2,false_eq_true,if_false];exact wpAny_newObj_type (zC2 ⟨_,rfl, "dict_valueiterator",_,⟨_,J0 _ rfl,rfl⟩,F.slot_dict_valueiterator_next.lookup,hQ⟩)
def mF {Q:Value->Shared->Prop} (hT:s.TypeIs (.ref d) "dict") (hd:(d==sysModules)=false) (h:Q (.ref s.heap.objs.size) { s with heap:=s.heap.push { cls:=.type "dict_values",data:=.fields #[.ref d] } }):wpAny (model prog w) A (call (.builtin "dict.values") [.ref d]) Q E s:=by
 refine wpAny_call_entry F.slot_dict_values hT F.entry_dict_values ?_ (F.args_dict_values_1 _);refine zC1 ?_;unfold Builtin.Dict.noArgs;refine zC1 (wpAny_notOrdered_dict hT ?_);refine (?_:wpAny _ _ (pure d) _ _ s);refine zC2 ?_;refine (?_:wpAny _ _ (Builtin.Dict.showsAll d >>= _) _ _ s);unfold Builtin.Dict.showsAll;rw [if_neg (by rw [hd]; exact Bool.false_ne_true)];refine zC1 (zC2 ?_);exact zC1 (wpAny_newObj_type (zC2 ⟨_,rfl,h⟩))
def j4 {Q:Bool->Shared->Prop} (hT:s.TypeIs (.ref X) "dict") (h:Q false s):wpAny (model prog w) A (Builtin.List.listLengthHint (.ref X)) Q E s:=by
 unfold Builtin.List.listLengthHint;refine zC1 (wpAny_specialOf hT uI ?_)
 wp_delta
 refine zC1 (wpAny_isInstance hT tt ?_);refine (?_:wpAny _ A (typeOf (Value.ref X) >>= _) _ _ _);exact zC1 (wpAny_typeOf hT (wpAny_pure h))
def nq {Q:Value->Shared->Prop} {T:String} {vals:List Value} (hh:A.handled=none) (hT:T="set"\/T="dict_values"\/T="dict") (hX:X≠s.heap.objs.size) (hTy:∀ s':Shared,ah s.heap s'.heap->s'.TypeIs (.ref X) T)
  (HL:∀ (s':Shared) (Q:Bool->Shared->Prop) (E:Value->Shared->Prop),ah s.heap s'.heap->Q false s'->wpAny (model prog w) A.in1.in1 (Builtin.List.listLengthHint (.ref X)) Q E s') (hz:vals.length<=sizeLine)
  (it:∀ (s':Shared) (Q:Value->Shared->Prop) (E:Value->Shared->Prop),ah s.heap s'.heap->s'.heap.objs.size≠s.heap.objs.size->(∀ fp St h',(∀ b∈fp,b=s'.heap.objs.size\/aI s.heap b)->ah s'.heap h'->Walks prog w A.in1.in1 s'.heap.objs.size fp [s'.heap.objs.size] vals.length (fun i v=>vals[i]?=some v) St->St 0 h'->Q (.ref s'.heap.objs.size) { s' with heap:=h' })->wpAny (model prog w) A.in1.in1 (pyIter (.ref X)) Q E s')
  (h:∀ h' dr tk c',ah s.heap h'->h'.get? s.heap.objs.size=some { cls:=.type "list",dict:=none,data:=.seq vals.toArray c',slots:=#[] }->Q (.ref s.heap.objs.size) { s with heap:=h',drawn:=dr,toks:=tk }):wpAny (model prog w) A (call (.type "list") [.ref X]) Q E s:=by
 refine callType_codes (Q₁:=fun obj s₁=>obj=.ref s.heap.objs.size/\s₁={ s with heap:=s.heap.push { cls:=.type "list",data:=.seq #[] } }) PySem.F.called_list (PySem.F.typeCall_list_1 _) PySem.F.entry_list_init (code_list_new _ ⟨rfl,rfl⟩) fun obj s₁ Cs=>?_;obtain ⟨rfl,rfl⟩:=Cs;have hS:(s.heap.push { cls:=.type "list",data:=.seq #[] }).get? s.heap.objs.size=some { cls:=.type "list",data:=.seq #[] }:=J0 _ rfl;refine ⟨⟨_,hS,rfl⟩,PySem.F.args_list_init_2 _ _,?_⟩;refine (?_:wpAny _ A.in1.in1 (do let Ee <- Builtin.List.listItems (.ref s.heap.objs.size); Builtin.List.listUpdate (.ref s.heap.objs.size) (fun U=>#[]); letGo Ee.toList.reverse; Builtin.List.listExtendWith (.ref s.heap.objs.size) (.ref X) .none) _ _ _);refine zC1 (listItems_at hS rfl (zC1 (listUpdate_at hS rfl ?_)));have GR:=get?_update_self (mapSeq (fun U=>(#[]:Array Value))) hS rfl;have k1:ah s.heap ((s.heap.push { cls:=.type "list",data:=.seq #[] }).update s.heap.objs.size (mapSeq fun U=>#[])):=fun b o e=>(get?_update_other _ _ (Ne.symm (aN e))).trans (ae _ _ b o e);refine zC1 (wpAny_letGo ?_);refine eV (R:=wants _ _) (C:=fun out=>out=vals) (A:=A.in1) hh GR hX.symm hT (hTy _ k1) (fun s' Q E k hq=>HL s' Q E (k1.trans k) hq) (fun Q E hQ=>?_) fun out h' dr tk c' hC k hD=>?_
 ·refine it { s with heap:=(s.heap.push { cls:=.type "list",data:=.seq #[] }).update s.heap.objs.size (mapSeq fun U=>#[]) } Q E k1 (by refine (?_:((s.heap.push { cls:=.type "list",data:=.seq #[] }).update s.heap.objs.size (mapSeq fun U=>#[])).objs.size≠_); rw [Heap.size_update,size_push]; exact succ_ne_self _) fun fp St h' hf k W st=>hQ _ _ _ _ _ _ s.drawn rfl hz k (fun b m=>by obtain rfl:=zA6 m; exact ag _) (fun m=>?_) W st;rcases hf _ m with q | q
  ·have q:s.heap.objs.size=((s.heap.push { cls:=.type "list",data:=.seq #[] }).update s.heap.objs.size (mapSeq fun U=>#[])).objs.size:=q;rw [Heap.size_update,size_push] at q; exact absurd q (ne_of_lt (lt_succ_self _))
  ·exact q.elim fun o e=>aN e rfl
 ·subst hC;exact ⟨rfl,h h' dr tk c' (fun b o e=>k b o (aN e) (k1 _ _ e)) hD⟩
end
def oY (a v:Value):argsOk "max" ⟨[a],[("default",v)]⟩:=by unfold argsOk; kernel_rfl
def oX (v:Value):Builtin.Builtins.bindParams "max" ["key", "default"] 0 ⟨[],[("default",v)]⟩=pure [none,some v]:=by kernel_rfl
def kP {prog:Program} {w:World} {A:Around} {E:Value->Shared->Prop} {s:Shared} {id:String} {b:Builtin} {args:Args} {Q:Value->Shared->Prop} (hk:builtinKind id=none) (hp:plainId id=true) (hb:entryFor table id=some b) (ha:argsOk id args) {c':Code}
  (hc:wpAny (model prog w) A.in1 (b args) (fun fin s'=>fin=.again c'/\c'.quiet=true/\codeAny (model prog w) A c' (fun r s'=>match r with | .ok (.ret v)=>Q v s' | .ok _=>False | .error e=>E e s') s') E s):wpAny (model prog w) A (call (.builtin id) args.pos args.kw) Q E s:=by
 refine wpAny_call (codeAny_call_builtin hp hb ?_);simp only [checkBuiltinCall,hk];cases hsig:Manifest.signature? id with
 | none=>exact zC2 (wpAny_mono hc (fun fin s' h'=>by obtain ⟨rfl,q⟩:=h'; exact q) fun U U z=>z)
 | some sig=>
  have El:Bind.checkArgs id sig args=pure ():=by simpa only [argsOk,hsig] using ha
  refine (?_:wpAny _ A.in1 (Bind.checkArgs id sig args) _ _ s);rw [El]; exact zC2 (wpAny_mono hc (fun fin s' h'=>by obtain ⟨rfl,q⟩:=h'; exact q) fun U U z=>z)
def Top (is:List Int) (i:Nat) (Ee:List Value):Prop:=(i=0/\Ee=[])\/∃ m t,Ee=[.int m t,.int m t]/\m∈is.take i/\∀ x∈is.take i,x<=m
section
variable {prog:Program} {w:World} {A:Around} {R:Result->Shared->Prop} {E:Value->Shared->Prop} {I:Addr} {fp wr:List Addr} {St:Nat->Heap->Prop} {Pv:Nat->Value->Prop} {is:List Int}
def tU (W:Walks prog w A.in1 I fp wr is.length Pv St) (hP:∀ i v,Pv i v->∃ m t,is[i]?=some m/\v=.int m t) (S:Addr) (Gk:S∉fp) (dv:Value) :
  ∀ (k i:Nat) (s:Shared) (Ee:List Value) (c:Nat),is.length - i=k->i<=is.length->St i s.heap->Top is i Ee->s.heap.get? S=some { cls:=.type "list",dict:=none,data:=.seq Ee.toArray c,slots:=#[] } ->
  (∀ v h' tk,((is=[]/\v=dv)\/∃ m t,v=.int m t/\m∈is/\∀ x∈is,x<=m)->(∀ b o,b∉wr->b≠S->s.heap.get? b=some o->h'.get? b=some o)->R (.ok (.ret v)) { s with heap:=h',toks:=tk }) ->
  codeAny (model prog w) A (.builtin "max.loop" ⟨[.ref I,.none,.ref S],[("default",dv)]⟩) R s:=by
 have Gj:S∉wr:=fun h=>Gk (W.sub _ h);have DX:(toString "max"++toString ".loop" : String)="max.loop":=by decide
 intro k;induction k with
 | zero=>
  intro i s Ee c hk hi CZ hT hS hR;have E1:i=is.length:=by omega
  subst E1;refine codeAny_builtin PySem.F.entry_max_loop ?_;rw [under_plainId PySem.F.plain_max_loop _];refine (?_:wpAny _ A.in1 (seqItems? (.ref S) >>= _) _ _ s);refine zC1 (wpAny_seqItems hS rfl ?_);refine (?_:wpAny _ A.in1 (tryCatch (pyNext (.ref I)) _ >>= _) _ _ s);refine zC1 (wpAny_tryCatch (W.done s _ _ CZ fun h' tk Di=>?_));have Em:=Di S _ Gj hS;rcases hT with ⟨h0,rfl⟩ | ⟨m,t,rfl,hm,hb⟩
  ·exact zC1 (wpAny_rule (zC2 (hR dv h' tk (.inl ⟨length_eq_zero_iff.mp h0,rfl⟩) fun b o DH U e=>Di b o DH e)))
  ·refine (?_:wpAny _ A.in1 (updateSeq S (fun U=>#[]) >>= _) _ _ _);refine zC1 (wpAny_updateSeq Em rfl (zC1 (wpAny_letGo (zC2 ?_))));rw [take_length] at hm hb;exact hR _ _ tk (.inr ⟨m,t,rfl,hm,hb⟩) fun b o DH Ej e=>(get?_update_other _ _ (Ne.symm Ej)).trans (Di b o DH e)
 | succ k ih=>
  intro i s Ee c hk hi CZ hT hS hR;have Cm:i < is.length:=by omega
  refine codeAny_builtin PySem.F.entry_max_loop ?_;rw [under_plainId PySem.F.plain_max_loop _];refine (?_:wpAny _ A.in1 (seqItems? (.ref S) >>= _) _ _ s);refine zC1 (wpAny_seqItems hS rfl ?_);refine (?_:wpAny _ A.in1 (tryCatch (pyNext (.ref I)) _ >>= _) _ _ s);refine zC1 (wpAny_tryCatch (W.item i s _ _ Cm CZ fun v h' tk hPv C7 Di=>?_));have Em:=Di S _ Gj hS;obtain ⟨m,t,em,rfl⟩:=hP i v hPv;have Fc:is.take (i+1)=is.take i++[m]:=by rw [take_add_one,em]; rfl
  have go:∀ (s':Shared) (Ed:List Value) (c':Nat),St (i+1) s'.heap->Top is (i+1) Ed->s'.heap.get? S=some { cls:=.type "list",dict:=none,data:=.seq Ed.toArray c',slots:=#[] }->(∀ b o,b∉wr->b≠S->s.heap.get? b=some o->s'.heap.get? b=some o)->(∃ Eo Fu,s'={ s with heap:=Eo,toks:=Fu }) ->
    codeAny (model prog w) A (.builtin "max.loop" ⟨[.ref I,.none,.ref S],[("default",dv)]⟩) R s':=fun s' Ed c' h1 h2 h3 h4 ⟨Eo,Fu,e⟩=>by
   subst e;exact ih (i+1) _ Ed c' (by omega) Cm h1 h2 h3 fun v h' tk q k=>hR v h' tk q fun b o DH Ej e=>k b o DH Ej (h4 b o DH Ej e)
  have upd:∀ (b:Addr) (hb:b∈fp) (o:Obj) (f:Obj->Obj),h'.get? b=some o->(h'.update S f).get? b=some o:=fun b hb o f e=>(get?_update_other _ _ (fun h:S=b=>Gk (by rw [h]; exact hb))).trans e;rcases hT with ⟨rfl,rfl⟩ | ⟨n,u,rfl,hm,hb⟩
  ·refine (?_:wpAny _ A.in1 (updateSeq S (fun U=>#[.int m t,.int m t]) >>= _) _ _ _);refine zC1 (wpAny_updateSeq Em rfl ?_);rw [DX];exact zC2 ⟨plainId_quiet PySem.F.plain_max_loop _,go _ [.int m t,.int m t] _ (W.frame _ _ _ C7 fun b hb o e=>upd b hb o _ e) (.inr ⟨m,t,rfl,by rw [Fc]; simp,by rw [Fc]; simp⟩) (get?_update_self _ Em rfl) (fun b o DH Ej e=>(get?_update_other _ _ (Ne.symm Ej)).trans (Di b o DH e)) ⟨_,_,rfl⟩⟩
  ·refine (?_:wpAny _ A.in1 (tryCatch (holding [.int m t,.int m t] (richCompare .Gt (.int m t) (.int n u) >>= _)) _ >>= _) _ _ _);refine zC1 (wpAny_tryCatch (wpAny_holding (zC1 (P.gt_int ?_))));refine zC1 (wpAny_holding (wpAny_truthy_bool ?_));refine zC1 (wpAny_letGo (zC2 ?_));by_cases q:n < m
   ·rw [if_pos (decide_eq_true q)];refine zC1 (wpAny_updateSeq Em rfl (zC1 (wpAny_letGo ?_)));rw [DX];refine zC2 ⟨plainId_quiet PySem.F.plain_max_loop _,go _ [.int m t,.int m t] _ (W.frame _ _ _ C7 fun b hb o e=>upd b hb o _ e) (.inr ⟨m,t,rfl,by rw [Fc]; simp,fun x hx=>?_⟩) (get?_update_self _ Em rfl) (fun b o DH Ej e=>(get?_update_other _ _ (Ne.symm Ej)).trans (Di b o DH e)) ⟨_,_,rfl⟩⟩;rw [Fc] at hx;rcases mem_append.mp hx with hx | hx
    ·exact le_trans (hb x hx) (Int.le_of_lt q)
    ·rw [zA6 hx]; exact Int.le_refl _
   ·rw [if_neg (by simpa using q)];refine zC1 (wpAny_letGo ?_);rw [DX];refine zC2 ⟨plainId_quiet PySem.F.plain_max_loop _,go _ [.int n u,.int n u] c C7 (.inr ⟨n,u,rfl,by rw [Fc]; exact mem_append_left _ hm,fun x hx=>?_⟩) Em (fun b o DH Ej e=>Di b o DH e) ⟨_,_,rfl⟩⟩;rw [Fc] at hx;rcases mem_append.mp hx with hx | hx
    ·exact hb x hx
    ·rw [zA6 hx]; exact Int.not_lt.mp q
end
section
variable {Φ:Ct} {s:Shared} {v u:Value} {x y z:V} {d:DV}
def wO (I:Inv Φ s) (hz:kvs.length<=ac) (q:dkV kvs=true) (r:Φ.rp s.heap v (.dict kvs)):Φ.wp (call (.type "list") [v]) (fun w s'=>w=.ref s.heap.objs.size/\Φ.Gives s (.list (kvs.map (·.1))) w s') s:=fun E=>by
 refine r.dict_elim q fun a o es n hb hm ha hc hd he k1 k2=>?_;have hl:(es.toList.map (·.key)).length=es.size:=by rw [zA4,zB3]
 have hl2:es.size=kvs.length:=by have:=k1.length; rwa [hl,zA4] at this
 refine nq (T:="dict") (vals:=es.toList.map (·.key)) I.ok.hand (.inr (.inr rfl)) (aN ha) (fun s' k=>⟨o,k _ _ ha,hc.1⟩) (fun s' Q E k hq=>j4 ⟨o,k _ _ ha,hc.1⟩ hq) (by rw [hl,hl2]; exact bV hz) (fun s' Q E k Cr hQ=>?_) fun h' dr tk c' k hD=>⟨rfl,⟨k,rfl,rfl⟩,.list I.fresh hD ⟨rfl,rfl⟩ rfl (k1.keep k)⟩;have W:=eN (prog:=Φ.fx.g.prog) (w:=Φ.fx.g.w) (A:=Φ.fx.A.in1.in1) (I:=s'.heap.objs.size) I.ok.hand (aN (k _ _ ha)) hd;rw [<- hl] at W;exact gi (beq_eq_false_iff_ne.mpr hm) (k _ _ ha) hc hd (hQ _ _ _ (fun b m=>(mem_cons.mp m).imp id fun m=>by obtain rfl:=zA6 m; exact ⟨o,ha⟩) (ae _ _) W ⟨⟨_,J0 _ rfl,rfl,by rw [hl]; rfl⟩,ae _ _ _ _ (k _ _ ha)⟩)
def t9 (I:Inv Φ s) (e:ya x=some l) (r:Φ.rp s.heap v x):Φ.wp (call (.type "list") [v]) (fun w s'=>w=.ref s.heap.objs.size/\Φ.Gives s (.list l) w s') s:=by
 cases x with
 | dict kvs=>exact aK (e:(if dkV kvs=true then bN kvs (kvs.map (·.1)) else none)=some l) fun q e=>fit_elim (C:=fun l=>Φ.wp (call (.type "list") [v]) (fun w s'=>w=.ref s.heap.objs.size/\Φ.Gives s (.list l) w s') s) e fun hz=>wO I hz q r
 | list m=>exact qN I (x:=.list m) (e:fC (.list m)=some l) r
 | tuple m=>exact qN I (x:=.tuple m) (e:fC (.tuple m)=some l) r
 | _=>(injection e; done)
def kg (hx:bK Φ.fx.env.scope.names "list"=true) (hp:aj e=true) (h:Ev Φ (eval e Φ.fx.env) d):EvN Φ (eval (.Call (.Name "list" fp) [e] [] pos) Φ.fx.env) (fun K=>d fun x=>okK (opN .listOf [x]) K):=fun K s hd I=>
 jc hx rfl (.inr ⟨_,rfl⟩) hp h (fun s v x E I r hx=>ab hx fun z e kz=>map_elim (C:=fun z=>K z->wpAny _ _ (call (.type "list") [v]) (fN Φ s K) E s) e (fun l e kz=>wpAny_mono (t9 I e r E) (fun w s' q=>⟨⟨I.base.grown q.2.1,q.2.1.keeps,_,kz,q.2.2⟩,q.1▸d7 (le_refl _)⟩) fun U U z=>z) kz) hd I
def xl {o:Expr} (hx:bK Φ.fx.env.scope.names "list"=true) (ho:bt o=true) (Ca:(Cb.endLine==mpos.line)=true) (h:Ev Φ (eval o Φ.fx.env) d) :
  Ev Φ (eval (.Call (.Name "list" fp) [.Call (.Attribute o "values" Cb) [] [] mpos] [] pos) Φ.fx.env) (fun K=>d fun x=>okK (opN .vals [x]) K):=fun K s hd I E=>by
 refine (?_:wpAny _ _ (eval (.Name "list" fp) Φ.fx.env >>= fun F=>callWith pos F [] (backTo pos (starEach [.Call (.Attribute o "values" Cb) [] [] mpos] Φ.fx.env)) []) _ _ s);refine zC1 (bO (v:=.type "list") I hx rfl ?_ E);refine PySem.callWith_type rfl (Calls.evalArgs_plain ?_);refine (?_:wpAny _ _ (eval (.Call (.Attribute o "values" Cb) [] [] mpos) Φ.fx.env >>= fun v=>holding [v] (pure []) >>= fun vs=>pure (v :: vs)) _ _ s);refine zC1 (wpAny_Call_method (T:="dict") (id:="dict.values") (aA ho) rfl Ca PySem.F.plainAttrs_dict PySem.F.slot_dict_values PySem.F.type_dict_values ?_);refine wpAny_mono (h _ s hd I E) (fun ov s₁ ⟨B,B7,x,hx,r⟩=>?_) fun U U z=>z;have g':=I.keep B B7;refine ab hx fun z ez kz=>?_;cases x with
 | dict kvs=>
  refine aK (ez:(if dkV kvs=true then bN kvs (.list (kvs.map (·.2))) else none)=some z) fun q ez=>?_;refine fit_elim (C:=fun z=>K z->_) ez (fun hz kz=>?_) kz;refine r.dict_elim q fun a o es n hb hm ha hc hd he k1 k2=>?_;have hT:s₁.TypeIs (.ref a) "dict":=⟨o,ha,hc.1⟩;refine ⟨hT,fun b q=>by (injection q with q; subst q); exact ⟨o,ha,hc.2.1⟩,callWith_builtin rfl (PySem.evalArgs_none ?_)⟩;refine mF hT (beq_eq_false_iff_ne.mpr hm) ?_;refine zC1 (wpAny_holding (zC2 (zC2 ?_)));have hl:(es.toList.map (·.val)).length=es.size:=by rw [zA4,zB3]
  have hl2:es.size=kvs.length:=by have:=k2.length; rwa [hl,zA4] at this
  have kp:=ae s₁.heap { cls:=.type "dict_values",data:=.fields #[.ref a] };have hV:(s₁.heap.push { cls:=.type "dict_values",data:=.fields #[.ref a] }).IsValuesView s₁.heap.objs.size a:=⟨_,J0 _ rfl,rfl,rfl⟩;have HS:∀ s':Shared,ah (s₁.heap.push { cls:=.type "dict_values",data:=.fields #[.ref a] }) s'.heap->s'.heap.IsValuesView s₁.heap.objs.size a:=fun s' k=>let ⟨o,ho,r⟩:=hV; ⟨o,k _ _ ho,r⟩;refine nq (s:={ s₁ with heap:=s₁.heap.push { cls:=.type "dict_values",data:=.fields #[.ref a] } }) (T:="dict_values") (vals:=es.toList.map (·.val)) I.ok.hand (.inr (.inl rfl)) (by rw [size_push]; exact ne_of_lt (lt_succ_self _)) (fun s' k=>(HS s' k).typeIs) (fun s' Q E k hq=>sm (HS s' k).typeIs hq) (by rw [hl,hl2]; exact bV hz) (fun s' Q E k Cr hQ=>?_) fun h' dr tk c' k hD=>?_
  ·have El:=k _ _ (kp _ _ ha);have W:=oi (prog:=Φ.fx.g.prog) (w:=Φ.fx.g.w) (A:=Φ.fx.A.in1.in1) (I:=s'.heap.objs.size) I.ok.hand (aN El) hd;rw [<- hl] at W;exact r9 (HS s' k) El hd (hQ _ _ _ (fun b m=>(mem_cons.mp m).imp id fun m=>by obtain rfl:=zA6 m; exact ⟨o,kp _ _ ha⟩) (ae _ _) W ⟨⟨_,J0 _ rfl,rfl,by rw [hl]; rfl⟩,ae _ _ _ _ El⟩)
  ·have kk:=kp.trans k;refine ⟨⟨g'.base.stays.trans kk,g'.base.os,g'.base.gens⟩,B7.trans kk,_,kz,.list (fun q=>?_) hD ⟨rfl,rfl⟩ rfl (k2.keep kk)⟩;obtain ⟨o',e'⟩:=g'.badLive q;exact absurd (lt_size (kp _ _ e')) (lt_irrefl _)
 | _=>(injection ez; done)
def xq {fp pos kp cp:Pos} {e:Expr} {ck:Nat} (hx:bK Φ.fx.env.scope.names "max"=true) (hp:aj e=true) (h:Ev Φ (eval e Φ.fx.env) d) :
  Ev Φ (eval (.Call (.Name "max" fp) [e] [⟨some "default",.Constant (.int 1) ck cp,kp⟩] pos) Φ.fx.env) (fun K=>d fun x=>okK (bz x cT) fun is=>is.length<=ac/\∀ m:Int,(is=[]->m=1)->(is≠[]->m∈is/\∀ x∈is,x<=m)->K (.int m)):=fun K s hd I E=>by
 refine (?_:wpAny _ _ (eval (.Name "max" fp) Φ.fx.env >>= fun F=>callWith pos F [] (backTo pos (starEach [e] Φ.fx.env)) (backToKw pos (keywordEach [⟨some "default",.Constant (.int 1) ck cp,kp⟩] Φ.fx.env))) _ _ s);refine zC1 (bO (v:=.builtin "max") I hx rfl ?_ E);refine callWith_kw ?_ (by rw [aq hp]; rfl) (by rw [aq hp]; rfl) rfl rfl;have it:=dj (pos:=pos) (qs:=[(e,d)]) (fun q m=>by cases zA6 m; exact ⟨hp,h⟩) (fun xs=>okK (one xs some) fun x=>okK (bz x cT) fun is=>is.length<=ac/\∀ m:Int,(is=[]->m=1)->(is≠[]->m∈is/\∀ x∈is,x<=m)->K (.int m)) s hd I E;refine wpAny_mono it (fun vs s₁ ⟨B,k,xs,Hw,rs⟩=>?_) fun U U z=>z;have g':=I.keep B k;refine kws_cons ?_;refine (?_:wpAny _ _ (constValue Φ.fx.env (.int 1)) _ _ _);refine wpAny_mkInt (kws_nil ?_);refine ab Hw fun x e hx=>ci (C:=fun vs=>wpAny _ _ (call (.builtin "max") vs _) _ _ _) e rs fun v x' r e=>?_;cases e
 refine ab hx fun is e ⟨hz,hK⟩=>?_;refine cw (C:=fun x=>Φ.rp s₁.heap v x->wpAny _ _ (call (.builtin "max") [v] _) _ E _) e (fun l e r=>?_) r;refine r.list_elim fun a o vs n U ha hc hd hl=>?_;have hi:=eT e hl;have E0:vs.size=is.length:=by rw [<- zB3,<- hi.nums,zA4]
 have hL:s₁.heap.IsList a vs:=⟨_,ha,hc.1,_,hd⟩;have Cr:=aN ha;refine kP (args:=⟨[.ref a],[("default",.int 1 s₁.toks)]⟩) PySem.F.kind_max PySem.F.plain_max PySem.F.entry_max (oY _ _) (c':=.builtin "max.loop" ⟨[.ref s₁.heap.objs.size,.none,.ref (s₁.heap.objs.size+1)],[("default",.int 1 s₁.toks)]⟩) ?_;refine (?_:wpAny _ Φ.fx.A.in1 (Builtin.Builtins.bindParams "max" ["key", "default"] 0 ⟨[],[("default",_)]⟩ >>= _) _ _ _);refine zC1 (wpAny_of_eq (oX _) ?_);refine zC1 (zC2 ?_);refine zC1 (wpAny_pyIter_list (s:={ s₁ with toks:=s₁.toks+1 }) hL ?_);refine zC1 (wpAny_newObj_type ?_);refine zC2 ⟨?_,plainId_quiet PySem.F.plain_max_loop _,?_⟩
 ·rw [size_push]; rfl
 have W:=Walks.list (prog:=Φ.fx.g.prog) (w:=Φ.fx.g.w) (A:=Φ.fx.A.in1) g'.ok.hand s₁.heap.objs.size a Cr vs;rw [E0] at W;have hsz:(s₁.heap.push { cls:=.type "list_iterator",data:=.fields #[.ref a,.int 0 0] }).objs.size=s₁.heap.objs.size+1:=size_push ..;refine tU W (fun i v e=>?_) (s₁.heap.objs.size+1) (fun q=>?_) _ (is.length - 0) 0 _ [] _ rfl (zero_le _) ?_ (.inl ⟨rfl,rfl⟩) (by rw [<- hsz]; exact J0 _ rfl) fun v h' tk q k'=>?_
 ·obtain ⟨t,et⟩:=hi.int_at i v (Ja▸e);have Cm:i < is.length:=E0▸(Array.getElem?_eq_some_iff.mp e).1;exact ⟨is.getD i 0,t,by rw [J9 Cm]; simp [Cm],et⟩
 ·rcases mem_cons.mp q with q | q
  ·exact absurd q (succ_ne_self _)
  ·have:=lt_size ha; rw [<- zA6 q] at this; exact absurd this (not_lt.mpr (le_succ _))
 ·exact ⟨⟨_,J7 _ (J0 _ rfl),rfl,rfl⟩,(hL.push _).push _⟩
 ·have kk:ah s₁.heap h':=fun b o e=>k' b o (fun q=>aN e (zA6 q)) (fun q=>by have:=lt_size e; rw [q] at this; exact absurd this (not_lt.mpr (le_succ _))) (J7 _ (J7 _ e));have B2:Base Φ.fx.g { s₁ with heap:=h',toks:=tk }:=g'.base.grown (ja kk);rcases q with ⟨rfl,rfl⟩ | ⟨m,t,rfl,hm,hb⟩
  ·exact ⟨B2,k.trans kk,_,hK 1 (fun U=>rfl) (fun q=>absurd rfl q),.int _ _⟩
  ·exact ⟨B2,k.trans kk,_,hK m (fun q=>by subst q; cases hm) (fun U=>⟨hm,hb⟩),.int _ _⟩
end
section
variable {g:Gl} {bad B4:Addr->Prop} {h h':Heap}
theorem FldsAt.get (r:FldsAt g bad h ws fs F):∀ {j:Nat},fs[j]?=some f->∃ w fa,ws[j]?=some w/\F[j]?=some fa/\FldAt g bad h w f fa:=by
 induction r with
 | nil=>exact fun e=>nN e.symm
 | cons x _ ih=>
  intro j e;cases j with
  | zero=>obtain rfl:=Option.some.inj e; exact ⟨_,_,rfl,rfl,x⟩
  | succ j=>exact ih e
theorem InAll.get (r:InAll g bad h vs l F):∀ {i:Nat},l[i]?=some x->∃ a,F[i]?=some a/\vs[i]?=some (.ref a)/\c9 g bad h a x:=by
 induction r with
 | nil=>exact fun e=>nN e.symm
 | cons x _ ih=>
  intro j e;cases j with
  | zero=>obtain rfl:=Option.some.inj e; exact ⟨_,rfl,rfl,x⟩
  | succ j=>exact ih e
def o7 (h:Heap) (a:Addr):Prop:=∃ o,h.get? a=some o/\o.cls≠.type "tuple"
def jA {o:Obj} (h:o.cls=.type n) (q:n≠"tuple"):o.cls≠.type "tuple":=fun e=>q (Value.type.inj (h.symm.trans e))
theorem c9.cls (r:c9 g bad h a x):o7 h a:=by
 cases x with
 | list l=>cases (r:OwnLAt g bad h a l) with | mk o vs n ho hc hd hl=>exact ⟨o,ho,jA hc.1 (by decide)⟩
 | dict l=>cases (r:OwnDAt g bad h a l) with | mk o es n ho hc hd hk r1 r2=>exact ⟨o,ho,jA hc.1 (by decide)⟩
 | _=>exact r.elim
theorem InAll.cls (r:InAll g bad h vs l F):∀ a∈F,o7 h a:=by
 induction r with
 | nil=>exact fun U m=>nM m
 | cons x _ ih=>exact zA1 ⟨x.cls,ih⟩
theorem FldAt.cls (r:FldAt g bad h w f fa):∀ a∈fa,o7 h a:=by
 cases r with
 | val x=>exact fun U m=>nM m
 | L x=>exact forall_mem_singleton.mpr (c9.cls (x:=.list _) x)
 | D x=>exact forall_mem_singleton.mpr (c9.cls (x:=.dict _) x)
 | N x=>cases x with | mk o es n ho hc hd hk r1 r2=>exact zA1 ⟨⟨o,ho,jA hc.1 (by decide)⟩,r2.cls⟩
theorem FldsAt.cls (r:FldsAt g bad h ws fs F):∀ a∈F.flatten,o7 h a:=by
 induction r with
 | nil=>exact fun U m=>nM m
 | cons x _ ih=>exact fun a m=>(mem_append.mp m).elim (x.cls a) (ih a)
theorem aV.cls (r:aV g bad h al oak v sl):∀ a∈oak.flatten,o7 h a:=by
 cases sl with
 | ownL l=>obtain ⟨a,rfl,_,x⟩:=r; exact forall_mem_singleton.mpr (c9.cls (x:=.list l) x)
 | ownD l=>obtain ⟨a,rfl,_,x⟩:=r; exact forall_mem_singleton.mpr (c9.cls (x:=.dict l) x)
 | ownI o=>obtain ⟨a,F,u,rfl,_,b,od,ws,_,_,_,ho,hf,hl,_⟩:=r; exact zA1 ⟨⟨od,ho,jA hf.1.1 (by decide)⟩,hl.cls⟩
 | obj o=>obtain ⟨u,_,b,a,od,ws,_,_,_,_,_,_,hl,_⟩:=r; exact hl.cls
 | _=>exact fun a m=>by rw [r.1] at m; exact nM m
theorem kX (q:∀ a o,bad a->h.get? a=some o->o.cls=.type "tuple"->B4 a):∀ (n:Nat) {v:Value} {x:V},flN n x=true->Rp g B4 h v x->Rp g bad h v x
 | 0,v,x,e,r=>by
  cases r with
  | none=>exact .none
  | bool=>exact .bool _
  | int=>exact .int _ _
  | str=>exact .str _ _
  | _=>exact nB e
 | n+1,v,x,e,r=>by
  cases r with
  | none=>exact .none
  | bool=>exact .bool _
  | int=>exact .int _ _
  | str=>exact .str _ _
  | @tuple a o vs m l nb ha hc hd hl=>
   refine .tuple (fun z=>nb (q a o z ha hc)) ha hc hd ?_;exact hl.ind (D:=fun vs l=>l.all (flN n)=true->RpAll g bad h vs l) (fun U=>.nil) (fun v vs x l r U ih e=>have e:=zA2 e; .cons (kX q n e.1 r) (ih e.2)) e
  | _=>exact nB e
end
def mC (G:Gs) (k:Nat):getSlot (eF G) k=w2 G k (getSlot G k):=by
 unfold getSlot;rw [getD_eq_getElem?_getD,getD_eq_getElem?_getD,frz_at];cases G[k]? <;> rfl
def c6 (e:fldN o j=some l):o.fs[j]?=some (.N l):=by
 unfold fldN at e;split at e
 ·rename_i q; rw [q,Option.some.inj e]
 ·exact nN e.symm
def j8 (e:qZ o j=some l):o.fs[j]?=some (.L l):=by
 unfold qZ at e;split at e
 ·rename_i q; rw [q,Option.some.inj e]
 ·exact nN e.symm
def sx (e:w5 o j=some l):o.fs[j]?=some (.D l):=by
 unfold w5 at e;split at e
 ·rename_i q; rw [q,Option.some.inj e]
 ·exact nN e.symm
def kD (e:lC G m=some z) {C:Nat×Nat×Nat×Ob×List (V×V)×V×V->Prop} (k:∀ k j i o l p,getSlot G m=.ali k j i->getSlot G k=.obj o->o.fs[j]?=some (.N l)->l[i]?=some p->C (k,j,i,o,l,p)):C z:=by
 unfold lC at e;split at e
 ·rename_i q;obtain ⟨o,h1,e⟩:=bind_eq_some_iff.mp e;obtain ⟨l,h2,e⟩:=bind_eq_some_iff.mp e;obtain ⟨p,h3,rfl⟩:=map_eq_some_iff.mp e;exact k _ _ _ o l p q (fD h1) (c6 h2) h3
 ·exact nN e.symm
def hY {p:Pl} (r:aw h p v) (r':aw h p v'):v=v':=by
 cases p with
 | ns a x=>
  obtain ⟨m,⟨o,es,ep,ho,hd,_,hf⟩,hv⟩:=r;obtain ⟨m',⟨o',Ds,ep',CA,Cv,_,E2⟩,Hy⟩:=r';obtain rfl:=Option.some.inj (ho.symm.trans CA);replace Cv:=hd▸Cv; (injection Cv with Cv; subst Cv);rw [<- hv,<- Hy,<- hf,E2]
 | cell c=>obtain ⟨o,ho,hd⟩:=r; obtain ⟨o',CA,Cv⟩:=r'; obtain rfl:=Option.some.inj (ho.symm.trans CA); have z:=hd.symm.trans Cv; injection z
 | off=>exact (r:v=none).trans (r':v'=none).symm
section
variable {Φ:Ct} {s:Shared}
def vC (I:Inv Φ s) (e1:getSlot Φ.G m=.ali k j i) (e2:getSlot Φ.G k=.obj o) (e3:o.fs[j]?=some (.N l)) (e4:l[i]?=some p):∃ a b F,aw s.heap (Φ.fx.pl m) (some (.ref b))/\(Φ.oa k)[j]?=some (a :: F)/\F[i]?=some b/\NestAt Φ.fx.g Φ.bad s.heap a l F/\c9 Φ.fx.g Φ.bad s.heap b p.2:=by
 obtain ⟨v,pr,so⟩:=I.slot m;rw [e1] at so;obtain ⟨_,u,rfl,al⟩:=so;obtain ⟨fa,b,h1,h2,rfl⟩:=al o e2;obtain ⟨u',_,_,_,_,ws,_,_,_,_,_,_,hl,_⟩:=bY I e2;obtain ⟨w,Gu,_,h3,fl⟩:=hl.get e3;obtain rfl:=Option.some.inj (h1.symm.trans h3);cases fl with
 | @N a _ F x=>
  have h2:F[i]?=some b:=h2;refine ⟨a,b,F,pr,h1,h2,x,?_⟩;cases x with
  | mk o es n ho hc hd hk r1 r2=>
   obtain ⟨c,h5,_,y⟩:=r2.get (x:=p.2) (i:=i) (by rw [Jc,e4]; rfl);obtain rfl:=Option.some.inj (h2.symm.trans h5);exact y
noncomputable def Ct.frz (Φ:Ct):Ct:=⟨Φ.fx,fun U=>[],eF Φ.G⟩
def qW (q:Φ.frz.bad a):Φ.fx.Mo a\/∃ k,(Φ.fx.pl k).addr=some a:=q.imp id fun q=>q.elim id fun q=>q.elim fun U m=>nM m
def vm (I:Inv Φ s) (m:a∈(Φ.oa k).flatten):¬ Φ.frz.bad a/\a≠sysModules:=
 ⟨fun q=>(qW q).elim (I.new a (.inr ⟨k,m⟩)).2.2 fun q=>q.elim fun j q=>I.off k a m j q,I.nsys (.inr ⟨k,m⟩)⟩
def ju:a7 Φ.bad Φ.frz.bad h h:=fun b o e n=>⟨fun q=>n ((qW q).imp id .inl),e⟩
theorem Inv.frzd (I:Inv Φ s):Inv Φ.frz s where
 ok:=I.ok
 base:=I.base
 slot:=fun k=>by
  obtain ⟨v,r,so⟩:=I.slot k;refine ⟨v,r,?_⟩;refine (?_:aV Φ.fx.g Φ.frz.bad s.heap Φ.frz.al [] v (getSlot (eF Φ.G) k));rw [mC];have na:=fun a m=>vm (a:=a) (k:=k) I m;cases e:getSlot Φ.G k with
  | unset=>rw [e] at so; exact ⟨rfl,so.2⟩
  | junk=>rw [e] at so; exact ⟨rfl,so.2⟩
  | v x=>rw [e] at so; obtain ⟨_,u,h1,h2⟩:=so; exact ⟨rfl,u,h1,h2.map ju⟩
  | ownL l=>rw [e] at so; obtain ⟨a,ha,h1,h2⟩:=so; exact ⟨rfl,_,h1,c9.rp (x:=.list l) ju (na a (by rw [ha]; exact .head _)) h2⟩
  | ownD l=>rw [e] at so; obtain ⟨a,ha,h1,h2⟩:=so; exact ⟨rfl,_,h1,c9.rp (x:=.dict l) ju (na a (by rw [ha]; exact .head _)) h2⟩
  | ownI o=>rw [e] at so; obtain ⟨_,_,u,_,h1,_⟩:=so; exact ⟨rfl,u,h1⟩
  | obj o=>rw [e] at so; obtain ⟨u,rfl,h2⟩:=so; exact h2.slot ju na
  | ali k' j i=>
   rw [e] at so;obtain ⟨_,u,h1,_⟩:=so;have E:w2 Φ.G k (.ali k' j i)=match lC Φ.G k with | some (_,_,_,_,_,_,x)=>Slot.v x | none=>.junk:=rfl
   rw [E];cases ea:lC Φ.G k with
   | none=>exact ⟨rfl,u,h1⟩
   | some z=>
    refine kD (C:=fun z=>aV Φ.fx.g Φ.frz.bad s.heap Φ.frz.al [] v (match some z with | some (_,_,_,_,_,_,x)=>Slot.v x | none=>.junk)) ea fun B7 j i o l p q1 q2 q3 q4=>?_;obtain ⟨a,b,F,pr,h2,h3,_,x⟩:=vC I q1 q2 q3 q4;refine ⟨rfl,.ref b,?_,x.rp ju (vm (k:=B7) I (mem_flatten.mpr ⟨_,J8 h2,.tail _ (J8 h3)⟩))⟩;exact hY r pr
 new:=fun a q=>I.new a (q.imp id fun q=>q.elim fun U m=>nM m)
 inj:=fun U U U m=>nM m
 off:=fun U U m=>nM m
 gl:=by refine (?_:(eF Φ.G).length=_); exact (nJ _ _ _).trans I.gl
 mo:=I.mo
def kB (I:Inv Φ s) (k:ah s.heap h') (e:flN n y=true) (r:Rp Φ.fx.g Φ.frz.bad h' v y):Rp Φ.fx.g Φ.bad h' v y:=kX (fun a o b ha hc=>by
 rcases b with b | b | ⟨j,b⟩
 ·exact .inl b
 ·exact .inr (.inl b)
 ·obtain ⟨v,_,so⟩:=I.slot j;obtain ⟨o',e',n⟩:=so.cls a b;obtain rfl:=Option.some.inj ((k _ _ e').symm.trans ha);exact absurd hc n) n e r
def xn {fx:Fx} {t:Sem Value} {d:Gs->DV} (h:∀ oa G,Ev ⟨fx,oa,G⟩ t (d G)) (oa:Nat->List (List Addr)) (G:Gs):Ev ⟨fx,oa,G⟩ t (fun K=>d (eF G) fun y=>fJ y=true/\K y):=fun K s hd I E=>
 wpAny_mono (h (fun U=>[]) (eF G) _ s hd (Inv.frzd (Φ:=⟨fx,oa,G⟩) I) E) (by rintro v s' ⟨B,k,y,hy,r⟩; exact ⟨B,k,y,hy.2,kB (Φ:=⟨fx,oa,G⟩) I k hy.1 r⟩) fun U U z=>z
def r6 (K:Bool->Prop):(fun y=>fJ y=true/\okK (cq y some) K)=fun y=>okK (cq y some) K:=funext fun y=>propext ⟨And.right,fun z=>⟨by cases y <;> first | rfl | exact z.elim,z⟩⟩
def rK {fx:Fx} {t:Sem Bool} {d:Gs->DV} (h:∀ oa G,EvT ⟨fx,oa,G⟩ t (tst (d G))) (oa:Nat->List (List Addr)) (G:Gs):EvT ⟨fx,oa,G⟩ t (tst fun K=>d (eF G) fun y=>fJ y=true/\K y):=fun K s hd I E=>
 wpAny_mono (h (fun U=>[]) (eF G) K s (by have z:d (eF G) (fun y=>fJ y=true/\okK (cq y some) K):=hd; rw [r6] at z; exact z) (Inv.frzd (Φ:=⟨fx,oa,G⟩) I) E) (by rintro v s' ⟨B,k,y,hy,r⟩; exact ⟨B,k,y,hy,r⟩) fun U U z=>z
def uD {fx:Fx} {t:Sem Value} {d:Gs->DV} (h:∀ oa G,EvN ⟨fx,oa,G⟩ t (d G)) (oa:Nat->List (List Addr)) (G:Gs):Ev ⟨fx,oa,G⟩ t (fun K=>d (eF G) fun y=>eU y=true/\K y):=fun K s hd I E=>
 wpAny_mono (h (fun U=>[]) (eF G) _ s hd (Inv.frzd (Φ:=⟨fx,oa,G⟩) I) E) (by
  rintro v s' ⟨⟨B,k,y,hy,r⟩,nv⟩;refine ⟨B,k,y,hy.2,?_⟩;cases y with
  | list l=>
   refine Rp.list_elim (C:=fun v=>jC s.heap v->Rp fx.g (Ct.mk fx oa G).bad s'.heap v (.list l)) r (fun a o vs n U ha hc hd hl nv=>.list (fun q=>lt_irrefl a (nv a a rfl (I.badLive q))) ha hc hd ?_) nv;exact hl.ind (D:=fun vs l=>l.all fJ=true->RpAll fx.g (Ct.mk fx oa G).bad s'.heap vs l) (fun U=>.nil) (fun v vs x l r U ih e=>have e:=zA2 e; .cons (kB (Φ:=⟨fx,oa,G⟩) I k e.1 r) (ih e.2)) hy.1
  | _=>exact nB hy.1) fun U U z=>z
end
section
variable {Φ:Ct} {s:Shared}
def iV {E:Value->Shared->Prop} {Q:Unit->Shared->Prop} (I:Inv Φ s) (q:Φ.own a) (ow:OwnDAt Φ.fx.g Φ.bad s.heap a l) (hx:aJ x=true) (rx:Φ.rp s.heap vx x) (ry:Φ.rp s.heap v y) (hz:l.length < ac) (h:∀ h' tk,Chg Φ s a h'->OwnDAt Φ.fx.g Φ.bad h' a (cE l x y)->Q () { s with heap:=h',toks:=tk }):wpAny (model Φ.fx.g.prog Φ.fx.g.w) Φ.fx.A (setItem (.ref a) vx v) Q E s:=by
 obtain ⟨c,rfl⟩:=cx rx hx;obtain ⟨xs,D,En⟩:=DAt.dk ow;refine @wpAny_setItem_heap _ _ V cC (cy Φ.fx.g.prog Φ.fx.g.w) _ _ _ _ _ _ _ _ _ I.room3 (KIs.of hx rx) D (fun h' D' sb=>?_) (bV (by rw [En.length]; exact le_of_lt hz));have lv:aI h' a:=by obtain ⟨o,_,_,e,_⟩:=D'; exact ⟨o,e⟩
 have c:Chg Φ s a h':=⟨fun b o n e=>sb.extBut b o n e,lv⟩;have mk:=c.mapK q;exact h h' _ c (DAt.of D' ((En.map mk).put hx (rx.map mk) (ry.map mk)))
end
section
variable {fx:Fx}
def xd (hT:TgtOk fx.ρ fx.env n k):ExB fx (exec (.Assign [.Name n py] (.Dict [] [] pos) spos) fx.env) (fun G K=>K none (G.set k (.ownD []))):=fun oa G K s hd I E=>by
 rw [exec_Assign_Name _ _ _ _ _ (aP rfl)];refine zC1 (wpAny_standAt (zC1 (wpAny_Dict_empty ?_)));have gr:=Grown.push s { cls:=.type "dict",data:=.dict #[] } s.toks;have hD:s.heap.get? s.heap.objs.size=none:=ag _;refine zC1 (wpAny_standAt (zC1 (wpAny_bindName (put_new (oak:=[[s.heap.objs.size]]) (sl:=.ownD []) hT I (I.base.grown gr) gr.keeps (fun a m=>by obtain rfl:=zA6 m; exact ⟨hD,_,J0 _ rfl⟩) nofun id (fun q=>q.elim) (fun h' kp=>?_) (fun s' I' t'=>zC2 (.next I' t' hd)) _))));have nb:¬ (Ct.mk fx oa G).own s.heap.objs.size:=fun q=>I.fresh (.inr q);exact ⟨_,rfl,rfl,_,#[],0,kp _ _ (J0 _ rfl) nb,⟨rfl,rfl,rfl⟩,rfl,⟨rfl,nodup_nil,rfl⟩,.nil,.nil⟩
def w8 {n:Str} {k:Nat} {np sp spos:Pos} {ei ev:Expr} {d1 d2:Gs->DV} (hx:fx.ρ.lookup n=some k) (hn:aL n=true) (hs:bR ev=true) (h1:∀ oa G,Ev ⟨fx,oa,G⟩ (eval ev fx.env) (d1 G)) (h2:∀ oa G,Ev ⟨fx,oa,G⟩ (eval ei fx.env) (d2 G)) :
  ExB fx (exec (.Assign [.Subscript (.Name n np) ei sp] ev spos) fx.env) (fun G K=>okK (ib G k) fun l=>d1 G fun y=>d2 G fun x=>okK (if (aJ x&&decide (l.length < ac))=true then some (cE l x y) else none) fun l'=>K none (G.set k (.ownD l'))):=fun oa G K s hd I E=>ab hd fun l el hd=>by
 rw [exec_Assign_Subscript _ _ _ _ _ (aP hs)];refine zC1 (wpAny_standAt (zC1 (wpAny_mono (h1 oa G _ s hd I _) (fun v1 s₁ ⟨B1,k1,y,hy,r1⟩=>?_) fun U U z=>z)));have I1:=I.keep B1 k1;rw [assign_Subscript];obtain ⟨a,ha,pr,ow⟩:=qC (Φ:=⟨fx,oa,G⟩) I1 (jT el);refine zC1 (zC1 (wpAny_holding (ba (Φ:=⟨fx,oa,G⟩) I1.ok hx hn pr ?_ _)));refine zC1 (wpAny_holding (wpAny_mono (h2 oa G _ s₁ hy I1 _) (fun v2 w' ⟨B2,k2,x,hxx,r2⟩=>?_) fun U U z=>z));have I2:=I1.keep B2 k2;refine ab hxx fun l2 e2 kz=>?_;refine aK e2 fun hf e2=>?_;obtain rfl:=Option.some.inj e2;have hf:=zA2 hf;refine zC1 (wpAny_standAt (zC1 (wpAny_holding (iV (Φ:=⟨fx,oa,G⟩) I2 (.inr ⟨k,by rw [ha]; exact .head _⟩) (ow.map k2.mapK fun o e=>k2 _ o e) hf.1 r2 (r1.keep k2) (of_decide_eq_true hf.2) fun h' tk c DP=>bq (zC2 ?_)))));have q:=Inv.chg (Φ:=⟨fx,oa,G⟩) (sl:=.ownD (cE l x y)) (tk:=tk) I2 c ha (pr.keep k2) (fun al=>⟨a,rfl,rfl,DP⟩) id nofun nofun;exact .next (Φ:=⟨fx,oa,G⟩) q.1 ((Tr.of_keeps (k1.trans k2)).trans q.2) kz
def xe {qs:Gs->List (Expr×DV)} (hT:TgtOk fx.ρ fx.env m k) (HG:fx.g.newf f=true) (Dz:∀ G,(qs G).map Prod.fst=es) (hx:bK fx.env.scope.names n=true) (hf:fx.g.fns.lookup n=some f) (CW:keepIn fx.g.K (.ref (fx.g.fn f))=true)
  (hq:∀ oa G,∀ q∈qs G,aj q.1=true/\bi ⟨fx,oa,G⟩ q):ExB fx (exec (.Assign [.Name m py] (.Call (.Name n fp) es [] cpos) spos) fx.env) (fun G K=>bn ((qs G).map Prod.snd) fun xs=>(ak fx.g.P fx.d).p f xs fun y=>eU y=true/\okK (bz y some) fun l=>K none (G.set k (.ownL l))):=fun oa G K s hd I E=>by
 rw [exec_Assign_Name _ _ _ _ _ (aP rfl),<- Dz G];refine (bSt (zC1 (rB (Φ:=⟨fx,oa,G⟩) hx hf CW (hq oa G) hd I fun v s' y I' k' hy r nv=>?_)));have nv:=nv HG;cases y with
 | list l=>
  have hk:K none (G.set k (.ownL l)):=hy.2;refine Rp.list_elim (C:=fun v=>jC s.heap v->wpAny _ _ (standAt _ >>= fun U=>bindName fx.env m v >>= fun U=>pure Flow.next) _ E s') r (fun a o vs n nb ha hc Cv hl nv=>?_) nv;have n0:s.heap.get? a=none:=by
   cases e:s.heap.get? a with
   | none=>rfl
   | some o=>exact absurd (nv a a rfl ⟨o,e⟩) (lt_irrefl _)
  refine (bSt (zC1 (wpAny_bindName (put_new (oak:=[[a]]) (sl:=.ownL l) hT I I'.base k' (fun b m=>by obtain rfl:=zA6 m; exact ⟨n0,_,ha⟩) nofun id (fun q=>q.elim) (fun h' kp=>?_) (fun CG DD Du=>zC2 (.next DD Du hk)) _))));have fl:l.all fJ=true:=hy.1;have na:¬ (Ct.mk fx oa G).own a:=fun q=>nb (.inr q);refine ⟨a,rfl,rfl,o,vs,n,kp _ _ ha na,hc,Cv,?_⟩;have mk:a7 (Ct.mk fx oa G).bad (Ct.mk fx oa G).bad s'.heap h':=fun b o e n=>⟨n,kp b o e fun q=>n (.inr q)⟩;exact (hl.map mk).ind (D:=fun vs l=>l.all fJ=true->RpAll fx.g ((Ct.mk fx oa G).put k [[a]] (.ownL l)).bad h' vs l) (fun U=>.nil) (fun v vs x l r U ih e=>have e:=zA2 e; .cons (kX (fun b o' q hb C4=>by
   rcases q with q | q
   ·exact .inl q
   ·refine (put_own q).elim (fun q=>?_) .inr;obtain rfl:=zA6 q;obtain rfl:=Option.some.inj ((kp _ _ ha na).symm.trans hb);exact absurd C4 (jA hc.1 (by decide))) 4 e.1 r) (ih e.2)) fl
 | _=>exact nB hy.1
def uz {ea eb:Expr} {d1 d2:Gs->DV} (hT:TgtOk fx.ρ fx.env n k) (h1:∀ X oa G,Ev ⟨fx.mo X,oa,G⟩ (eval ea fx.env) (d1 G)) (h2:∀ X oa G,Ev ⟨fx.mo X,oa,G⟩ (eval eb fx.env) (d2 G)) :
  ExB fx (exec (.Assign [.Name n py] (.Dict [some ea] [eb] pos) spos) fx.env) (fun G K=>d1 G fun y=>d2 G fun v=>okK (if aJ y=true then some (y,v) else none) fun p=>K none (G.set k (.ownD [p]))):=fun oa G K s hd I E=>by
 rw [exec_Assign_Name _ _ _ _ _ (aP rfl),arm_eval_Dict];have sh:(evalEachOpt [some ea] fx.env).zip ((evalEach [eb] fx.env).map fun v=>do let x <- v; standAt pos; pure x)=[(eval ea fx.env,do let x <- eval eb fx.env; standAt pos; pure x)].map fun p=>(some p.1,p.2):=rfl;rw [sh,dictDisplay_pairs _ (by simp) (by simp)];refine bSt (zC1 (zC1 (wpAny_standAt (zC1 ?_))));unfold subDict;refine zC1 (wpAny_alloc (zC1 (wpAny_holding ?_)));rw [if_pos (by simp)];have hD:s.heap.get? s.heap.objs.size=none:=ag _;have gr:=Grown.push s { cls:=.type "dict",data:=.dict #[] } s.toks;have I0:Inv ((Ct.mk fx oa G).mo (·=s.heap.objs.size)) { s with heap:=s.heap.push { cls:=.type "dict",data:=.dict #[] } }:=I.more (I.base.grown gr) gr.keeps (fun b q=>q▸hD) fun b q=>q▸⟨_,J0 _ rfl⟩;have D0:(s.heap.push { cls:=.type "dict",data:=.dict #[] }).get? s.heap.objs.size=some { cls:=.type "dict",data:=.dict #[] }:=J0 _ rfl;generalize hDD:s.heap.objs.size=D at hD I0 D0 ⊢;refine zC1 (evalPairs_cons (wpAny_mono (h1 (·=D) oa G _ _ hd I0 E) (fun v1 s₁ ⟨B1,k1,y,hy,r1⟩=>?_) fun U U z=>z));have I1:=I0.keep B1 k1;refine zC1 (wpAny_mono (h2 (·=D) oa G _ _ hy I1 E) (fun v2 w' ⟨B2,k2,v,hv,r2⟩=>?_) fun U U z=>z);have I2:=I1.keep B2 k2;refine bSt (zC2 (evalPairs_nil ?_));refine ab hv fun p ep kp=>?_;refine if_elim (C:=fun p=>K none (G.set k (.ownD [p]))->_) ep (fun hk kp=>?_) kp;obtain ⟨c,rfl⟩:=cx r1 hk;have D2:=k2 _ _ (k1 _ _ D0);have DK:ml fx.g w'.heap D []:=⟨_,#[],0,D2,⟨rfl,rfl,rfl⟩,rfl,rfl,fun U m=>nM m,nodup_nil⟩;refine wpAny_holding ?_;rw [forIn_cons];refine zC1 (zC1 (zC1 (@wpAny_dictSet_heap _ _ V cC (cy fx.g.prog fx.g.w) _ _ _ _ _ _ _ _ _ (Nat.lt_of_succ_lt (Inv.room3 I)) (KIs.of hk (r1.keep k2)) DK (fun h' G7 sb=>?_) (by decide))));refine zC2 (?_:wpAny _ _ (forIn ([]:List (Value×Value)) PUnit.unit _) _ _ _);rw [List.forIn_nil];refine zC2 (zC2 (zC2 (zC2 ?_)));have mk:a7 ((Ct.mk fx oa G).mo (·=D)).bad ((Ct.mk fx oa G).mo (·=D)).bad w'.heap h':=fun b o e n=>⟨n,sb.extBut b o (fun z=>n (.inl (.inr z))) e⟩;have En:Ent fx.g ((Ct.mk fx oa G).mo (·=D)).bad h' (stK [] y c v2) (cE [] y v):=by
  have z:Ent fx.g ((Ct.mk fx oa G).mo (·=D)).bad h' [] []:=.nil;exact z.put hk ((r1.keep k2).map mk) (r2.map mk)
 have ow:=DAt.of G7 En;have kk:ah s.heap h':=fun b o e=>sb.extBut b o (fun q=>af hD (q▸e)) (k2 _ _ (k1 _ _ (gr.keeps b o e)));have Dl:aI h' D:=ow.casesOn fun o U U ho U U U U U=>⟨o,ho⟩;refine (bSt (zC1 (wpAny_bindName (put_new (s:={ w' with heap:=h',toks:=w'.toks+sW y }) (oak:=[[D]]) (sl:=.ownD [(y,v)]) hT I ⟨fun b o e=>sb.extBut b o (fun q=>af (aH (fun l=>I.base.stays.live l) hD) (q▸e)) (B2.stays b o e),B2.os,B2.gens⟩ kk (fun b m=>by obtain rfl:=zA6 m; exact ⟨hD,Dl⟩) nofun id (fun q=>q.elim) (fun Eo kp'=>?_) (fun s' I' t'=>zC2 (.next I' t' kp)) _))));have nb:¬ (Ct.mk fx oa G).own D:=fun q=>(I.new D q).1.elim fun o e=>af hD e;exact ⟨D,rfl,rfl,ow.map (fun b o e n=>⟨fun q=>q.elim (fun q=>n (.inl (.inl q))) fun q=>(put_own q).elim (fun q=>n (.inl (.inr (zA6 q)))) fun q=>n (.inr q),kp' b o e fun q=>n (.inr q)⟩) fun o e=>kp' _ o e nb⟩
end
section
variable {g:Gl} {bad:Addr->Prop} {h:Heap} {o:Obj} {ws:List Value} {j:Nat} {x:Str} {v:Value}
def tY (f:b6 g c o ws) (nd:(g.flds c).Nodup) (hx:(g.flds c)[j]?=some x) (hv:ws[j]?=some v):lookIn x o=some (some v):=by
 obtain ⟨_,es,n,hd,hw,hk⟩:=f;subst hw;replace hv:=(Ja)▸(Jc)▸hv;obtain ⟨e,ee,rfl⟩:=map_eq_some_iff.mp hv;obtain ⟨y,t,hy,ek⟩:=hk j e ee;replace hy:=hx▸hy; (injection hy with hy; subst hy);unfold lookIn;rw [hd];dsimp only;cases hf:es.toList.find? (·.key.isStr x) with
 | none=>
  have:=find?_eq_none.mp hf e (J8 (Ja▸ee));rw [ek] at this;exact absurd (by simp [Value.isStr]) this
 | some e'=>
  have hm:=List.mem_of_find?_eq_some hf;have hs:=List.find?_some hf;obtain ⟨i,hi⟩:=getElem?_of_mem hm;replace hi:=(Ja)▸hi;obtain ⟨z,t',hz,Gv⟩:=hk i e' hi;replace hs:=Gv▸hs;have hzx:z=x:=by simpa [Value.isStr] using hs
  subst hzx;have:=(getElem?_inj (List.getElem?_eq_some_iff.mp hx).1 nd).mp (hx.trans hz.symm);subst this;replace hi:=ee▸hi; (injection hi with hi; subst hi); rfl
def look_none (f:b6 g c o ws) (hx:x∉g.flds c):lookIn x o=some none:=by
 refine aQ fun Z4 FL=>?_;refine f.elim fun U Iu=>Iu.elim fun es Ir=>Ir.elim fun n Iq=>Iq.elim fun hd Ip=>Ip.elim fun hw hk=>?_;refine FL ?_;have key:∀ e∈es.toList,∃ y t,y∈g.flds c/\e.key=.str y t:=fun e m=>by
  refine (getElem?_of_mem m).elim fun i hi=>?_;rw [Ja] at hi;refine (hk i e hi).elim fun z Io=>Io.elim fun t' Im=>Im.elim fun hz Gv=>?_;exact ⟨z,t',J8 hz,Gv⟩
 unfold lookIn;rw [hd];dsimp only;have hf:es.toList.find? (·.key.isStr x)=none:=find?_eq_none.mpr fun e m q=>by
  refine (key e m).elim fun y Il=>Il.elim fun t Ik=>Ik.elim fun hy ek=>?_;rw [ek] at q;have:y=x:=by simpa [Value.isStr] using q
  exact hx (this▸hy)
 have hr:es.toList.any (·.refKey)=false:=any_eq_false.mpr fun e m q=>by
  refine (key e m).elim fun y Ij=>Ij.elim fun t E9=>E9.elim fun hy ek=>?_;unfold DictEntry.refKey at q;rw [ek] at q; (injection q; done)
 rw [hf,hr]; rfl
def j6 {y:V} (r:Rp g bad h v y):handedIn v=true:=by cases r <;> rfl
end
section
variable {Φ:Ct} {s:Shared} {v u:Value} {x y z:V} {d:DV}
def tL {o:Obj} {nm:Str} (hc:ClsOk Φ.fx.g c):∃ cd,clsIn Φ.fx.g.K (Φ.fx.g.C c)=some cd/\PySem.W.ownOf cd (some o) nm=lookIn nm o:=by
 refine (any_some hc.hdict).elim fun cd E8=>E8.elim fun hc hd=>?_;exact ⟨cd,hc,by unfold PySem.W.ownOf; rw [hd]; rfl⟩
def uu {o:Obj} {ws:List Value} {j:Nat} {nm:Str} (Cg:ClsOk Φ.fx.g c) (f:b6 Φ.fx.g c o ws) (hx:(Φ.fx.g.flds c)[j]?=some nm) (hv:ws[j]?=some v):findObj Φ.fx.g.K (Φ.fx.g.C c) (some o) nm=some (.value v):=by
 refine (tL (o:=o) (nm:=nm) Cg).elim fun cd Ii=>Ii.elim fun hc ho=>?_;unfold findObj;rw [hc,bind_some,Cg.flds nm (J8 hx),bind_some,bind_some,bind_some];refine (?_:(PySem.W.ownOf cd (some o) nm).bind _=_);rw [ho,tY f Cg.nodup hx hv]; rfl
def mX {E:Value->Shared->Prop} {Q:Value->Shared->Prop} {nm:Str} {j:Nat} {e:Expr} (Cg:ClsOk Φ.fx.g c) (I:Inv Φ s) (hb:s.heap.get? b=some (instObj (Φ.fx.g.C c) a)) (ho:s.heap.get? a=some od) (hf:b6 Φ.fx.g c od ws) (hx:(Φ.fx.g.flds c)[j]?=some nm) (hw:ws[j]?=some w) (hh:handedIn w=true)
  (h:∀ tk,Q w { s with toks:=tk }):wpAny (model Φ.fx.g.prog Φ.fx.g.w) Φ.fx.A (holding [.ref b] (getAttr (.ref b) nm true) >>= fun v=>letTemporaryGo e (.ref b) v >>= fun U=>pure v) Q E s:=
 zC1 (wpAny_holding (get_value I.frag ⟨hb,rfl,rfl,ho⟩ Cg.hga (uu Cg hf hx hw) hh (zC1 (wpAny_letTemporaryGo (zC2 (h _))))))
def xv {e:Expr} {nm:Str} {j c:Nat} {pos:Pos} (Cg:ClsOk Φ.fx.g c) (he:bt e=true) (hx:(Φ.fx.g.flds c)[j]?=some nm) (h:Ev Φ (eval e Φ.fx.env) d) :
  Ev Φ (eval (.Attribute e nm pos) Φ.fx.env) (fun K=>d fun x=>okK (opN (.attr c j) [x]) K):=fun K s hd I=>by
 rw [arm_eval_Attribute,aA he];refine h.bind hd I fun v x s₁ g' B7 EA r=>a8 ?_;refine ab EA fun z ez kz E=>?_;cases x with
 | dict kvs=>
  refine aK (ez:(if ikO kvs=some c then (kvs[j]?).map (·.2) else none)=some z) fun DG ez=>?_;obtain ⟨p,hp,rfl⟩:=map_eq_some_iff.mp ez;refine r.inst_elim (C:=fun v=>wpAny _ _ (holding [v] (getAttr v nm true) >>= fun r=>letTemporaryGo e v r >>= fun U=>pure r) _ E s₁) DG fun a dd o ws nb GG ha Cp hf hl=>?_;have hz:(kvs.map (·.2))[j]?=some p.2:=by rw [Jc,hp]; rfl
  obtain ⟨w,hw,rw'⟩:=hl.get hz;exact mX Cg g' ha Cp hf hx hw (j6 rw') fun tk=>⟨g'.base.grown (.toks _ _),.refl _,_,kz,rw'⟩
 | _=>(injection ez; done)
structure MetOk (g:Gl) (c:Nat) (nm:Str) (f:Nat):Prop where
 nf:nm∉g.flds c
 hf:findIn g.K (.ref (g.C c)) nm=some (some (.ref (g.fn f)))
 ht:typeIn g.K (.ref (g.fn f))=some (.type "function")
 hk:keepIn g.K (.ref (g.fn f))=true
def iY {e:Expr} {es:List Expr} {Cb pos:Pos} {E:Value->Shared->Prop} {Q:Value->Shared->Prop} {qs:List (Expr×DV)} {K:List V->Prop} (Cg:ClsOk Φ.fx.g c) (hm:MetOk Φ.fx.g c nm f) (Ca:(Cb.endLine==pos.line)=true) (Dz:qs.map Prod.fst=es) (Cj:es.length < 30) (hq:∀ q∈qs,aj q.1=true/\bi Φ q) (hd:bn (qs.map Prod.snd) K)
  (I:Inv Φ s) (hb:s.heap.get? b=some (instObj (Φ.fx.g.C c) a)) (ho:s.heap.get? a=some od) (hf:b6 Φ.fx.g c od ws)
  (h:∀ vs xs s₁,Inv Φ s₁->ah s.heap s₁.heap->K xs->Φ.rps s₁.heap vs xs->wpAny (model Φ.fx.g.prog Φ.fx.g.w) Φ.fx.A (call (.ref (Φ.fx.g.fn f)) (.ref b :: vs)) Q E s₁) :
  wpAny (model Φ.fx.g.prog Φ.fx.g.w) Φ.fx.A (methodCall e nm Cb pos Φ.fx.env (.ref b) (es.length+([]:List Keyword).length) (backTo pos (starEach es Φ.fx.env)) (backToKw pos (keywordEach [] Φ.fx.env))) Q E s:=by
 subst Dz;have ha:=du (pos:=pos) (l:=starEach (qs.map Prod.fst) Φ.fx.env) (bW fun q m=>(hq q m).1);have Ge:methodCallForm ((qs.map Prod.fst).length+([]:List Keyword).length) (backTo pos (starEach (qs.map Prod.fst) Φ.fx.env)) (backToKw pos (keywordEach [] Φ.fx.env))=true:=by
  refine zA3 ⟨zA3 ⟨?_,rfl⟩,decide_eq_true Cj⟩;rw [List.all_eq_not_any_not];simp only [Bool.not_not];rw [ha]; rfl
 unfold methodCall;rw [Ge];refine zC1 (wpAny_holding ?_);refine (?_:wpAny _ _ (getMethod (.ref b) nm _) _ _ s);refine method_fn (od:=some od) I.frag ⟨hb,rfl,rfl,ho⟩ Cg.hga Cg.hgk hm.hf hm.ht (by refine (?_:(lookIn nm od).map _=_); rw [look_none hf hm.nf]; rfl) ?_;have hp:methodCallPos true e Φ.fx.env Cb pos=pure pos:=by unfold methodCallPos; rw [Ca,Bool.or_true]; rfl
 refine zC1 ?_;rw [hp];exact zC2 (callWith_of (by rw [ha]; rfl) (keeps_K hm.hk) (bT hq hd I fun vs xs s₁ g' B7 hx rs=>⟨g'.frag,h vs xs s₁ g' B7 hx rs⟩))
def xo {e:Expr} {es:List Expr} {Cb pos:Pos} {qs:List (Expr×DV)} (Cg:ClsOk Φ.fx.g c) (hm:MetOk Φ.fx.g c nm f) (he:bt e=true) (Ca:(Cb.endLine==pos.line)=true) (Dz:qs.map Prod.fst=es) (Cj:es.length < 30) (hq:∀ q∈qs,aj q.1=true/\bi Φ q) (h:Ev Φ (eval e Φ.fx.env) d) :
  Ev Φ (eval (.Call (.Attribute e nm Cb) es [] pos) Φ.fx.env) (fun K=>d fun x=>lY c x=true/\bn (qs.map Prod.snd) fun xs=>(ak Φ.fx.g.P Φ.fx.d).p f (x :: xs) K):=fun K s hd I=>by
 rw [arm_eval_Call,aA he];refine h.bind hd I fun v x s₁ g' B7 hx r=>a8 fun E=>?_;cases x with
 | dict kvs=>
  have DG:ikO kvs=some c:=by have z:=hx.1; unfold lY at z; exact eq_of_beq z
  refine Rp.inst_elim (C:=fun v=>Φ.rp s₁.heap v (.dict kvs)->wpAny _ _ (methodCall e nm Cb pos Φ.fx.env v _ _ _) _ E s₁) r DG (fun a dd o ws nb GG ha Cp CQ hl r'=>?_) r;refine iY (K:=fun xs=>(ak Φ.fx.g.P Φ.fx.d).p f (.dict kvs :: xs) K) Cg hm Ca Dz Cj hq hx.2 g' ha Cp CQ fun vs xs w' Ce Ci hk rs=>?_;exact wpAny_mono (eY Ce hk (.cons (r'.keep Ci) rs)) (fun U U p=>p.1.lift Ci) fun U U z=>z
 | _=>exact nB hx.1
def uE {es:List Expr} {Cb pos np:Pos} {qs:List (Expr×DV)} (Cg:ClsOk Φ.fx.g c) (hm:MetOk Φ.fx.g c nm f) (hx:Φ.fx.ρ.lookup n=some k) (hn:aL n=true) (Ca:(Cb.endLine==pos.line)=true) (Dz:qs.map Prod.fst=es) (Cj:es.length < 30) (hq:∀ q∈qs,aj q.1=true/\bi Φ q) :
  Ev Φ (eval (.Call (.Attribute (.Name n np) nm Cb) es [] pos) Φ.fx.env) (fun K=>okK (dI Φ.G k c) fun U=>bn (qs.map Prod.snd) fun xs=>(ak Φ.fx.g.P Φ.fx.d).j f xs K):=fun K s hd I E=>ab hd fun o eo Cv=>by
 have q:=eQ eo;clear hd eo;obtain ⟨eo,ec⟩:=q;subst ec;rw [arm_eval_Call,aA rfl];obtain ⟨v,pr,so⟩:=I.slot k;rw [eo] at so;obtain ⟨a,F,u,_,rfl,b,od,ws,rfl,nb,hb,ho,hf,_,_⟩:=so;refine zC1 (ba I.ok hx hn pr (bSt ?_) E);refine iY (K:=fun xs=>(ak Φ.fx.g.P Φ.fx.d).j f xs K) Cg hm Ca Dz Cj hq Cv I hb ho hf fun vs xs w' Ce Ci hk rs=>?_;exact wpAny_mono (Ce.ok.call.j f xs K Φ.fx.A w' Φ.bad vs (.ref b) E hk Ce.cc rs) (by rintro _ _ ⟨B,k,y,hy,r,_⟩; exact ⟨B,Ci.trans k,y,hy,r⟩) fun U U z=>z
end
section
variable {fx:Fx}
def ou {Φ:Ct} {s:Shared} {E:Value->Shared->Prop} {b a:Addr} {o:Obj} {ws:List Value} {nm:Str} {v:Value} {Q:Unit->Shared->Prop} (I:Inv Φ s) (Cg:ClsOk Φ.fx.g c) (hb:s.heap.get? b=some (instObj (Φ.fx.g.C c) a)) (ha:s.heap.get? a=some o) (hf:b6 Φ.fx.g c o ws) (hx:(Φ.fx.g.flds c)[ws.length]?=some nm)
  (h:∀ h' tk o',SameBut a s.heap h'->h'.get? a=some o'->b6 Φ.fx.g c o' (ws++[v])->Q () { s with heap:=h',toks:=tk }):wpAny (model Φ.fx.g.prog Φ.fx.g.w) Φ.fx.A (setAttr (.ref b) nm v) Q E s:=by
 have ht:takerIn Φ.fx.g.K (Φ.fx.g.C c) nm=some none:=by unfold takerIn; rw [Cg.flds nm (J8 hx)]; rfl
 have IA:InstAt s.heap b (instObj (Φ.fx.g.C c) a) (Φ.fx.g.C c) (some o):=⟨hb,rfl,rfl,ha⟩;refine set_plain I.frag IA Cg.hsa ?_;refine osa_open (s:={ s with toks:=s.toks+1 }) (od:=some o) I.frag ⟨hb,rfl,rfl,ha⟩ Cg.over ht fun bb=>?_;obtain ⟨cd,GQ,Cv⟩:=any_some Cg.hdict;refine (bPu (zC1 (zC1 (wpAny_loadPart hb (zC1 (Looks.here (s:={ s with toks:=s.toks+1 }) (looks_clsIn I.frag GQ) ?_))))));refine Cv.symm▸?_;refine wpAny_pure (a:=some a) ((bPu (zC1 ?_)))
 skip
 refine zC1 (zC1 (wpAny_askSetting (zC2 (zC1 (wpAny_mkText (zC1 (wpAny_loadPart ha ?_)))))));obtain ⟨C6,es,n,hd,hw,hk⟩:=hf;have Cj:es.size=ws.length:=by rw [<- hw,zA4,zB3]
 have key:∀ e∈es.toList,∃ y t,e.key=.str y t/\y≠nm:=fun e m=>by
  refine (getElem?_of_mem m).elim fun i hi=>?_;replace hi:=(Ja)▸hi;refine (hk i e hi).elim fun z Ih=>Ih.elim fun t' Ig=>Ig.elim fun hz Gv=>?_;refine ⟨z,t',Gv,fun q=>?_⟩;subst q;have:=(getElem?_inj (List.getElem?_eq_some_iff.mp hz).1 Cg.nodup).mp (hz.trans hx.symm);have:=(Array.getElem?_eq_some_iff.mp hi).1;lia
 have na:es.toList.any (·.key.isStr nm)=false:=any_eq_false.mpr fun e m q=>by
  obtain ⟨y,t,ek,hy⟩:=key e m;rw [ek] at q;exact hy (by simpa [Value.isStr] using q)
 have nr:es.toList.any (·.refKey)=false:=any_eq_false.mpr fun e m q=>by
  obtain ⟨y,t,ek,hy⟩:=key e m;unfold DictEntry.refKey at q;rw [ek] at q; (injection q; done)
 rw [hd];dsimp only;rw [aRefKeyMayBeTheName_at,<- any_toList,<- any_toList,nr,Bool.and_false];refine wpAny_updatePart ha ?_;refine aQ fun Z19 Hr=>?_;obtain ⟨l⟩:=es;obtain ⟨oc,od,dat,sl⟩:=o;refine Hr ?_;subst hd;have pe:=putName_eq nm (keyHash Φ.fx.g.w.params nm) (.str nm (s.toks+1)) v oc od l n sl;rw [na,if_neg Bool.false_ne_true,show PySem.putIn (·.key.isStr nm) (fun e=>{ e with val:=v }) ⟨keyHash Φ.fx.g.w.params nm,.str nm (s.toks+1),v⟩ l=l++[⟨keyHash Φ.fx.g.w.params nm,.str nm (s.toks+1),v⟩] by unfold PySem.putIn; rw [List.findIdx?_eq_none_iff.mpr fun e m=>by simpa using any_eq_false.mp na e m]] at pe;have D':=get?_update_self (Obj.putName nm (keyHash Φ.fx.g.w.params nm) (.str nm (s.toks+1)) v) ha (by rw [pe]; rfl);rw [pe] at D';have Cm:=(List.getElem?_eq_some_iff.mp hx).1;have HO:=Cg.few;refine zC1 (wpAny_lookBehind D' (pastItsLine_dict (by rw [size_toArray,zB5,sizeLine_eq]; refine (?_:l.length+1<=_); have:l.length=ws.length:=Cj; exact zB1 (add_le_add (zB1 (zB2 this) (zB1 (le_of_lt Cm) HO)) (le_refl _)) (by decide))) ?_);refine zC2 (h _ _ _ (.update ..) D' ⟨⟨C6.1,C6.2.1,C6.2.2⟩,_,_,rfl,?_,fun j e ee=>?_⟩)
 ·rw [map_append,hw]; rfl
 ·have ee:(l++[(⟨keyHash Φ.fx.g.w.params nm,.str nm (s.toks+1),v⟩:DictEntry)])[j]?=some e:=by simpa using ee
  rcases lt_or_ge j l.length with q | q
  ·rw [getElem?_append_left q] at ee; exact hk j e (by simpa using ee)
  ·replace ee:=(getElem?_append_right q)▸ee;have:j - l.length=0:=by have:=(List.getElem?_eq_some_iff.mp ee).1; rw [List.length_singleton] at this; exact le_antisymm (Jd this) (zero_le _)
   replace ee:=this▸ee;(injection ee with ee; subst ee);have hl2:l.length=ws.length:=Cj;exact ⟨nm,_,by rw [show j=ws.length by grind]; exact hx,rfl⟩
theorem FldsAt.snoc (r:FldsAt g bad h ws fs F) (x:FldAt g bad h w f fa):FldsAt g bad h (ws++[w]) (fs++[f]) (F++[fa]):=by
 induction r with
 | nil=>exact .cons x .nil
 | cons y _ ih=>exact .cons y ih
theorem FldsAt.length (r:FldsAt g bad h ws fs F):ws.length=fs.length:=by
 induction r with
 | nil=>rfl
 | cons _ _ ih=>exact congrArg (· + 1) ih
def uV {Φ:Ct} {s s₁:Shared} {E:Value->Shared->Prop} {Q:Unit->Shared->Prop} {nm:Str} (Cg:ClsOk Φ.fx.g o.c) (I:Inv Φ s) (B:Base Φ.fx.g s₁) (B7:ah s.heap s₁.heap) (eo:getSlot Φ.G k=.ownI o) (Co:(Φ.fx.g.flds o.c)[o.fs.length]?=some nm) (pr:aw s.heap (Φ.fx.pl k) (some u))
  (nf:fa.Nodup) (Gf:∀ b∈fa,s.heap.get? b=none/\aI s₁.heap b)
  (fl:∀ B4 h',(∀ b o,s₁.heap.get? b=some o->¬ Φ.bad b->b∉fa->¬ B4 b/\h'.get? b=some o)->(∀ b∈fa,∀ o,s₁.heap.get? b=some o->h'.get? b=some o)->FldAt Φ.fx.g B4 h' w f fa)
  (h:∀ Φ' s',Φ'=Φ.put k ((Φ.oa k)++[fa]) (.ownI ⟨o.c,o.fs++[f]⟩)->Inv Φ' s'->Tr Φ s Φ' s'->Q () s'):wpAny (model Φ.fx.g.prog Φ.fx.g.w) Φ.fx.A (setAttr u nm w) Q E s₁:=by
 obtain ⟨v,Ff,so⟩:=I.slot k;rw [eo] at so;obtain ⟨a,F,u',ha,rfl,b,od,ws,rfl,nb,hb,ho,hf,hl,nd⟩:=so;obtain rfl:=Option.some.inj (hY Ff pr).symm;have I1:=I.keep B B7;have Cc:a∈(Φ.oa k).flatten:=by rw [ha]; exact .head _
 have own:Φ.own a:=.inr ⟨k,Cc⟩;refine ou I1 Cg (B7 _ _ hb) (B7 _ _ ho) hf (by rw [hl.length]; exact Co) fun h' tk o' sb CA E2=>?_;have naf:a∉fa:=fun m=>af (Gf a m).1 ho;have live:∀ b,aI s.heap b->aI h' b:=fun b ⟨o,e⟩=>(Classical.em (b=a)).elim (fun q=>q▸⟨_,CA⟩) fun n=>⟨o,sb.extBut b o n (B7 _ _ e)⟩;have fal:∀ b∈fa,aI h' b:=fun b m=>(Gf b m).2.elim fun o e=>⟨o,sb.extBut b o (fun q=>naf (q▸m)) e⟩;have Fq:(Φ.oa k++[fa]).flatten=(Φ.oa k).flatten++fa:=by rw [List.flatten_append,List.flatten_singleton]
 have Dv:∀ b,(Φ.put k (Φ.oa k++[fa]) (.ownI ⟨o.c,o.fs++[f]⟩)).own b->Φ.own b\/b∈fa:=fun b q=>(put_own q).elim (fun q=>by rw [Fq] at q; exact (mem_append.mp q).imp (fun q=>.inr ⟨k,q⟩) id) .inl;have mk:∀ b ob,s₁.heap.get? b=some ob->¬ Φ.bad b->b∉fa->¬ (Φ.put k (Φ.oa k++[fa]) (.ownI ⟨o.c,o.fs++[f]⟩)).bad b/\h'.get? b=some ob:=fun b o e n nf=>⟨fun q=>q.elim (fun q=>n (.inl q)) fun q=>(Dv b q).elim (fun q=>n (.inr q)) nf,sb.extBut b o (fun q=>n (.inr (q▸own))) e⟩;have Hl:a7 Φ.bad (Φ.put k (Φ.oa k++[fa]) (.ownI ⟨o.c,o.fs++[f]⟩)).bad s.heap h':=fun b o e n=>mk b o (B7 _ _ e) n fun m=>af (Gf b m).1 e;have q:=Inv.upd (Φ:=Φ) (k:=k) (oak:=Φ.oa k++[fa]) (sl:=.ownI ⟨o.c,o.fs++[f]⟩) (s':={ s₁ with heap:=h',toks:=tk }) I (B.os.trans I.base.os.symm) (B.gens.trans I.base.gens.symm) pr (fun b o n e=>sb.extBut b o (fun q=>n (q▸Cc)) (B7 _ _ e)) live (fun b m=>by
   rw [Fq] at m;exact (mem_append.mp m).imp id fun m=>⟨(Gf b m).1,fal b m⟩) (by
   refine ⟨a,F++[fa],.ref b,by rw [ha]; rfl,rfl,b,o',ws++[w],rfl,(Hl _ _ hb nb).1,(Hl _ _ hb nb).2,CA,E2,(hl.map Hl fun c m o e=>sb.extBut c o (fun z=>(nodup_cons.mp nd).1 (z▸m)) (B7 _ _ e)).snoc (fl _ _ mk fun c m o e=>sb.extBut c o (fun z=>naf (z▸m)) e),?_⟩;rw [List.flatten_append,List.flatten_singleton];refine (nodup_append (l₁:=a :: F.flatten)).mpr ⟨nd,nf,fun x hx y hy e=>?_⟩;have:Φ.own x:=.inr ⟨k,by rw [ha]; exact hx⟩;exact (I.new x this).1.elim fun o z=>af (Gf y hy).1 (e▸z))
  (fun U a' F' e=>by rw [ha] at e; obtain ⟨e1,_⟩:=zA5 e; exact ⟨F,by rw [ha,e1],by rw [eo]; trivial⟩) nofun nofun
 exact h _ _ rfl q.1 q.2
def oQ {n:Str} {k c j:Nat} {np ap spos:Pos} {nm:Str} {e:Expr} {d:Gs->DV} (Cg:ClsOk fx.g c) (hx:fx.ρ.lookup n=some k) (hn:aL n=true) (Co:(fx.g.flds c)[j]?=some nm) (hs:bR e=true) (h:∀ oa G,Ev ⟨fx,oa,G⟩ (eval e fx.env) (d G)) :
  ExB fx (exec (.Assign [.Attribute (.Name n np) nm ap] e spos) fx.env) (fun G K=>d G fun x=>okK (dI G k c) fun o=>o.fs.length=j/\K none (G.set k (.ownI ⟨o.c,o.fs++[.val x]⟩))):=fun oa G K s hd I E=>by
 refine plainObj_wpAny_Assign_Attribute (wpAny_mono (h oa G _ s hd I E) (fun v s₁ ⟨B,B7,x,EA,r⟩=>ab EA fun o eo hk=>?_) fun U U z=>z) (aP hs);have q:=eQ eo;clear eo EA;obtain ⟨eo,ec⟩:=q;subst ec;obtain ⟨u,pr⟩:∃ u,aw s.heap (fx.pl k) (some u):=by
  obtain ⟨v,pr,so⟩:=I.slot k;rw [eo] at so;obtain ⟨_,_,u,_,rfl,_⟩:=so;exact ⟨u,pr⟩
 refine ba (Φ:=⟨fx,oa,G⟩) I.ok hx hn (pr.keep B7) ?_ _;refine uV (Φ:=⟨fx,oa,G⟩) (fa:=[]) (f:=.val x) Cg I B B7 eo (hk.1▸Co) pr nodup_nil (fun b m=>nM m) (fun B4 h' m U=>.val (r.map fun b o e n=>m b o e n not_mem_nil)) fun Φ' s' e I' t'=>?_;subst e;exact .next (Φ:=⟨fx,oa,G⟩) I' t' hk.2
def mD {n:Str} {k c j:Nat} {np ap spos:Pos} {nm:Str} {e:Expr} {f:Fld} (Cg:ClsOk fx.g c) (hx:fx.ρ.lookup n=some k) (hn:aL n=true) (Co:(fx.g.flds c)[j]?=some nm) (hf:BF f=true) (heD:Aw f=true->∃ p,e=.Dict [] [] p) (heL:Aw f=false->∃ p,e=.List [] p) :
  ExB fx (exec (.Assign [.Attribute (.Name n np) nm ap] e spos) fx.env) (fun G K=>okK (dI G k c) fun o=>o.fs.length=j/\K none (G.set k (.ownI ⟨o.c,o.fs++[f]⟩))):=fun oa G K s hd I E=>ab hd fun o eo hk=>by
 have q:=eQ eo;clear eo hd;obtain ⟨eo,ec⟩:=q;subst ec;obtain ⟨u,pr⟩:∃ u,aw s.heap (fx.pl k) (some u):=by
  obtain ⟨v,pr,so⟩:=I.slot k;rw [eo] at so;obtain ⟨_,_,u,_,rfl,_⟩:=so;exact ⟨u,pr⟩
 have hD:s.heap.get? s.heap.objs.size=none:=ag _;have main:∀ ob:Obj,ob.isFreed=false->(∀ B4 h',h'.get? s.heap.objs.size=some ob->FldAt fx.g B4 h' (.ref s.heap.objs.size) f [s.heap.objs.size])->wpAny (model fx.g.prog fx.g.w) fx.A (eval (.Name n np) fx.env) (fun u w'=>wpAny (model fx.g.prog fx.g.w) fx.A (setAttr u nm (.ref s.heap.objs.size)) (fun U=>PostS ⟨fx,oa,G⟩ s K .next) E w') E { s with heap:=s.heap.push ob }:=fun ob hfr fl=>by
  have gr:=Grown.push s ob s.toks;have hp:(s.heap.push ob).get? s.heap.objs.size=some ob:=J0 _ hfr;refine ba (Φ:=⟨fx,oa,G⟩) (s:={ s with heap:=s.heap.push ob }) I.ok hx hn (pr.keep gr.keeps) ?_ _;refine uV (Φ:=⟨fx,oa,G⟩) (fa:=[s.heap.objs.size]) (f:=f) Cg I (I.base.grown gr) gr.keeps eo (hk.1▸Co) pr (List.pairwise_singleton _ _) (fun b m=>by obtain rfl:=zA6 m; exact ⟨hD,_,hp⟩) (fun B4 h' U m=>fl B4 h' (m _ (.head _) _ hp)) fun Φ' s' e I' t'=>?_;subst e;exact .next (Φ:=⟨fx,oa,G⟩) I' t' hk.2
 have dct:∀ p,(∀ B4 h',h'.get? s.heap.objs.size=some { cls:=.type "dict",data:=.dict #[] }->FldAt fx.g B4 h' (.ref s.heap.objs.size) f [s.heap.objs.size])->wpAny (model fx.g.prog fx.g.w) fx.A (exec (.Assign [.Attribute (.Name n np) nm ap] (.Dict [] [] p) spos) fx.env) (PostS ⟨fx,oa,G⟩ s K) E s:=fun p fl=>plainObj_wpAny_Assign_Attribute (wpAny_Dict_empty (main _ rfl fl)) (aP rfl);have dk:∀ {h':Heap} {B4:Addr->Prop},h'.get? s.heap.objs.size=some { cls:=.type "dict",data:=.dict #[] }->OwnDAt fx.g B4 h' s.heap.objs.size []:=fun e=>⟨_,#[],0,e,⟨rfl,rfl,rfl⟩,rfl,⟨rfl,nodup_nil,rfl⟩,.nil,.nil⟩;cases f with
 | val=>exact nB hf
 | L l=>
  cases l with
  | cons=>exact nB hf
  | nil=>
   obtain ⟨p,rfl⟩:=heL rfl;refine plainObj_wpAny_Assign_Attribute ?_ (aP rfl);rw [arm_eval_List];refine bSt (zC1 (zC2 ?_));exact wpAny_newObj_type (main _ rfl fun B4 h' e=>.L ⟨_,_,_,e,⟨rfl,rfl⟩,rfl,.nil⟩)
 | D l=>
  cases l with
  | cons=>exact nB hf
  | nil=>obtain ⟨p,rfl⟩:=heD rfl; exact dct p fun B4 h' e=>.D (dk e)
 | N l=>
  cases l with
  | cons=>exact nB hf
  | nil=>obtain ⟨p,rfl⟩:=heD rfl; exact dct p fun B4 h' e=>.N ⟨_,#[],0,e,⟨rfl,rfl,rfl⟩,rfl,⟨rfl,nodup_nil,rfl⟩,.nil,.nil⟩
end
section
variable {g:Gl} {bad B4:Addr->Prop} {h h':Heap}
theorem jb {F:List (List Addr)} {fa:List Addr} {new:List Addr}:∀ {F:List (List Addr)} {j:Nat},F[j]?=some fa->∀ x,x∈(F.set j (fa++new)).flatten ↔ x∈F.flatten\/x∈new
 | [],_,e,_=>nN e.symm
 | f :: F,0,e,x=>by
  obtain rfl:=Option.some.inj e;refine (?_:x∈(f++new)++F.flatten ↔ x∈f++F.flatten\/x∈new);rw [mem_append,mem_append,mem_append];exact ⟨fun z=>z.elim (fun z=>z.imp .inl id) fun z=>.inl (.inr z),fun z=>z.elim (fun z=>z.imp .inl id) fun z=>.inl (.inr z)⟩
 | f :: F,j+1,e,x=>by
  refine (?_:x∈f++(F.set j (fa++new)).flatten ↔ x∈f++F.flatten\/x∈new);rw [mem_append,mem_append,jb (F:=F) (j:=j) e];exact ⟨fun z=>z.elim (fun z=>.inl (.inl z)) fun z=>z.imp .inr id,fun z=>z.elim (fun z=>z.imp id .inl) fun z=>.inr (.inr z)⟩
theorem jV {fa new:List Addr} (nn:new.Nodup):∀ {F:List (List Addr)} {j:Nat},F[j]?=some fa->F.flatten.Nodup->(∀ x∈new,x∉F.flatten)->(F.set j (fa++new)).flatten.Nodup
 | [],_,e,_,_=>nN e.symm
 | f :: F,0,e,nd,ap=>by
  obtain rfl:=Option.some.inj e;have nd:=nodup_append.mp (nd:(f++F.flatten).Nodup);refine (?_:((f++new)++F.flatten).Nodup);refine nodup_append.mpr ⟨nodup_append.mpr ⟨nd.1,nn,fun a ha b hb e=>ap b hb (mem_append_left _ (e▸ha))⟩,nd.2.1,fun a ha b hb e=>?_⟩;exact (mem_append.mp ha).elim (fun ha=>nd.2.2 a ha b hb e) fun ha=>ap a ha (mem_append_right _ (e▸hb))
 | f :: F,j+1,e,nd,ap=>by
  have nd:=nodup_append.mp (nd:(f++F.flatten).Nodup);refine (?_:(f++(F.set j (fa++new)).flatten).Nodup);refine nodup_append.mpr ⟨nd.1,jV nn (F:=F) (j:=j) e nd.2.1 fun x m z=>ap x m (mem_append_right _ z),fun a ha b hb q=>?_⟩;exact ((jb (F:=F) (j:=j) (new:=new) e b).mp hb).elim (fun hb=>nd.2.2 a ha b hb q) fun hb=>ap b hb (mem_append_left _ (q▸ha))
theorem FldsAt.set (r:FldsAt g bad h ws fs F) (k:a7 bad B4 h h'):∀ {j:Nat} {w:Value} {fa Gu:List Addr} {f':Fld},ws[j]?=some w->F[j]?=some fa->F.flatten.Nodup->(∀ b,b∉fa->∀ o,h.get? b=some o->h'.get? b=some o)->FldAt g B4 h' w f' Gu->FldsAt g B4 h' ws (fs.set j f') (F.set j Gu):=by
 induction r with
 | nil=>exact fun e=>nN e.symm
 | @cons w₀ f₀ fa₀ ws fs F x rs ih=>
  intro j w fa Gu f' e1 e2 nd kp y;have nd:=nodup_append.mp (nd:(fa₀++F.flatten).Nodup);cases j with
  | zero=>
   obtain rfl:=Option.some.inj e1;obtain rfl:=Option.some.inj e2;exact .cons y (rs.map k fun b m o e=>kp b (fun z=>nd.2.2 b z b m rfl) o e)
  | succ j=>
   exact .cons (x.map k fun b m o e=>kp b (fun z=>nd.2.2 b m b (mem_flatten.mpr ⟨fa,J8 e2,z⟩) rfl) o e) (ih e1 e2 nd.2.1 kp y)
theorem FldAt.handed (r:FldAt g bad h w f fa):handedIn w=true:=by
 cases r with
 | val x=>exact j6 x
 | _=>rfl
end
def mQ {F:List (List Addr)} {j:Nat} {fa:List Addr} (e:F[j]?=some fa):F.set j fa=F:=by
 obtain ⟨h,rfl⟩:=List.getElem?_eq_some_iff.mp e;exact List.set_getElem_self h
def sq {F:List (List Addr)} (e:F[j]?=some fa):dF F (F.set j (fa++new)):=fun i fb e'=>by
 by_cases q:i=j
 ·subst q;obtain rfl:=Option.some.inj (e.symm.trans e');exact ⟨new,getElem?_set_self (List.getElem?_eq_some_iff.mp e).1⟩
 ·exact ⟨[],by rw [getElem?_set_ne (Ne.symm q),append_nil]; exact e'⟩
section
variable {Φ:Ct} {s s':Shared}
def fE {C:Prop} {j:Nat} (I:Inv Φ s) (eo:getSlot Φ.G k=.obj o) (ef:o.fs[j]?=some f)
  (h:∀ b a od ws w fa,aw s.heap (Φ.fx.pl k) (some (.ref b))->s.heap.get? b=some (instObj (Φ.fx.g.C o.c) a)->s.heap.get? a=some od->b6 Φ.fx.g o.c od ws->ws[j]?=some w->(Φ.oa k)[j]?=some fa->FldAt Φ.fx.g Φ.bad s.heap w f fa->(∀ x∈fa,Φ.own x) ->
   (∀ s' new f',s'.os=s.os->s'.gens=s.gens->(∀ b ob,b∉fa->s.heap.get? b=some ob->s'.heap.get? b=some ob)->(∀ b,aI s.heap b->aI s'.heap b)->new.Nodup->(∀ x∈new,s.heap.get? x=none/\aI s'.heap x)->(a7 Φ.bad (Φ.put k ((Φ.oa k).set j (fa++new)) (.obj (o.set j f'))).bad s.heap s'.heap->FldAt Φ.fx.g (Φ.put k ((Φ.oa k).set j (fa++new)) (.obj (o.set j f'))).bad s'.heap w f' (fa++new))->Inv (Φ.put k ((Φ.oa k).set j (fa++new)) (.obj (o.set j f'))) s'/\Tr Φ s (Φ.put k ((Φ.oa k).set j (fa++new)) (.obj (o.set j f'))) s')->C):C:=by
 obtain ⟨u,pr,b,a,od,ws,rfl,nb,na,hb,ho,hf,hl,nd⟩:=bY I eo;obtain ⟨w,fa,hw,hF,fl⟩:=hl.get ef;have EV:∀ x∈fa,x∈(Φ.oa k).flatten:=fun x m=>mem_flatten.mpr ⟨fa,J8 hF,m⟩;refine h b a od ws w fa pr hb ho hf hw hF fl (fun x m=>.inr ⟨k,EV x m⟩) fun s' new f' Eg HM kp lv nn hn Fq=>?_;have fm:=fun x=>jb (F:=Φ.oa k) (new:=new) hF x;have Hh:∀ x∈new,¬ Φ.own x:=fun x m q=>(I.new x q).1.elim fun o e=>af (hn x m).1 e;have mk:a7 Φ.bad (Φ.put k ((Φ.oa k).set j (fa++new)) (.obj (o.set j f'))).bad s.heap s'.heap:=fun c ob e n=>⟨fun q=>by
  rcases q with q | q
  ·exact n (.inl q)
  ·exact (put_own q).elim (fun q=>((fm c).mp q).elim (fun q=>n (.inr (.inr ⟨k,q⟩))) fun q=>af (hn c q).1 e) fun q=>n (.inr q),kp c ob (fun q=>n (.inr (.inr ⟨k,EV c q⟩))) e⟩
 refine Inv.upd (s':=s') I Eg HM pr (fun c ob n e=>kp c ob (fun q=>n (EV c q)) e) lv (fun c m=>((fm c).mp m).imp id (hn c)) ?_ (fun q=>q.elim) nofun fun o' e=>⟨o,eo,sq hF⟩;exact ⟨.ref b,rfl,b,a,od,ws,rfl,(mk _ _ hb nb).1,(mk _ _ ho na).1,(mk _ _ hb nb).2,(mk _ _ ho na).2,hf,hl.set mk hw hF nd (fun c n ob e=>kp c ob n e) (Fq mk),jV nn hF nd fun x m q=>Hh x m (.inr ⟨k,q⟩)⟩
def dS {E:Value->Shared->Prop} {Q:Value->Shared->Prop} {np ap:Pos} {nm:Str} {j:Nat} (Cg:ClsOk Φ.fx.g o.c) (hx:Φ.fx.ρ.lookup n=some k) (hn:aL n=true) (Co:(Φ.fx.g.flds o.c)[j]?=some nm) (I:Inv Φ s) (eo:getSlot Φ.G k=.obj o) (ef:o.fs[j]?=some f)
  (h:∀ w fa tk,(Φ.oa k)[j]?=some fa->FldAt Φ.fx.g Φ.bad s.heap w f fa->Inv Φ { s with toks:=tk }->Q w { s with toks:=tk }):wpAny (model Φ.fx.g.prog Φ.fx.g.w) Φ.fx.A (eval (.Attribute (.Name n np) nm ap) Φ.fx.env) Q E s:=by
 rw [arm_eval_Attribute,aA rfl];refine fE I eo ef fun b a od ws w fa pr hb ho hf hw hF fl U U=>?_;refine zC1 (ba I.ok hx hn pr (bSt ?_) E);exact mX Cg I hb ho hf Co hw fl.handed fun tk=>h w fa tk hF fl (I.keep (I.base.grown (.toks _ _)) (.refl _))
def iA (x:FldAt g bad h w (.L l) fa):∃ a,w=.ref a/\fa=[a]/\OwnLAt g bad h a l:=by cases x with | L x=>exact ⟨_,rfl,rfl,x⟩
def q6 (x:FldAt g bad h w (.D l) fa):∃ a,w=.ref a/\fa=[a]/\OwnDAt g bad h a l:=by cases x with | D x=>exact ⟨_,rfl,rfl,x⟩
def fW (x:FldAt g bad h w (.N l) fa):∃ a F,w=.ref a/\fa=a :: F/\NestAt g bad h a l F:=by cases x with | N x=>exact ⟨_,_,rfl,rfl,x⟩
def ld {C:Prop} {j:Nat} (I:Inv Φ s) (eo:getSlot Φ.G k=.obj o) (ef:o.fs[j]?=some f) (hF:(Φ.oa k)[j]?=some [a]) (c:Chg Φ s a h') (E2:FldAt Φ.fx.g Φ.bad h' (.ref a) f' [a]) (hw:∀ w fa,FldAt Φ.fx.g Φ.bad s.heap w f fa->fa=[a]->w=.ref a)
  (h:∀ Cc,Inv ⟨Φ.fx,Cc,Φ.G.set k (.obj (o.set j f'))⟩ { s with heap:=h',toks:=tk }->Tr Φ s ⟨Φ.fx,Cc,Φ.G.set k (.obj (o.set j f'))⟩ { s with heap:=h',toks:=tk }->C):C:=by
 refine fE I eo ef fun b a' od ws w fa pr hb ho hf hw' Gn fl own st=>?_;obtain rfl:=Option.some.inj (hF.symm.trans Gn);obtain rfl:=hw w _ fl rfl;have q:=st { s with heap:=h',toks:=tk } [] f' rfl rfl (fun b ob n e=>c.kp b ob (fun q=>n (by rw [q]; exact .head _)) e) c.live nodup_nil (fun x m=>nM m) (fun U=>by rw [append_nil,k8 (mQ hF).symm]; exact E2);exact h _ q.1 q.2
end
section
variable {fx:Fx}
def xg {d:Gs->DV} {nm:Str} {c j:Nat} (Cg:ClsOk fx.g c) (hx:fx.ρ.lookup n=some k) (hn:aL n=true) (Co:(fx.g.flds c)[j]?=some nm) (hp:aj e=true) (Ca:(Cb.endLine==pos.line)=true) (h:∀ oa G,Ev ⟨fx,oa,G⟩ (eval e fx.env) (d G)) :
  ExB fx (exec (.Expr (.Call (.Attribute (.Attribute (.Name n np) nm ap) "append" Cb) [e] [] pos) spos) fx.env) (fun G K=>okK (dC G k c) fun o=>okK (qZ o j) fun l=>d G fun x=>l.length < ac/\K none (G.set k (.obj (o.set j (.L (l++[x])))))):=fun oa G K s h0 I E=>ab h0 fun o ec h1=>ab h1 fun l el hd=>by
 have q:=b7 ec;clear h0 h1 ec;obtain ⟨eo,rfl⟩:=q;have ef:=j8 el;refine wpAny_Expr ?_ I.quiet rfl;refine wpAny_Call_method (T:="list") (id:="list.append") (aA rfl) ?_ Ca PySem.F.plainAttrs_list slot_list_append type_list_append (dS (Φ:=⟨fx,oa,G⟩) Cg hx hn Co I eo ef fun w fa tk hF fl It=>?_)
 ·rw [aq hp]; rfl
 obtain ⟨a,rfl,rfl,ow⟩:=iA fl;refine ⟨ow.casesOn fun o U U ho hc U U=>⟨o,ho,hc.1⟩,fun a q=>by cases q; exact ow.casesOn fun o U U ho hc U U=>⟨o,ho,hc.2⟩,?_⟩;refine callWith_builtin (by rw [aq hp]; rfl) ?_;refine bT (Φ:=⟨fx,oa,G⟩) (qs:=[(e,d G)]) (K:=fun xs=>okK (one xs some) fun x=>l.length < ac/\K none (G.set k (.obj (o.set j (.L (l++[x])))))) (fun q m=>by cases zA6 m; exact ⟨hp,h oa G⟩) hd It fun ws xs s₁ g' B7 hx rs=>ab hx fun x e hk=>?_;refine ci (Φ:=⟨fx,oa,G⟩) (C:=fun ws=>wpAny _ _ (call (.builtin "list.append") ([.ref a]++ws) []) _ _ s₁) e rs fun w y r e=>?_;cases e
 have own:(Ct.mk fx oa G).own a:=.inr ⟨k,mem_flatten.mpr ⟨_,J8 hF,.head _⟩⟩;refine jh (Φ:=⟨fx,oa,G⟩) own (ow.map B7.mapK fun o e=>B7 _ o e) r hk.1 fun h' c DP=>?_;exact ld (Φ:=⟨fx,oa,G⟩) (tk:=s₁.toks) (f':=.L (l++[x])) g' eo ef hF c (.L DP) (fun w fa fl e=>by obtain ⟨a',rfl,q,_⟩:=iA fl; rw [e] at q; rw [(zA5 q).1]) fun Cc I' t'=>.next (Φ:=⟨fx,oa,G⟩) I' ((Tr.of_keeps (s:=s) (s':=s₁) B7).trans t') hk.2
def xf {d1 d2:Gs->DV} {nm:Str} {c j:Nat} {ei ev:Expr} (Cg:ClsOk fx.g c) (hx:fx.ρ.lookup n=some k) (hn:aL n=true) (Co:(fx.g.flds c)[j]?=some nm) (hs:bR ev=true) (h1:∀ oa G,Ev ⟨fx,oa,G⟩ (eval ev fx.env) (d1 G)) (h2:∀ oa G,Ev ⟨fx,oa,G⟩ (eval ei fx.env) (d2 G)) :
  ExB fx (exec (.Assign [.Subscript (.Attribute (.Name n np) nm ap) ei sp] ev spos) fx.env) (fun G K=>okK (dC G k c) fun o=>okK (w5 o j) fun l=>d1 G fun y=>d2 G fun x=>okK (if (aJ x&&decide (l.length < ac))=true then some (cE l x y) else none) fun l'=>K none (G.set k (.obj (o.set j (.D l'))))):=fun oa G K s h0 I E=>ab h0 fun o ec Gr=>ab Gr fun l el hd=>by
 have q:=b7 ec;clear h0 Gr ec;obtain ⟨eo,rfl⟩:=q;have ef:=sx el;rw [exec_Assign_Subscript _ _ _ _ _ (aP hs)];refine zC1 (wpAny_standAt (zC1 (wpAny_mono (h1 oa G _ s hd I _) (fun v1 s₁ ⟨B1,k1,y,hy,r1⟩=>?_) fun U U z=>z)));have I1:=I.keep B1 k1;rw [assign_Subscript];refine zC1 (zC1 (wpAny_holding (dS (Φ:=⟨fx,oa,G⟩) Cg hx hn Co I1 eo ef fun w fa tk hF fl It=>?_)));obtain ⟨a,rfl,rfl,ow⟩:=q6 fl;refine zC1 (wpAny_holding (wpAny_mono (h2 oa G _ _ hy It _) (fun v2 w' ⟨B2,k2,x,hxx,r2⟩=>?_) fun U U z=>z));have k2:ah s₁.heap w'.heap:=k2;have I2:=It.keep B2 k2;refine ab hxx fun l2 e2 kz=>?_;refine aK e2 fun hf e2=>?_;obtain rfl:=Option.some.inj e2;have hf:=zA2 hf;have own:(Ct.mk fx oa G).own a:=.inr ⟨k,mem_flatten.mpr ⟨_,J8 hF,.head _⟩⟩;refine zC1 (wpAny_standAt (zC1 (wpAny_holding (iV (Φ:=⟨fx,oa,G⟩) I2 own (ow.map k2.mapK fun o e=>k2 _ o e) hf.1 r2 (r1.keep k2) (of_decide_eq_true hf.2) fun h' tk c DP=>bq (zC2 ?_)))));exact ld (Φ:=⟨fx,oa,G⟩) (tk:=tk) (f':=.D (cE l x y)) I2 eo ef hF c (.D DP) (fun w fa fl e=>by obtain ⟨a',rfl,q,_⟩:=q6 fl; rw [e] at q; rw [(zA5 q).1]) fun Cc I' t'=>.next (Φ:=⟨fx,oa,G⟩) I' ((Tr.of_keeps (s':=w') (k1.trans k2)).trans t') kz
end
section
variable {prog:Program} {w:World} {K:Type} [DecidableEq K] {knd:HeapKind prog w K} {A:Around} {E:Value->Shared->Prop} {s:Shared} {d a:Addr} {k:K} {xs:List (K×Addr×Value)}
def mm {Q:Value->Shared->Prop} {dflt:Value} (hu:knd.room A.in1) (C9:knd.is s.heap k a) (hd:(d==sysModules)=false) (hm:s.heap.DictOfH knd d xs) (hz:xs.length<=sizeLine)
  (h1:∀ (j:Nat) p,xs[j]?=some (k,p)->Q p.2 { s with toks:=s.toks+knd.draws k })
  (h2:(∀ (j:Nat) p,xs[j]?≠some (k,p))->∀ h',h'.DictOfH knd d (xs++[(k,a,dflt)])->SameBut d s.heap h'->Q dflt { s with heap:=h',toks:=s.toks+knd.draws k }):wpAny (model prog w) A (call (.builtin "dict.setdefault") [.ref d,.ref a,dflt]) Q E s:=by
 refine wpAny_call_entry PySem.F.slot_dict_setdefault hm.typeIs PySem.F.entry_dict_setdefault ?_ (PySem.F.args_dict_setdefault_3 _ _ _);unfold Builtin.«dict.setdefault»;refine zC1 ?_;unfold Builtin.Dict.keyAndDefault;refine zC1 (wpAny_notOrdered_dict hm.typeIs ?_);refine (?_:wpAny _ _ (pure (d,Value.ref a,some dflt)) _ _ s);refine zC2 ?_;refine bI (c:=(d==sysModules)=true) (by rw [hd]; exact Bool.false_ne_true) ?_;refine (?_:wpAny _ _ (dictSetDefault d (.ref a) dflt >>= _) _ _ s);obtain ⟨o,es,ep,ho,hc,Cp,he,F9,hn⟩:=hm;refine zC1 ?_;unfold dictSetDefault;refine wpAny_holding (zC1 (knd.pyHash hu C9 ?_));refine zC1 (wpAny_dictFind_heap (s:={ s with toks:=s.toks+knd.draws k }) hu C9 ho Cp he F9 hn (fun C'=>?_) fun j p hj=>?_)
 ·refine zC1 (wpAny_rule (zC1 (wpAny_updateDictKeys (hz:=by have e:=size_of_entries he; omega) (s:={ s with toks:=s.toks+knd.draws k }) ho Cp (zC2 (zC2 ⟨dflt,rfl,h2 C' _ ⟨_,_,ep+1,get?_update_self _ ho (Obj.isFreed_of_dict (Obj.data_mapDictKeys Cp _)),hc.mapDictKeys _,Obj.data_mapDictKeys Cp _,?_,?_,?_⟩ (SameBut.update ..)⟩)))))
  ·simp [he,entryOfKey]
  ·intro x hx;rcases mem_append.mp hx with hx | hx
   ·exact knd.keeps (F9 x hx) ho Cp (SameBut.update ..)
   ·obtain rfl:=zA6 hx;exact knd.keeps C9 ho Cp (SameBut.update ..)
  ·rw [map_append,nodup_append];refine ⟨hn,by simp,fun x hx y hy e=>?_⟩;obtain rfl:=zA6 hy;subst e;exact not_mem_keys_of_get C' hx
 ·refine zC1 (wpAny_dictEntries (s:={ s with toks:=s.toks+knd.draws k }) ho Cp ?_);rw [entry_at he j,hj];exact zC1 (wpAny_rule (zC2 (zC2 ⟨_,rfl,h1 j p hj⟩)))
end
inductive EntK (g:Gl) (bad:Addr->Prop) (h:Heap):List (V×Addr×Value)->List V->Prop
 | nil:EntK g bad h [] []
 | cons {x:V} {a:Addr} {v:Value} {xs:List (V×Addr×Value)} {ks:List V}:aJ x=true->Rp g bad h (.ref a) x->EntK g bad h xs ks->EntK g bad h ((x,a,v) :: xs) (x :: ks)
section
variable {g:Gl} {bad B4:Addr->Prop} {h h':Heap} {xs:List (V×Addr×Value)} {ks:List V}
theorem EntK.of:∀ {kvs:List (V×V)} {es:List DictEntry},dkV kvs=true->es.map (·.hash)=kvs.map (fun p=>oF g.w p.1)->RpAll g bad h (es.map (·.key)) (kvs.map (·.1))->∃ xs,es=xs.map (enK g)/\EntK g bad h xs (kvs.map (·.1))/\xs.map (·.2.2)=es.map (·.val):=by
 intro kvs;induction kvs with
 | nil=>
  intro es _ e _;obtain rfl:=map_eq_nil_iff.mp e;exact ⟨[],rfl,.nil,rfl⟩
 | cons p kvs ih=>
  intro es d e r1;obtain ⟨x,y⟩:=p;cases es with
  | nil=>exact nomatch e
  | cons en es=>
   obtain ⟨e1,e2⟩:=zA5 e;cases r1 with
   | cons k1 r1=>
    have d:=zA2 (d:(aJ x&&dkV kvs)=true);obtain ⟨xs,ex,E,ev⟩:=ih d.2 e2 r1;obtain ⟨a,ea⟩:=cx k1 d.1;obtain ⟨hs,ky,vl⟩:=en;obtain rfl:ky=.ref a:=ea;obtain rfl:hs=oF g.w x:=e1;exact ⟨(x,a,vl) :: xs,congrArg (_ :: ·) ex,.cons d.1 k1 E,congrArg (_ :: ·) ev⟩
theorem EntK.back (E:EntK g bad h xs ks):ks.all aJ=true/\xs.map (·.1)=ks/\(xs.map (enK g)).map (·.hash)=ks.map (oF g.w)/\RpAll g bad h ((xs.map (enK g)).map (·.key)) ks:=by
 induction E with
 | nil=>exact ⟨rfl,rfl,rfl,.nil⟩
 | cons q r1 _ ih=>exact ⟨zA3 ⟨q,ih.1⟩,congrArg (_ :: ·) ih.2.1,congrArg (_ :: ·) ih.2.2.1,.cons r1 ih.2.2.2⟩
theorem EntK.kis (E:EntK g bad h xs ks):∀ x∈xs,KIs h x.1 x.2.1:=by
 induction E with
 | nil=>exact fun U m=>nM m
 | cons q r1 _ ih=>exact zA1 ⟨.of q r1,ih⟩
theorem EntK.map (E:EntK g bad h xs ks) (k:a7 bad B4 h h'):EntK g B4 h' xs ks:=by
 induction E with
 | nil=>exact .nil
 | cons q r1 _ ih=>exact .cons q (r1.map k) ih
theorem EntK.app (E:EntK g bad h xs ks) (q:aJ x=true) (r1:Rp g bad h (.ref a) x):EntK g bad h (xs++[(x,a,v)]) (ks++[x]):=by
 induction E with
 | nil=>exact .cons q r1 .nil
 | cons q' s1 _ ih=>exact .cons q' s1 ih
theorem EntK.idx {y:V} (q:aJ y=true):∀ {kvs:List (V×V)} {xs:List (V×Addr×Value)},EntK g bad h xs (kvs.map (·.1))->(kvs.map (·.1)).Nodup->(∀ (j:Nat) p,xs[j]?=some (y,p)->idxD kvs y=some j)/\((∀ (j:Nat) p,xs[j]?≠some (y,p))->idxD kvs y=none)
 | [],xs,E,_=>by
  cases E
  exact ⟨fun j p e=>nN e.symm,fun U=>rfl⟩
 | (x,z) :: kvs,xs,E,nd=>by
  cases E with
  | @cons _ a v xs _ hk r1 E=>
   have nd:=nodup_cons.mp nd;have ih:=EntK.idx q E nd.2;unfold idxD;rw [findIdx?_cons];by_cases c:x=y
   ·rw [if_pos ((bg x y hk q).mpr c)];refine ⟨fun j p e=>?_,fun n=>absurd (by rw [c]; rfl) (n 0 (a,v))⟩;cases j with
    | zero=>rfl
    | succ j=>
     have m:y∈kvs.map (·.1):=by
      have:=J8 (show xs[j]?=some (y,p) from e);rw [<- E.back.2.1]; exact mem_map.mpr ⟨_,this,rfl⟩
     exact absurd (c▸m) nd.1
   ·rw [if_neg fun z=>c ((bg x y hk q).mp z)];refine ⟨fun j p e=>?_,fun n=>?_⟩
    ·cases j with
     | zero=>exact absurd (Prod.mk.inj (Option.some.inj e)).1 c
     | succ j=>exact map_eq_some_iff.mpr ⟨j,ih.1 j p e,rfl⟩
    ·rw [show kvs.findIdx? (fun p=>PyData.eqv p.1 y)=none from ih.2 fun j p e=>n (j+1) p e]; rfl
end
section
variable {g:Gl} {bad B4:Addr->Prop} {h h':Heap}
theorem NestAt.dk (r:NestAt g bad h a l F):∃ xs,ml g h a xs/\EntK g bad h xs (l.map (·.1))/\InAll g bad h (xs.map (·.2.2)) (l.map (·.2)) F/\(l.map (·.1)).Nodup/\xs.length=l.length:=by
 obtain ⟨o,es,n,ho,hc,hd,hk,r1,r2⟩:=r;obtain ⟨xs,e,E,ev⟩:=EntK.of hk.1 hk.2.2 r1;refine ⟨xs,⟨o,es,n,ho,hc,hd,e,E.kis,E.back.2.1▸hk.2.1⟩,E,by rw [ev]; exact r2,hk.2.1,?_⟩;have:=congrArg List.length E.back.2.1;rwa [zA4,zA4] at this
theorem NestAt.of (d:ml g h a xs) (E:EntK g bad h xs (l.map (·.1))) (r2:InAll g bad h (xs.map (·.2.2)) (l.map (·.2)) F):NestAt g bad h a l F:=by
 obtain ⟨o,es,n,ho,hc,hd,e,_,hn⟩:=d;obtain ⟨b1,b2,b3,b4⟩:=E.back;refine ⟨o,es,n,ho,hc,hd,⟨?_,b2▸hn,?_⟩,?_,?_⟩
 ·have:dkV l=(l.map (·.1)).all aJ:=by unfold dkV; rw [List.all_map]; rfl
  rw [this]; exact b1
 ·rw [e,b3,map_map]; rfl
 ·rw [e]; exact b4
 ·rw [e,map_map]; exact r2
theorem InAll.app (r:InAll g bad h vs l F) (x:c9 g bad h a y):InAll g bad h (vs++[.ref a]) (l++[y]) (F++[a]):=by
 induction r with
 | nil=>exact .cons x .nil
 | cons z _ ih=>exact .cons z ih
theorem InAll.length (r:InAll g bad h vs l F):F.length=l.length:=by
 induction r with
 | nil=>rfl
 | cons _ _ ih=>exact congrArg (· + 1) ih
end
def tA {G:Gs} {k:Nat} {sl:Slot} (hl:k < G.length) (e:getSlot G k=sl):G.set k sl=G:=by
 refine ext_getElem? fun m=>?_;by_cases q:m=k
 ·subst q;rw [getElem?_set_self hl,<- e];unfold getSlot;rw [getD_eq_getElem?_getD,J9 hl]; rfl
 ·rw [getElem?_set_ne (Ne.symm q)]
theorem Nodup.of_flatten {L:List (List Addr)} (h:L.flatten.Nodup) (m:l∈L):l.Nodup:=(List.pairwise_flatten.mp h).1 l m
section
variable {Φ:Ct} {s:Shared}
structure NewIn (fx:Fx) (ed:Expr) (e0:V) (ob:Obj):Prop where
 fr:ob.isFreed=false
 ev:∀ (s:Shared) (Q:Value->Shared->Prop) (E:Value->Shared->Prop),Q (.ref s.heap.objs.size) { s with heap:=s.heap.push ob }->wpAny (model fx.g.prog fx.g.w) fx.A (eval ed fx.env) Q E s
 at_:∀ (bad:Addr->Prop) (h:Heap) (a:Addr),h.get? a=some ob->c9 fx.g bad h a e0
 pl:aj ed=true
def tT {fx:Fx} {p:Pos}:NewIn fx (.Dict [] [] p) (.dict []) { cls:=.type "dict",data:=.dict #[] }:=⟨rfl,fun s Q E h=>wpAny_Dict_empty h,fun bad h a e=>⟨_,#[],0,e,⟨rfl,rfl,rfl⟩,rfl,⟨rfl,nodup_nil,rfl⟩,.nil,.nil⟩,rfl⟩
def tS {fx:Fx} {p:Pos}:NewIn fx (.List [] p) (.list []) { cls:=.type "list",data:=.seq ([]:List Value).toArray }:=⟨rfl,fun s Q E h=>by
 rw [arm_eval_List];exact bSt (zC1 (zC2 (wpAny_newObj_type h))),fun bad h a e=>⟨_,_,_,e,⟨rfl,rfl⟩,rfl,.nil⟩,rfl⟩
def gy {E:Value->Shared->Prop} {Q:Value->Shared->Prop} {np ap Cb pos:Pos} {nm:Str} {j:Nat} {d:DV} {ek ed:Expr} {e0:V} {ob:Obj} {K:Ob->Nat->Prop} (Cg:ClsOk Φ.fx.g o.c) (hx:Φ.fx.ρ.lookup n=some k) (hn:aL n=true) (Co:(Φ.fx.g.flds o.c)[j]?=some nm) (hp:aj ek=true) (Ca:(Cb.endLine==pos.line)=true) (N:NewIn Φ.fx ed e0 ob) (hk:Ev Φ (eval ek Φ.fx.env) d) (I:Inv Φ s) (eo:getSlot Φ.G k=.obj o) (ef:o.fs[j]?=some (.N l)) (hz:l.length<=ac)
  (hd:d fun y=>aJ y=true/\kh o j l y e0 K)
  (h:∀ o' i l' p b Cc fa s',K o' i->o'.c=o.c->o'.fs[j]?=some (.N l')->l'[i]?=some p->Inv ⟨Φ.fx,Cc,Φ.G.set k (.obj o')⟩ s'->Tr Φ s ⟨Φ.fx,Cc,Φ.G.set k (.obj o')⟩ s'->(Cc k)[j]?=some fa->fa[i+1]?=some b->Q (.ref b) s'):wpAny (model Φ.fx.g.prog Φ.fx.g.w) Φ.fx.A (eval (.Call (.Attribute (.Attribute (.Name n np) nm ap) "setdefault" Cb) [ek,ed] [] pos) Φ.fx.env) Q E s:=by
 have hs:starEach [ek,ed] Φ.fx.env=[(false,eval ek Φ.fx.env),(false,eval ed Φ.fx.env)]:=by rw [aq hp,aq N.pl]; rfl
 refine wpAny_Call_method (T:="dict") (id:="dict.setdefault") (aA rfl) (by rw [hs]; rfl) Ca PySem.F.plainAttrs_dict PySem.F.slot_dict_setdefault PySem.F.type_dict_setdefault (dS Cg hx hn Co I eo ef fun w fa tk hF fl It=>?_);obtain ⟨a,F,rfl,rfl,nx⟩:=fW fl;have own:∀ x∈a :: F,Φ.own x:=fun x m=>.inr ⟨k,mem_flatten.mpr ⟨_,J8 hF,m⟩⟩;refine ⟨nx.casesOn fun o U U ho hc U U U U=>⟨o,ho,hc.1⟩,fun b q=>by (injection q with q; subst q); exact nx.casesOn fun o U U ho hc U U U U=>⟨o,ho,hc.2.1⟩,?_⟩;rw [hs];refine callWith_builtin rfl (Calls.evalArgs_plain (Calls.spliced_cons (wpAny_mono (hk _ _ hd It E) (fun v1 s₁ ⟨B1,k1,y,hy,r1⟩=>?_) fun U U z=>z)));have k1:ah s.heap s₁.heap:=k1;have I1:=It.keep B1 k1;refine Calls.spliced_cons (N.ev s₁ _ _ (Calls.spliced_nil ?_));have hD:s₁.heap.get? s₁.heap.objs.size=none:=ag _;have gr:=Grown.push s₁ ob s₁.toks;have Fg:(s₁.heap.push ob).get? s₁.heap.objs.size=some ob:=J0 _ N.fr;generalize hDD:s₁.heap.objs.size=D at hD Fg ⊢;obtain ⟨c,rfl⟩:=cx r1 hy.1;have nx1:=nx.map k1.mapK fun b U o e=>k1 b o e;obtain ⟨xs,DK1,EK,IA,nd,lx⟩:=nx1.dk;have DK:ml Φ.fx.g (s₁.heap.push ob) a xs:=by
  obtain ⟨o,es,ep,ho,hc,Cp,he,F9,hn⟩:=DK1;exact ⟨o,es,ep,gr.keeps _ _ ho,hc,Cp,he,fun x m=>(F9 x m).keep fun b o vs n e U=>gr.keeps b o e,hn⟩
 refine @mm _ _ V cC (cy Φ.fx.g.prog Φ.fx.g.w) _ _ _ _ _ _ _ _ _ I.room3 (KIs.of hy.1 (r1.keep gr.keeps)) (beq_eq_false_iff_ne.mpr (I.nsys (own a (.head _)))) DK (bV (by rw [lx]; exact hz)) (fun i p e=>?_) fun C' h' G7 sb=>?_
 ·have hi:=(EK.idx hy.1 nd).1 i p e;have CR:=hy.2;unfold kh at CR;rw [hi] at CR;have hv:(xs.map (·.2.2))[i]?=some p.2:=by rw [Jc,e]; rfl
  have il:i < l.length:=by rw [<- lx]; exact (List.getElem?_eq_some_iff.mp e).1
  obtain ⟨b,hb,FR,_⟩:=IA.get (x:=(l[i].2)) (i:=i) (by rw [Jc,J9 il]; rfl);rw [hv] at FR;rw [Option.some.inj FR];have kk:ah s.heap ({ s₁ with heap:=s₁.heap.push ob,toks:=s₁.toks+sW y }:Shared).heap:=k1.trans gr.keeps;have eG:=tA (jE I ((bY I eo).elim fun U q=>fT q.1)) eo;exact h o i l _ b Φ.oa _ _ CR rfl ef (J9 il) (by rw [eG]; exact I.keep ((B1.grown gr).grown (.toks _ _)) kk) (by rw [eG]; exact .of_keeps kk) hF hb
 ·have hi:=(EK.idx hy.1 nd).2 C';have CR:=hy.2;unfold kh at CR;rw [hi] at CR;have nDa:D≠a:=fun q=>(I1.new a (own a (.head _))).1.elim fun o e=>af hD (q▸e);have Go:h'.get? D=some ob:=sb.extBut D ob nDa Fg;refine fE I1 eo ef fun b0 a0 od ws w fa pr hb ho hf hw' Gn Fq Dv st=>?_;obtain rfl:=Option.some.inj (hF.symm.trans Gn);obtain ⟨a1,F1,rfl,e1,_⟩:=fW Fq;obtain ⟨rfl,rfl⟩:=zA5 e1;have kp:∀ b o,b≠a->s₁.heap.get? b=some o->h'.get? b=some o:=fun b o n e=>sb.extBut b o n (gr.keeps b o e);have q:=st { s₁ with heap:=h',toks:=s₁.toks+sW y } [D] (.N (l++[(y,e0)])) rfl rfl (fun b o n e=>kp b o (fun z=>n (by rw [z]; exact .head _)) e) (fun b lv=>lv.elim fun o e=>(Classical.em (b=a)).elim (fun z=>by subst z; obtain ⟨o,_,_,e,_⟩:=G7; exact ⟨o,e⟩) fun z=>⟨o,kp b o z e⟩) (List.pairwise_singleton _ _) (fun x m=>by obtain rfl:=zA6 m; exact ⟨hD,_,Go⟩) fun mk=>by
   refine .N (NestAt.of G7 ?_ ?_)
   ·rw [map_append]; exact (EK.map mk).app hy.1 (r1.map mk)
   ·rw [map_append,map_append];refine (IA.map mk fun b m o e=>kp b o (fun z=>?_) e).app (N.at_ _ _ _ Go);have nodup:=bY I1 eo;obtain ⟨u,_,b,a2,od,ws,_,_,_,_,_,_,_,Hj⟩:=nodup;have:(a :: F).Nodup:=Nodup.of_flatten Hj (J8 hF);exact (nodup_cons.mp this).1 (z▸m)
  refine h _ l.length (l++[(y,e0)]) (y,e0) D _ (a :: F++[D]) _ CR rfl ?_ ?_ q.1 ((Tr.of_keeps (s:=s) (s':=s₁) k1).trans q.2) ?_ ?_
  ·exact getElem?_set_self (List.getElem?_eq_some_iff.mp ef).1
  ·exact List.getElem?_concat_length
  ·refine (?_:((Φ.put k ((Φ.oa k).set j (a :: F++[D])) .junk).oa k)[j]?=_);rw [put_self];exact getElem?_set_self (List.getElem?_eq_some_iff.mp hF).1
  ·have:F.length=l.length:=by have:=IA.length; rwa [zA4] at this
   rw [<- this];exact List.getElem?_concat_length
end
section
variable {fx:Fx}
def qx {s:Shared} {E:Value->Shared->Prop} {Q:Unit->Shared->Prop} {j:Nat} (hT:TgtOk fx.ρ fx.env n m) (I:Inv ⟨fx,oa,G⟩ s) (eo:getSlot G k=.obj o) (hF:(oa k)[j]?=some fa) (hb:fa[i+1]?=some b) (h:∀ Cc s',Inv ⟨fx,Cc,G.set m (.ali k j i)⟩ s'->Tr ⟨fx,oa,G⟩ s ⟨fx,Cc,G.set m (.ali k j i)⟩ s'->Q () s'):wpAny (model fx.g.prog fx.g.w) fx.A (storeName fx.env n (.ref b)) Q E s:=by
 refine dO (Φ:=⟨fx,oa,G⟩) I hT.lk hT.nf (fun h' tk ps=>?_) E;have Dg:m < G.length:=by obtain ⟨c,hc,_⟩:=ps.addr; exact jE (Φ:=⟨fx,oa,G⟩) I (qy hc)
 have q:=Inv.put (Φ:=⟨fx,oa,G⟩) (tk:=tk) (oak:=[]) (sl:=.ali k j i) I I.base (.refl _) ps ⟨rfl,.ref b,rfl,pS (Φ:=⟨fx,oa,G⟩) (sl:=.ali k j i) Dg (fun o' e=>Slot.noConfusion e) k j i _ fun o' U=>⟨fa,b,hF,hb,rfl⟩⟩ (fun U m=>nM m) id nofun fun q=>q.elim;exact h _ _ q.1 q.2
def xj {d:Gs->DV} {nm:Str} {c j:Nat} (hT:TgtOk fx.ρ fx.env v m) (Cg:ClsOk fx.g c) (hx:fx.ρ.lookup n=some k) (hn:aL n=true) (Co:(fx.g.flds c)[j]?=some nm) (hp:aj ek=true) (Ca:(Cb.endLine==pos.line)=true) (h:∀ oa G,Ev ⟨fx,oa,G⟩ (eval ek fx.env) (d G)) :
  ExB fx (exec (.Assign [.Name v py] (.Call (.Attribute (.Attribute (.Name n np) nm ap) "setdefault" Cb) [ek,.Dict [] [] dp] [] pos) spos) fx.env) (fun G K=>okK (dC G k c) fun o=>okK (fldN o j) fun l=>l.length<=ac/\d G fun y=>aJ y=true/\kh o j l y (.dict []) fun o' i=>K none ((G.set k (.obj o')).set m (.ali k j i))):=fun oa G K s h0 I E=>ab h0 fun o ec h1=>ab h1 fun l el hd=>by
 have q:=b7 ec;clear h0 h1 ec;obtain ⟨eo,rfl⟩:=q;rw [exec_Assign_Name _ _ _ _ _ (aP rfl)];refine bSt (zC1 (gy (Φ:=⟨fx,oa,G⟩) Cg hx hn Co hp Ca tT (h oa G) I eo (c6 el) hd.1 hd.2 fun o' i l' p b Cc fa s' hk hc G2 ep I' t' hF hb=>bSt (zC1 (wpAny_bindName (qx hT I' (aT (jE I ((bY I eo).elim fun U q=>fT q.1))) hF hb fun ES CG DD Du=>zC2 (.next (Φ:=⟨fx,oa,G⟩) DD (t'.trans Du) hk))))))
def xk {d:Gs->DV} {nm:Str} {c j:Nat} (hT:TgtOk fx.ρ fx.env v m) (Cg:ClsOk fx.g c) (hx:fx.ρ.lookup n=some k) (hn:aL n=true) (Co:(fx.g.flds c)[j]?=some nm) (hp:aj ek=true) (Ca:(Cb.endLine==pos.line)=true) (h:∀ oa G,Ev ⟨fx,oa,G⟩ (eval ek fx.env) (d G)) :
  ExB fx (exec (.Assign [.Name v py] (.Call (.Attribute (.Attribute (.Name n np) nm ap) "get" Cb) [ek,.Dict [] [] dp] [] pos) spos) fx.env) (fun G K=>okK (dC G k c) fun o=>okK (fldN o j) fun l=>l.length<=ac/\d G fun y=>aJ y=true/\match idxD l y with | some i=>K none (G.set m (.ali k j i)) | none=>K none (G.set m (.v (.dict [])))):=fun oa G K s h0 I E=>ab h0 fun o ec h1=>ab h1 fun l el hd=>by
 have q:=b7 ec;clear h0 h1 ec;obtain ⟨eo,rfl⟩:=q;have ef:=c6 el;rw [exec_Assign_Name _ _ _ _ _ (aP rfl)];have hs:starEach [ek,.Dict [] [] dp] fx.env=[(false,eval ek fx.env),(false,eval (.Dict [] [] dp) fx.env)]:=by rw [aq hp]; rfl
 refine bSt (zC1 ?_);refine wpAny_Call_method (T:="dict") (id:="dict.get") (aA rfl) (by rw [hs]; rfl) Ca PySem.F.plainAttrs_dict PySem.F.slot_dict_get PySem.F.type_dict_get (dS (Φ:=⟨fx,oa,G⟩) Cg hx hn Co I eo ef fun w fa tk hF fl It=>?_);obtain ⟨a,F,rfl,rfl,nx⟩:=fW fl;have own:(Ct.mk fx oa G).own a:=.inr ⟨k,mem_flatten.mpr ⟨_,J8 hF,.head _⟩⟩;refine ⟨nx.casesOn fun o U U ho hc U U U U=>⟨o,ho,hc.1⟩,fun b q=>by (injection q with q; subst q); exact nx.casesOn fun o U U ho hc U U U U=>⟨o,ho,hc.2.1⟩,?_⟩;rw [hs];refine @wpAny_dict_get2_heap _ _ V cC (cy fx.g.prog fx.g.w) _ _ _ _ _ _ _ _ (Inv.room3 I) (beq_eq_false_iff_ne.mpr (I.nsys own)) ?_;refine wpAny_mono (h oa G _ _ hd.2 It E) (fun v1 s₁ ⟨B1,k1,y,hy,r1⟩=>?_) fun U U z=>z;have k1:ah s.heap s₁.heap:=k1;have I1:=It.keep B1 k1;refine wpAny_Dict_empty ?_;have gr:=Grown.push s₁ { cls:=.type "dict",data:=.dict #[] } s₁.toks;have I2:Inv ⟨fx,oa,G⟩ { s₁ with heap:=s₁.heap.push { cls:=.type "dict",data:=.dict #[] },toks:=s₁.toks+sW y }:=I1.keep ((B1.grown gr).grown (.toks _ _)) gr.keeps;have t2:Tr ⟨fx,oa,G⟩ s ⟨fx,oa,G⟩ { s₁ with heap:=s₁.heap.push { cls:=.type "dict",data:=.dict #[] },toks:=s₁.toks+sW y }:=.of_keeps (k1.trans gr.keeps);obtain ⟨c,rfl⟩:=cx r1 hy.1;have nx2:=nx.map (k1.trans gr.keeps).mapK fun b U o e=>(k1.trans gr.keeps) b o e;obtain ⟨xs,DK,EK,IA,nd,lx⟩:=nx2.dk;refine ⟨c,y,xs,rfl,KIs.of hy.1 (r1.keep gr.keeps),DK,?_⟩;cases ea:@atKey V cC xs y with
 | none=>
  have C':∀ (i:Nat) p,xs[i]?≠some (y,p):=fun i p e=>by
   have m:=J8 e;unfold atKey at ea;have:=find?_eq_none.mp (Option.map_eq_none_iff.mp ea) _ m;exact this (@decide_eq_true _ (cC y y) rfl)
  have CR:=hy.2;rw [(EK.idx hy.1 nd).2 C'] at CR;refine bSt (zC1 (wpAny_bindName (dO (Φ:=⟨fx,oa,G⟩) I2 hT.lk hT.nf (fun h' tk ps=>zC2 ?_) _)));have q:=kY (Φ:=⟨fx,oa,G⟩) (x:=.dict []) (tk:=tk) I2 ps (.dict I1.fresh (fun e=>?_) (J0 _ rfl) ⟨rfl,rfl,rfl⟩ rfl ⟨rfl,nodup_nil,rfl⟩ rfl rfl .nil .nil)
  ·exact .next (Φ:=⟨fx,oa,G⟩) q.1 (t2.trans q.2) CR
  ·obtain ⟨o,z⟩:=(I1.ok.gr.sysm:aI _ _);have:=I1.base.stays _ _ z;rw [<- e,ag] at this; exact nN this.symm
 | some p=>
  obtain ⟨i,hi⟩:∃ i:Nat,xs[i]?=some (y,p):=by
   unfold atKey at ea;obtain ⟨q,hq,e⟩:=map_eq_some_iff.mp ea;obtain ⟨i,hi⟩:=getElem?_of_mem (List.mem_of_find?_eq_some hq);have z0:=List.find?_some hq;have z:q.1=y:=@of_decide_eq_true _ (cC q.1 y) z0;exact ⟨i,by rw [hi,<- z,<- e]⟩
  have CR:=hy.2;rw [(EK.idx hy.1 nd).1 i p hi] at CR;have il:i < l.length:=by rw [<- lx]; exact (List.getElem?_eq_some_iff.mp hi).1
  obtain ⟨b,hb,FR,_⟩:=IA.get (x:=(l[i].2)) (i:=i) (by rw [Jc,J9 il]; rfl);rw [Jc,hi] at FR;refine (?_:wpAny _ _ (standAt _ >>= fun U=>bindName fx.env v p.2 >>= fun U=>pure Flow.next) _ _ _);rw [show p.2=.ref b from Option.some.inj FR];exact bSt (zC1 (wpAny_bindName (qx hT I2 eo hF hb fun ES CG DD Du=>zC2 (.next (Φ:=⟨fx,oa,G⟩) DD (t2.trans Du) CR))))
end
section
variable {g:Gl} {bad B4:Addr->Prop} {h h':Heap}
theorem InAll.set (r:InAll g bad h vs l F) (k:a7 bad B4 h h'):∀ {i:Nat} {b:Addr} {y:V},F[i]?=some b->F.Nodup->(∀ c o,c≠b->h.get? c=some o->h'.get? c=some o)->c9 g B4 h' b y->InAll g B4 h' vs (l.set i y) F:=by
 induction r with
 | nil=>exact fun e=>nN e.symm
 | cons x rs ih=>
  intro i b y e nd kp z;have nd:=nodup_cons.mp nd;cases i with
  | zero=>
   obtain rfl:=Option.some.inj e;exact .cons z (rs.map k fun c m o e=>kp c o (fun q=>nd.1 (q▸m)) e)
  | succ i=>exact .cons (x.map k fun o e'=>kp _ o (fun q=>nd.1 (q▸J8 e)) e') (ih e nd.2 kp z)
def w1 {l:List (V×V)} (e:l[i]?=some p):(l.set i (p.1,y)).map (·.1)=l.map (·.1):=by
 rw [map_set];refine ext_getElem? fun m=>?_;by_cases q:m=i
 ·subst q;have hl:=(List.getElem?_eq_some_iff.mp e).1;rw [getElem?_set_self (by rw [zA4]; exact hl),Jc,e]; rfl
 ·rw [getElem?_set_ne (Ne.symm q)]
end
section
variable {Φ:Ct} {s:Shared}
def xL (e:lC G m=some z):∃ k j i o l p,getSlot G m=.ali k j i/\getSlot G k=.obj o/\o.fs[j]?=some (.N l)/\l[i]?=some p/\z=(k,j,i,o,l,p):=kD (C:=fun z=>∃ k j i o l p,getSlot G m=.ali k j i/\getSlot G k=.obj o/\o.fs[j]?=some (.N l)/\l[i]?=some p/\z=(k,j,i,o,l,p)) e fun k j i o l p e1 e2 e3 e4=>⟨k,j,i,o,l,p,e1,e2,e3,e4,rfl⟩
def pu {o:Option α} {K:α->Prop} (h:okK o K):∃ z,o=some z/\K z:=ab h fun z e k=>⟨z,e,k⟩
def ni {C:Prop} {j i:Nat} (I:Inv Φ s) (eo:getSlot Φ.G k=.obj o) (ef:o.fs[j]?=some (.N l)) (li:l[i]?=some p) (hF:(Φ.oa k)[j]?=some fa) (hb:fa[i+1]?=some b) (c:Chg Φ s b h') (E1:c9 Φ.fx.g Φ.bad h' b y)
  (h:∀ Cc,Inv ⟨Φ.fx,Cc,Φ.G.set k (.obj (o.set j (.N (l.set i (p.1,y)))))⟩ { s with heap:=h',toks:=tk }->Tr Φ s ⟨Φ.fx,Cc,Φ.G.set k (.obj (o.set j (.N (l.set i (p.1,y)))))⟩ { s with heap:=h',toks:=tk }->C):C:=by
 refine fE I eo ef fun b' a' od ws w Gu pr DI ho hf hw' Gn fl own st=>?_;obtain rfl:=Option.some.inj (hF.symm.trans Gn);obtain ⟨a,F,rfl,rfl,nx⟩:=fW fl;have hb:F[i]?=some b:=hb;have nd:(a :: F).Nodup:=by
  obtain ⟨u,_,b,a2,od,ws,_,_,_,_,_,_,_,Hj⟩:=bY I eo;exact Nodup.of_flatten Hj (J8 hF)
 have nd:=nodup_cons.mp nd;have mb:=J8 hb;have q:=st { s with heap:=h',toks:=tk } [] (.N (l.set i (p.1,y))) rfl rfl (fun b' ob n e=>c.kp b' ob (fun q=>n (by rw [q]; exact .tail _ mb)) e) c.live nodup_nil (fun x m=>nM m) (fun U=>by
  rw [append_nil,k8 (mQ hF).symm];have mk:=c.mapK (own b (.tail _ mb));obtain ⟨xs,⟨o,es,ep,ho,hc,Cp,he,F9,hn⟩,EK,IA,_,lx⟩:=nx.dk;refine .N (NestAt.of (xs:=xs) ⟨o,es,ep,c.kp _ _ (fun z=>nd.1 (z▸mb)) ho,hc,Cp,he,(EK.map mk).kis,hn⟩ ?_ ?_)
  ·rw [w1 li]; exact EK.map mk
  ·rw [map_set]; exact IA.set mk hb nd.2 c.kp E1)
 exact h _ q.1 q.2
end
section
variable {fx:Fx}
def sE {d1 d2:Gs->DV} {ei ev:Expr} (hx:fx.ρ.lookup n=some m) (hn:aL n=true) (hs:bR ev=true) (h1:∀ oa G,Ev ⟨fx,oa,G⟩ (eval ev fx.env) (d1 G)) (h2:∀ oa G,Ev ⟨fx,oa,G⟩ (eval ei fx.env) (d2 G)) :
  ExB fx (exec (.Assign [.Subscript (.Name n np) ei sp] ev spos) fx.env) (fun G K=>okK (lC G m) fun (k,j,i,o,l,p)=>d1 G fun y=>d2 G fun x=>okK (match p.2 with | .dict d=>if (aJ x&&decide (d.length < ac))=true then some (cE d x y) else none | _=>none) fun d=>K none (G.set k (.obj (o.set j (.N (l.set i (p.1,.dict d))))))):=fun oa G K s h0 I E=>ab h0 fun z ez hz=>by
 obtain ⟨k,j,i,o,l,p,e1,e2,e3,e4,rfl⟩:=xL ez;have hd:d1 G _:=hz;clear h0 ez;rw [exec_Assign_Subscript _ _ _ _ _ (aP hs)];refine zC1 (wpAny_standAt (zC1 (wpAny_mono (h1 oa G _ s hd I _) (fun v1 s₁ ⟨B1,k1,y,hy,r1⟩=>?_) fun U U z=>z)));have I1:=I.keep B1 k1;obtain ⟨a,b,F,pr,hF,hb,nx,E1⟩:=vC (Φ:=⟨fx,oa,G⟩) I1 e1 e2 e3 e4;rw [assign_Subscript];refine zC1 (zC1 (wpAny_holding (ba (Φ:=⟨fx,oa,G⟩) I1.ok hx hn pr ?_ _)));refine zC1 (wpAny_holding (wpAny_mono (h2 oa G _ _ hy I1 _) (fun v2 w' ⟨B2,k2,x,hxx,r2⟩=>?_) fun U U z=>z));have k2:ah s₁.heap w'.heap:=k2;have I2:=I1.keep B2 k2;refine ab hxx fun d2' G4 kz=>?_;obtain ⟨q,x0⟩:=p;cases x0 with
 | dict d=>
  refine aK G4 fun hf G4=>?_;obtain rfl:=Option.some.inj G4;have hf:=zA2 hf;have own:(Ct.mk fx oa G).own b:=.inr ⟨k,mem_flatten.mpr ⟨_,J8 hF,.tail _ (J8 hb)⟩⟩;have ow:OwnDAt fx.g (Ct.mk fx oa G).bad w'.heap b d:=c9.map (x:=.dict d) E1 k2.mapK fun o e=>k2 _ o e;refine zC1 (wpAny_standAt (zC1 (wpAny_holding (iV (Φ:=⟨fx,oa,G⟩) I2 own ow hf.1 r2 (r1.keep k2) (of_decide_eq_true hf.2) fun h' tk c DP=>bq (zC2 ?_)))));exact ni (Φ:=⟨fx,oa,G⟩) (tk:=tk) (y:=.dict (cE d x y)) I2 e2 e3 e4 hF hb c DP fun Cc I' t'=>.next (Φ:=⟨fx,oa,G⟩) I' ((Tr.of_keeps (s':=w') (k1.trans k2)).trans t') kz
 | _=>exact nN G4.symm
def oR {d1 d2:Gs->DV} {nm:Str} {c j:Nat} {ek e:Expr} (Cg:ClsOk fx.g c) (hx:fx.ρ.lookup n=some k) (hn:aL n=true) (Co:(fx.g.flds c)[j]?=some nm) (Fg:aj ek=true) (F3:aj e=true) (Ca:(Cb.endLine==pos.line)=true) (Dh:(Er.endLine==Eb.line)=true) (h1:∀ oa G,Ev ⟨fx,oa,G⟩ (eval ek fx.env) (d1 G)) (h2:∀ oa G,Ev ⟨fx,oa,G⟩ (eval e fx.env) (d2 G)) :
  ExB fx (exec (.Expr (.Call (.Attribute (.Call (.Attribute (.Attribute (.Name n np) nm ap) "setdefault" Cb) [ek,.List [] lp] [] pos) "append" Er) [e] [] Eb) spos) fx.env) (fun G K=>okK (dC G k c) fun o=>okK (fldN o j) fun l=>l.length<=ac/\d1 G fun y=>aJ y=true/\kh o j l y (.list []) fun o' i=>okK (fldN o' j) fun l'=>okK (l'[i]?) fun p=>okK (bz p.2 some) fun m=>d2 (G.set k (.obj o')) fun x=>m.length < ac/\K none (G.set k (.obj (o'.set j (.N (l'.set i (p.1,.list (m++[x])))))))):=fun oa G K s h0 I E=>ab h0 fun o ec Gr=>ab Gr fun l el hd=>by
 have q:=b7 ec;clear h0 Gr ec;obtain ⟨eo,rfl⟩:=q;have ef:=c6 el;have Dg:=jE I ((bY I eo).elim fun U q=>fT q.1);refine wpAny_Expr ?_ I.quiet rfl;refine wpAny_Call_method (T:="list") (id:="list.append") (aA rfl) ?_ Dh PySem.F.plainAttrs_list slot_list_append type_list_append (gy (Φ:=⟨fx,oa,G⟩) Cg hx hn Co Fg Ca tS (h1 oa G) I eo ef hd.1 hd.2 fun o' i l' p b Cc fa s' hk hc G2 ep I' t' hF hb=>?_)
 ·rw [aq F3]; rfl
 have EM:getSlot (G.set k (.obj o')) k=.obj o':=aT Dg;obtain ⟨l2,e2,hk⟩:=pu hk;obtain rfl:l'=l2:=by have:=c6 e2; rw [G2] at this; injection this with z; injection z
 obtain ⟨p2,e3,hk⟩:=pu hk;obtain rfl:=Option.some.inj (ep.symm.trans e3);obtain ⟨m,e4,hk⟩:=pu hk;have ow:OwnLAt fx.g (Ct.mk fx Cc (G.set k (.obj o'))).bad s'.heap b m:=by
  obtain ⟨u,_,b0,a2,od,ws,_,_,_,_,_,_,hl,_⟩:=bY I' EM;obtain ⟨w,fa2,_,hF2,fl⟩:=hl.get G2;obtain rfl:=Option.some.inj (hF.symm.trans hF2);obtain ⟨a,F,rfl,rfl,nx⟩:=fW fl;obtain ⟨xs,_,_,IA,_,_⟩:=nx.dk;obtain ⟨b2,hb2,_,E1⟩:=IA.get (x:=p.2) (i:=i) (by rw [Jc,ep]; rfl);obtain rfl:=Option.some.inj ((show F[i]?=some b from hb).symm.trans hb2);obtain ⟨q,x0⟩:=p;cases x0 with
  | list m'=>obtain rfl:=Option.some.inj e4; exact E1
  | _=>exact nN e4.symm
 refine ⟨ow.casesOn fun o U U ho hc U U=>⟨o,ho,hc.1⟩,fun a q=>by cases q; exact ow.casesOn fun o U U ho hc U U=>⟨o,ho,hc.2⟩,?_⟩;refine callWith_builtin (by rw [aq F3]; rfl) ?_;refine bT (Φ:=⟨fx,Cc,G.set k (.obj o')⟩) (qs:=[(e,d2 (G.set k (.obj o')))]) (K:=fun xs=>okK (one xs some) fun x=>m.length < ac/\K none (G.set k (.obj (o'.set j (.N (l'.set i (p.1,.list (m++[x])))))))) (fun q m=>by cases zA6 m; exact ⟨F3,h2 Cc _⟩) hk I' fun ws xs s₁ g' B7 hx rs=>ab hx fun x e hk=>?_;refine ci (Φ:=⟨fx,Cc,G.set k (.obj o')⟩) (C:=fun ws=>wpAny _ _ (call (.builtin "list.append") ([.ref b]++ws) []) _ _ s₁) e rs fun w y r e=>?_;cases e
 have own:(Ct.mk fx Cc (G.set k (.obj o'))).own b:=.inr ⟨k,mem_flatten.mpr ⟨_,J8 hF,J8 hb⟩⟩;refine jh (Φ:=⟨fx,Cc,G.set k (.obj o')⟩) own (ow.map B7.mapK fun o e=>B7 _ o e) r hk.1 fun h' c DP=>?_;refine ni (Φ:=⟨fx,Cc,G.set k (.obj o')⟩) (tk:=s₁.toks) (y:=.list (m++[x])) g' EM G2 ep hF hb c DP fun ES DD Du=>?_;have es:∀ x,(Ct.mk fx Cc (G.set k (.obj o'))).G.set k x=G.set k x:=fun x=>set_set _;rw [es] at DD Du;exact .next (Φ:=⟨fx,oa,G⟩) DD (t'.trans ((Tr.of_keeps (s:=s') (s':=s₁) B7).trans Du)) hk.2
end
section
variable {Φ:Ct} {s:Shared}
theorem dF.sub (x:dF F F') (m:a∈F.flatten):a∈F'.flatten:=by
 obtain ⟨fa,h1,h2⟩:=mem_flatten.mp m;obtain ⟨j,e⟩:=getElem?_of_mem h1;obtain ⟨r,e⟩:=x j fa e;exact mem_flatten.mpr ⟨_,J8 e,mem_append_left _ h2⟩
def m8 {K:V->Ob->Prop} {Q:Value->Shared->Prop} {E:Value->Shared->Prop} (I:Inv Φ s) (eo:getSlot Φ.G k=.obj o) (pr:aw s.heap (Φ.fx.pl k) (some u)) (ob:ObjAt Φ.fx.g Φ.bad s.heap (Φ.oa k) u o) (hk:(ak Φ.fx.g.P Φ.fx.d).o f o args K) (rs:Φ.rps s.heap vals args)
  (h:∀ v y o' Cc s',K y o'->Rp Φ.fx.g (Ct.mk Φ.fx Cc (Φ.G.set k (.obj o'))).bad s'.heap v y->Inv ⟨Φ.fx,Cc,Φ.G.set k (.obj o')⟩ s'->Tr Φ s ⟨Φ.fx,Cc,Φ.G.set k (.obj o')⟩ s'->Q v s'):wpAny (model Φ.fx.g.prog Φ.fx.g.w) Φ.fx.A (call (.ref (Φ.fx.g.fn f)) (u :: vals)) Q E s:=by
 have eb:kA (fun a=>Φ.bad a/\a∉(Φ.oa k).flatten) (Φ.oa k)=Φ.bad:=funext fun a=>propext ⟨fun q=>q.elim (·.1) fun q=>.inr (.inr ⟨k,q⟩),fun q=>(Classical.em (a∈(Φ.oa k).flatten)).elim .inr fun n=>.inl ⟨q,n⟩⟩;refine wpAny_mono (I.ok.call.o f o args K Φ.fx.A s (fun a=>Φ.bad a/\a∉(Φ.oa k).flatten) (Φ.oa k) vals u E hk (by rw [eb]; exact I.cc) (fun a m z=>z.2 m) (by rw [eb]; exact ob) (by rw [eb]; exact rs)) (fun v s' ⟨B,kp,y,o',F',ky,r,FE,gw,nw⟩=>?_) fun U U z=>z;have mk:a7 (kA (fun a=>Φ.bad a/\a∉(Φ.oa k).flatten) F') (Φ.put k F' (.obj o')).bad s'.heap s'.heap:=fun a o e n=>⟨fun q=>by
  have z:Φ.bad a->False:=fun z=>(Classical.em (a∈(Φ.oa k).flatten)).elim (fun m=>n (.inr (gw.sub m))) fun m=>n (.inl ⟨z,m⟩);exact q.elim (fun q=>z (.inl q)) fun q=>(put_own q).elim (fun q=>n (.inr q)) fun q=>z (.inr q),e⟩
 have q:=Inv.upd (s':=s') (oak:=F') (sl:=.obj o') I (B.os.trans I.base.os.symm) (B.gens.trans I.base.gens.symm) pr (fun b o n e=>kp b o e n) (fun b lv=>(Classical.em (b∈(Φ.oa k).flatten)).elim (fun m=>(nw b (gw.sub m)).1) fun m=>lv.elim fun o e=>⟨o,kp b o e m⟩) (fun a m=>(nw a m).2.imp id fun z=>⟨z,(nw a m).1⟩) ⟨u,rfl,FE.map mk fun U U U e=>e⟩ (fun q=>q.elim) nofun fun o'' e=>⟨o,eo,gw⟩;exact h v y o' _ s' ky (r.map mk) q.1 q.2
def uB {fx:Fx} {es:List Expr} {qs:Gs->List (Expr×DV)} {Cb pos np:Pos} (Cg:ClsOk fx.g c) (hm:MetOk fx.g c nm f) (hx:fx.ρ.lookup n=some k) (hn:aL n=true) (Ca:(Cb.endLine==pos.line)=true) (Dz:∀ G,(qs G).map Prod.fst=es) (Cj:es.length < 30) (hq:∀ oa G,∀ q∈qs G,aj q.1=true/\bi ⟨fx,oa,G⟩ q) :
  ExB fx (exec (.Expr (.Call (.Attribute (.Name n np) nm Cb) es [] pos) spos) fx.env) (fun G K=>okK (dC G k c) fun o=>bn ((qs G).map Prod.snd) fun xs=>(ak fx.g.P fx.d).o f o xs fun y o'=>isNone y=true/\K none (G.set k (.obj o'))):=fun oa G K s h0 I E=>ab h0 fun o ec hd=>by
 have q:=b7 ec;clear h0 ec;obtain ⟨eo,rfl⟩:=q;refine wpAny_Expr ?_ I.quiet rfl;rw [arm_eval_Call,aA rfl];obtain ⟨u,pr,ob⟩:=bY (Φ:=⟨fx,oa,G⟩) I eo;obtain ⟨b,a,od,ws,rfl,nb,na,hb,ho,hf,hl,nd⟩:=id ob;refine zC1 (ba (Φ:=⟨fx,oa,G⟩) I.ok hx hn pr (bSt ?_) _);refine iY (Φ:=⟨fx,oa,G⟩) (K:=fun xs=>(ak fx.g.P fx.d).o f o xs fun y o'=>isNone y=true/\K none (G.set k (.obj o'))) Cg hm Ca (Dz G) Cj (hq oa G) hd I hb ho hf fun vs xs w' Ce Ci hk rs=>?_;refine m8 (Φ:=⟨fx,oa,G⟩) Ce eo (pr.keep Ci) (ob.map Ci.mapK fun a U o e=>Ci a o e) hk rs fun v y o' Cc s' hy r I' t'=>?_;cases y with
 | none=>exact r.none_elim (.next (Φ:=⟨fx,oa,G⟩) I' ((Tr.of_keeps (s:=s) (s':=w') Ci).trans t') hy.2)
 | _=>(injection hy.1; done)
def wn {E:Value->Shared->Prop} {items:Array Value} {ws:List Value} {n:Nat} {tk:Tok} {Q:Value->Shared->Prop} (ho:s.heap.get? l=some o) (hc:o.cls=.type "list"/\o.dict=none) (hd:o.data=.seq items n) (hx:items.toList=x :: ws) (hsz:items.size<=sizeLine)
  (hQ:∀ h' o' n',h'.get? l=some o'->o'.cls=.type "list"/\o'.dict=none->o'.data=.seq ws.toArray n'->SameBut l s.heap h'->Q x { s with heap:=h' }):wpAny (model prog w) A (call (.builtin "list.pop") [.ref l,.int 0 tk]) Q E s:=by
 obtain ⟨its⟩:=items;obtain rfl:its=x :: ws:=hx;refine wpAny_call_entry F.slot_list_pop ⟨o,ho,hc.1⟩ F.entry_list_pop ?_ (F.args_list_pop_2 _ _);refine (?_:wpAny _ _ (Builtin.List.listItems (.ref l) >>= _) _ _ s);refine zC1 (listItems_at ho hd ?_);have ee:(Array.mk (x :: ws)).eraseIdxIfInBounds 0=ws.toArray:=by
  refine (?_:(x :: ws).toArray.eraseIdxIfInBounds 0=_);rw [List.eraseIdxIfInBounds_toArray]; rfl
 have h2:((seqIndex? 0 (Array.mk (x :: ws)).size).bind fun k=>(Array.mk (x :: ws))[k]?.map (k,·))=some (0,x):=by
  rw [show seqIndex? 0 (Array.mk (x :: ws)).size=some 0 from i9 (.inl ⟨Int.le_refl _,rfl⟩) (succ_pos _)]; rfl
 refine bI (by exact Bool.false_ne_true) ?_;refine h2.symm▸?_;refine (Obj.data_mapSeq hd (·.eraseIdxIfInBounds 0)).elim fun n' Cv=>?_;rw [ee] at Cv;exact zC1 (listUpdate_at ho hd (zC2 ⟨x,rfl,hQ _ _ n' (get?_update_self _ ho (Obj.isFreed_of_seq Cv)) ⟨(Obj.cls_mapSeq ..).trans hc.1,(gG ..).trans hc.2⟩ Cv (SameBut.update ..)⟩) hsz (by rw [ee]; exact Nat.le_succ_of_le (le_of_succ_le hsz)))
def uA {fx:Fx} {nm fm:Str} {j:Nat} {Cb pos np np2 ap Er Eb lp:Pos} {G6:Const} (Cg:ClsOk fx.g c) (hm:MetOk fx.g c nm f) (hx:fx.ρ.lookup n=some k) (hn:aL n=true) (EA:fx.ρ.lookup n'=some k) (Dr:aL n'=true) (Ca:(Cb.endLine==pos.line)=true) (Dh:(Er.endLine==Eb.line)=true) (Co:(fx.g.flds c)[j]?=some fm) (hc0:gb G6 (.int 0)=true) :
  ExB fx (exec (.Expr (.Call (.Attribute (.Name n np) nm Cb) [.Call (.Attribute (.Attribute (.Name n' np2) fm ap) "pop" Er) [.Constant G6 kd lp] [] Eb] [] pos) spos) fx.env) (fun G K=>okK (dC G k c) fun o=>okK (qZ o j) fun l=>l.length<=ac/\okK l.head? fun y=>(ak fx.g.P fx.d).o f (o.set j (.L l.tail)) [y] fun z o'=>isNone z=true/\K none (G.set k (.obj o'))):=fun oa G K s h0 I E=>ab h0 fun o ec h1=>ab h1 fun l el hd=>ab hd.2 fun y ey hk=>by
 have q:=b7 ec;clear h0 h1 ec;obtain ⟨eo,rfl⟩:=q;have ef:=j8 el;have hz:=hd.1;clear hd el;obtain ⟨l,rfl⟩:∃ m,l=y :: m:=by
  cases l with
  | nil=>exact nN ey.symm
  | cons z m=>obtain rfl:=Option.some.inj ey; exact ⟨m,rfl⟩
 have hk:(ak fx.g.P fx.d).o f (o.set j (.L l)) [y] fun z o'=>isNone z=true/\K none (G.set k (.obj o')):=hk;have Dg:=jE I ((bY I eo).elim fun U q=>fT q.1);refine wpAny_Expr ?_ I.quiet rfl;rw [arm_eval_Call,aA rfl];obtain ⟨u,pr,ob⟩:=bY (Φ:=⟨fx,oa,G⟩) I eo;obtain ⟨b,a,od,ws,rfl,nb,na,hb,ho,hf,hl,nd⟩:=id ob;refine zC1 (ba (Φ:=⟨fx,oa,G⟩) I.ok hx hn pr (bSt ?_) _);unfold methodCall;refine zC1 (wpAny_holding ?_);refine (?_:wpAny _ _ (getMethod (.ref b) nm _) _ _ s);refine method_fn (od:=some od) I.frag ⟨hb,rfl,rfl,ho⟩ Cg.hga Cg.hgk hm.hf hm.ht (by refine (?_:(lookIn nm od).map _=_); rw [look_none hf hm.nf]; rfl) ?_;have hp:methodCallPos true (.Name n np) fx.env Cb pos=pure pos:=by unfold methodCallPos; rw [Ca,Bool.or_true]; rfl
 refine zC1 ?_;refine (?_:wpAny _ _ (methodCallPos true (.Name n np) fx.env Cb pos) _ _ s);rw [hp];refine zC2 (callWith_of rfl (keeps_K hm.hk) ?_);refine Calls.evalArgs_plain (Calls.spliced_cons ?_);refine wpAny_Call_method (T:="list") (id:="list.pop") (aA rfl) rfl Dh PySem.F.plainAttrs_list F.slot_list_pop F.type_list_pop (dS (Φ:=⟨fx,oa,G⟩) Cg EA Dr Co I eo ef fun w fa tk hF fl It=>?_);obtain ⟨a1,rfl,rfl,ow⟩:=iA fl;obtain ⟨o1,vs,n1,Fi,E5,Gg,hl1⟩:=id ow;refine ⟨⟨o1,Fi,E5.1⟩,fun a q=>by cases q; exact ⟨o1,Fi,E5.2⟩,?_⟩;refine callWith_builtin rfl (Calls.evalArgs_plain (Calls.spliced_cons ?_));obtain rfl:=eq_of_beq (hc0:(G6==.int 0)=true);refine (?_:wpAny _ _ (constValue fx.env (.int 0)) _ _ _);refine wpAny_mkInt (Calls.spliced_nil ?_);obtain ⟨vs⟩:=vs;obtain ⟨v1,vs,rfl,r1,rs1⟩:∃ v1 G8,vs=v1 :: G8/\(Ct.mk fx oa G).rp s.heap v1 y/\(Ct.mk fx oa G).rps s.heap G8 l:=by
  cases (hl1:RpAll _ _ _ vs _) with
  | cons r1 rs1=>exact ⟨_,_,rfl,r1,rs1⟩
 have own:(Ct.mk fx oa G).own a1:=.inr ⟨k,mem_flatten.mpr ⟨_,J8 hF,.head _⟩⟩;have szl:(Array.mk (v1 :: vs)).size=(y :: l).length:=aR (.cons r1 rs1);refine wn Fi E5 Gg rfl (bV (by rw [szl]; exact hz)) fun h' o' n' CA C4 Cv sb=>?_;refine Calls.spliced_nil ?_;have cg:Chg ⟨fx,oa,G⟩ s a1 h':=⟨fun b o n e=>sb.extBut b o n e,_,CA⟩;have mk:=cg.mapK own;refine ld (Φ:=⟨fx,oa,G⟩) (tk:=tk+1) (f':=.L l) I eo ef hF cg (.L ⟨o',_,n',CA,C4,Cv,rs1.map mk⟩) (fun w fa fl e=>by obtain ⟨a',rfl,q,_⟩:=iA fl; rw [e] at q; rw [(zA5 q).1]) fun Cc I' t'=>?_;refine ⟨I'.frag,?_⟩;have EM:getSlot (G.set k (.obj (o.set j (.L l)))) k=.obj (o.set j (.L l)):=aT Dg;obtain ⟨u',Ff,FE⟩:=bY I' EM;obtain rfl:u'=.ref b:=Option.some.inj (hY Ff (by
  obtain ⟨_,_,_,p⟩:=(t'.sl k).objs _ EM (by rw [eo]; nofun);exact p _ pr))
 refine m8 I' EM Ff FE hk (.cons (r1.map (t'.mapK)) .nil) fun v y o' ES s' hy r DD Du=>?_;have es:∀ x,(Ct.mk fx Cc (G.set k (.obj (o.set j (.L l))))).G.set k x=G.set k x:=fun x=>set_set _;rw [es] at DD Du;cases y with
 | none=>exact r.none_elim (.next (Φ:=⟨fx,oa,G⟩) DD (t'.trans Du) hy.2)
 | _=>(injection hy.1; done)
def zX {fx:Fx} {es:List Expr} {qs:Gs->List (Expr×DV)} (hT:TgtOk fx.ρ fx.env m k) (Dz:∀ G,(qs G).map Prod.fst=es) (hx:bK fx.env.scope.names n=true) (hf:fx.g.fns.lookup n=some f) (CW:keepIn fx.g.K (.ref (fx.g.fn f))=true)
  (hq:∀ oa G,∀ q∈qs G,aj q.1=true/\bi ⟨fx,oa,G⟩ q):ExB fx (exec (.Assign [.Name m py] (.Call (.Name n fp) es [] cpos) spos) fx.env) (fun G K=>(G.all gL=true/\getSlot G k=.unset)/\bn ((qs G).map Prod.snd) fun xs=>(ak fx.g.P fx.d).m f xs fun o=>K none (G.set k (.obj o))):=fun oa G K s hd I E=>by
 rw [exec_Assign_Name _ _ _ _ _ (aP rfl),<- Dz G];refine bSt (zC1 ?_);refine (?_:wpAny _ _ (eval (.Name n fp) fx.env >>= fun F=>callWith cpos F [] (backTo cpos (starEach ((qs G).map Prod.fst) fx.env)) []) _ _ s);refine zC1 (ge (Φ:=⟨fx,oa,G⟩) I hx (I.ok.gr.fns n f hf) ?_ _);refine callWith_of (by rw [du (bW fun q m=>(hq oa G q m).1)]; rfl) (keeps_K CW) (bT (Φ:=⟨fx,oa,G⟩) (hq oa G) hd.2 I fun vs xs s₁ g' B7 hx rs=>⟨g'.frag,?_⟩);refine wpAny_mono (g'.ok.call.m f xs _ fx.A s₁ (Ct.mk fx oa G).bad vs _ hx g'.cc rs) (fun v s' ⟨B,k',o,F,hk,ob,nw⟩=>?_) fun U U z=>z;have na:∀ n,gL (getSlot G n)=true:=fun n=>by
  unfold getSlot;rw [getD_eq_getElem?_getD];cases e:G[n]? with
  | none=>rfl
  | some sl=>exact Jb.mp hd.1.1 sl (J8 e)
 refine (bSt (zC1 (wpAny_bindName (put_new (oak:=F) (sl:=.obj o) hT I B (B7.trans k') (fun b m=>⟨aH (fun l=>B7.live l) (nw b m).1,(nw b m).2⟩) nofun id (fun U=>⟨hd.1.2,na⟩) (fun h' kp=>?_) (fun CG DD Du=>zC2 (.next DD Du hk)) _))));have mk:a7 (kA (Ct.mk fx oa G).bad F) ((Ct.mk fx oa G).put k F (.obj o)).bad s'.heap h':=fun a ob e n=>⟨fun q=>q.elim (fun q=>n (.inl (.inl q))) fun q=>(put_own q).elim (fun q=>n (.inr q)) fun q=>n (.inl (.inr q)),kp a ob e fun q=>n (.inl (.inr q))⟩;exact ⟨v,rfl,ob.map mk fun a m ob e=>kp a ob e fun q=>(g'.new a q).1.elim fun o e=>af (nw a m).1 e⟩
def ux {fx:Fx} {d:Gs->DV} (hc:∀ oa G,EvT ⟨fx,oa,G⟩ (isTrue c fx.env (eval c fx.env)) (tst (d G))) (ha:ExB fx (execs a fx.env) X) :
  ExB fx (exec (.While c a [] pos) fx.env) (fun G K=>uP d X G K):=fun oa G K s ⟨P,⟨n,hn⟩,turn⟩ I E=>by
 refine wpAny_While (codeAny_whileLoop (fun n s'=>∃ Cc G',P n G'/\Inv ⟨fx,Cc,G'⟩ s'/\Tr ⟨fx,oa,G⟩ s ⟨fx,Cc,G'⟩ s') ?_ n ⟨oa,G,hn,I,.refl _ _⟩);rintro n s₁ ⟨oa₁,G₁,hP,g',t₁⟩;refine wpAny_mono (hc oa₁ G₁ (fun t=>if t=true then X G₁ fun fl G'=>(match fl with | none=>∃ m,m < n/\P m G' | some y=>K (some y) G') else K none G₁) s₁ (turn n G₁ hP) g' _) (fun t w' ⟨B,k,t',hk,e⟩=>?_) fun U U z=>z;subst e;have Ce:=g'.keep B k;have EP:Tr ⟨fx,oa,G⟩ s ⟨fx,oa₁,G₁⟩ w':=t₁.trans (.of_keeps k);cases t with
 | true=>
  refine wpAny_mono (ha oa₁ G₁ _ w' hk Ce _) (fun f Cw ⟨oa₃,G₃,fl,DC,t₃,hf,h3⟩=>?_) fun U U z=>z;cases fl with
  | none=>subst hf; exact h3.elim fun m z=>⟨m,z.1,oa₃,G₃,z.2,DC,EP.trans t₃⟩
  | some x=>obtain ⟨v,rfl,r⟩:=hf; exact PostS.lift (Φ:=⟨fx,oa,G⟩) (oa₁:=oa₁) (G₁:=G₁) ⟨oa₃,G₃,some x,DC,t₃,⟨v,rfl,r⟩,h3⟩ EP
 | false=>exact wpAny_execs_nil (.next (Φ:=⟨fx,oa,G⟩) Ce EP hk)
end
end Mine
end
noncomputable section
namespace Mine
open PySem PySem.SetTable
def yk {G:Prop} (h:∀ P:Prop,(G->P)->P):G:=h G id
def lE (xs:Array Nat):Prop:=∀ i j a b:Nat,i < j->xs[i]?=some a->xs[j]?=some b->a < b
def Aq (h:lo < hi):(lo+hi) / 2 < hi:=Nat.div_lt_of_lt_mul (by rw [two_mul]; exact Nat.add_lt_add_right h hi)
def Bx (h:lo<=hi):lo<=(lo+hi) / 2:=(Nat.le_div_iff_mul_le (by decide)).mpr (by rw [mul_two]; exact add_le_add_left h lo)
theorem jf (r:lE xs):∀ Cd lo hi,lo<=hi->hi<=xs.size->hi<=lo+Cd->(∀ i a:Nat,i < lo->xs[i]?=some a->a < j)->(∀ i a:Nat,hi<=i->xs[i]?=some a->j<=a) ->
  below.go xs j Cd lo hi<=xs.size/\(∀ i a:Nat,i < below.go xs j Cd lo hi->xs[i]?=some a->a < j)/\∀ i a:Nat,below.go xs j Cd lo hi<=i->xs[i]?=some a->j<=a
 | 0,lo,hi,h1,h2,h3,h4,h5=>⟨zB1 h1 h2,h4,fun i a q=>h5 i a (zB1 h3 q)⟩
 | Cd+1,lo,hi,h1,h2,h3,h4,h5=>by
  rw [show below.go xs j (Cd+1) lo hi=if lo < hi then (if xs.getD ((lo+hi) / 2) j < j then below.go xs j Cd ((lo+hi) / 2+1) hi else below.go xs j Cd lo ((lo+hi) / 2)) else lo from rfl];by_cases h:lo < hi
  ·rw [if_pos h];have hm:(lo+hi) / 2 < xs.size:=J6 (Aq h) h2;have e:xs[(lo+hi) / 2]?=some (xs.getD ((lo+hi) / 2) j):=by simp [hm]
   by_cases c:xs.getD ((lo+hi) / 2) j < j
   ·rw [if_pos c];refine jf r Cd _ hi (Aq h) h2 (zB1 h3 (zB1 (add_le_add_right (Bx h1) (Cd+1)) (zB2 (add_right_comm _ 1 Cd).symm))) (fun i a q ea=>?_) h5;by_cases q':i=(lo+hi) / 2
    ·subst q'; rw [e] at ea; (injection ea with ea; subst ea); exact c
    ·exact lt_trans (r _ _ _ _ (lt_of_le_of_ne (Jd q) q') ea e) c
   ·rw [if_neg c];refine jf r Cd lo _ (Bx h1) (le_of_lt hm) (Jd (J6 (Aq h) h3)) h4 fun i a q ea=>?_;by_cases q':i=(lo+hi) / 2
    ·subst q'; rw [e] at ea; (injection ea with ea; subst ea); exact le_of_not_lt c
    ·exact le_of_lt (J5 (le_of_not_lt c) (r _ _ _ _ (lt_of_le_of_ne q (Ne.symm q')) e ea))
  ·rw [if_neg h];exact ⟨zB1 h1 h2,h4,fun i a q=>h5 i a (by exact zB1 (not_lt.mp h) q)⟩
def dW (r:lE xs) (j:Nat):below xs j<=xs.size/\(∀ i a:Nat,i < below xs j->xs[i]?=some a->a < j)/\∀ i a:Nat,below xs j<=i->xs[i]?=some a->j<=a:=
 jf r _ _ _ (zero_le _) (le_refl _) (Nat.le_add_left _ _) (fun U U q=>absurd q (not_lt_zero _)) fun i a q e=>by rw [getElem?_eq_none q] at e; (injection e; done)
def jg (r:lE xs) (e:xs[i]?=some j):below xs j=i:=by
 obtain ⟨_,h1,h2⟩:=dW r j;rcases lt_trichotomy i (below xs j) with q | q | q
 ·exact absurd (h1 _ _ q e) (lt_irrefl _)
 ·exact q.symm
 ·have hb:below xs j < xs.size:=by
   have:i < xs.size:=by rcases lt_or_ge i xs.size with q | q; exact q; rw [getElem?_eq_none q] at e; (injection e; done)
   exact lt_trans q this
  have e':xs[below xs j]?=some xs[below xs j]:=by simp
  have a1:=h2 _ _ (le_refl _) e';have a2:=r _ _ _ _ q e' e;exact absurd a1 (not_le.mpr a2)
def mW {xs:Array Nat} (r:lE xs) {i k j:Nat} (e:xs[i]?=some j) (e':xs[k]?=some j):i=k:=(jg r e).symm.trans (jg r e')
def qU (r:lE xs):∃ e,e<=xs.size/\∀ i:Nat,xs[i]?≠some e:=by
 refine byContradiction fun c=>?_;have all:∀ e,e<=xs.size->∃ i:Nat,xs[i]?=some e:=fun e h=>byContradiction fun q=>c ⟨e,h,fun i z=>q ⟨i,z⟩⟩;have up:∀ e,e<=xs.size->∀ i:Nat,xs[i]?=some e->e<=i:=fun e=>by
  induction e with
  | zero=>exact fun U U U=>zero_le _
  | succ e ih=>
   intro h i z;obtain ⟨k,hk⟩:=all e (le_of_succ_le h);have:=ih (le_of_succ_le h) k hk;rcases lt_trichotomy i k with q | q | q
   ·exact absurd (r _ _ _ _ q z hk) (not_lt.mpr (le_succ e))
   ·subst q; rw [z] at hk; cases hk
   ·exact J5 this q
 obtain ⟨i,hi⟩:=all _ (le_refl _);have:=up _ (le_refl _) i hi;rw [getElem?_eq_none this] at hi; (injection hi; done)
def insertAt_list:(insertAt xs p x).toList=xs.toList.take p++x :: xs.toList.drop p:=by
 unfold insertAt;rw [toList_append,toList_push,toList_extract,toList_extract,append_assoc,List.extract_eq_take_drop,List.extract_eq_take_drop,drop_zero,sub_zero,List.take_of_length_le (i:=xs.size - p) (by rw [length_drop,zB3]; exact le_refl _)]; rfl
def eZ (h:p<=xs.size) (i:Nat):(insertAt xs p x)[i]?=if i < p then xs[i]? else if i=p then some x else xs[i - 1]?:=by
 have lp:(xs.toList.take p).length=p:=by rw [length_take,zB3]; exact min_eq_left h
 rw [<- Ja,insertAt_list];rcases lt_trichotomy i p with hi | rfl | hi
 ·rw [if_pos hi,getElem?_append_left (Nat.lt_of_lt_of_eq hi lp.symm),List.getElem?_take_of_lt hi,Ja]
 ·rw [if_neg (lt_irrefl _),if_pos rfl,getElem?_append_right (zB2 lp),lp,sub_self]; rfl
 ·rw [if_neg (lt_asymm hi),if_neg (ne_of_gt hi),getElem?_append_right (zB1 (zB2 lp) (le_of_lt hi)),lp];obtain ⟨k,rfl⟩:=Nat.exists_eq_add_of_lt hi;rw [add_assoc,Nat.add_sub_cancel_left,List.getElem?_cons_succ,List.getElem?_drop,Ja]; rfl
def cL (h:p<=xs.size):(insertAt xs p x).size=xs.size+1:=by
 rw [<- zB3,insertAt_list,zB5,length_take,zB3,min_eq_left h,zB4,length_drop,zB3,<- add_assoc,add_sub_cancel' h]
def insertAt_cases (h:p<=xs.size) (e:(insertAt xs p x)[i]?=some y):(i=p/\x=y)\/(i≠p/\xs[if i < p then i else i - 1]?=some y):=by
 rw [eZ h] at e;by_cases h1:i < p
 ·rw [if_pos h1] at e; exact .inr ⟨by exact ne_of_lt h1,by rw [if_pos h1]; exact e⟩
 ·rw [if_neg h1] at e;by_cases h2:i=p
  ·rw [if_pos h2] at e; (injection e with e; subst e); exact .inl ⟨h2,rfl⟩
  ·rw [if_neg h2] at e; exact .inr ⟨h2,by rw [if_neg h1]; exact e⟩
def kK (h:p<=xs.size) (e:xs[i]?=some y):(insertAt xs p x)[if i < p then i else i+1]?=some y:=by
 rw [eZ h];by_cases h1:i < p
 ·rw [if_pos h1,if_pos h1]; exact e
 ·rw [if_neg h1,if_neg (by exact not_lt.mpr (Nat.le_add_right_of_le (not_lt.mp h1))),if_neg (by exact ne_of_gt (lt_succ_of_le (not_lt.mp h1)))]; exact e
def mn (r:lE xs) (h:∀ i:Nat,xs[i]?≠some j):lE (insertAt xs (below xs j) j):=fun i k a b DG ea eb=>by
 obtain ⟨hp,h1,h2⟩:=dW r j;have le:∀ i a:Nat,below xs j<=i->xs[i]?=some a->j < a:=fun i a q e=>lt_of_le_of_ne (h2 i a q e) fun z=>h i (z▸e);rcases insertAt_cases hp ea with ⟨rfl,rfl⟩ | ⟨q1,z1⟩ <;> rcases insertAt_cases hp eb with ⟨rfl,rfl⟩ | ⟨q2,z2⟩
 ·exact absurd DG (lt_irrefl _)
 ·rw [if_neg (by exact not_lt.mpr (le_of_lt DG))] at z2; exact le _ _ (le_sub_one_of_lt DG) z2
 ·rw [if_pos DG] at z1; exact h1 _ _ DG z1
 ·refine r _ _ _ _ ?_ z1 z2;by_cases c1:i < below xs j
  ·rw [if_pos c1];by_cases c2:k < below xs j
   ·rw [if_pos c2]; exact DG
   ·rw [if_neg c2]; exact J6 c1 (le_sub_one_of_lt (lt_of_le_of_ne (le_of_not_lt c2) (Ne.symm q2)))
  ·have c2:¬ k < below xs j:=fun q=>c1 (lt_trans DG q);rw [if_neg c1,if_neg c2];exact Nat.sub_lt_sub_right (Nat.succ_le_of_lt (J5 (zero_le _) (lt_of_le_of_ne (le_of_not_lt c1) (Ne.symm q1)))) DG
def slot_is {t:SetTable} (hd:t.dummies=#[]) (r:lE t.place) (j:Nat):(∃ i:Nat,t.place[i]?=some j/\t.slot j=.live i)\/(∀ i:Nat,t.place[i]?≠some j)/\t.slot j=.empty:=by
 unfold slot;by_cases h:∃ i:Nat,t.place[i]?=some j
 ·obtain ⟨i,e⟩:=h;refine .inl ⟨i,e,?_⟩;simp only [jg r e,e,beq_self_eq_true,if_true]
 ·have h:∀ i:Nat,t.place[i]?≠some j:=fun i e=>h ⟨i,e⟩;refine .inr ⟨h,?_⟩;have:(t.place[below t.place j]?==some j)=false:=by simpa using h _
  simp only [this,hd,has,false_eq_true,if_false];simp
noncomputable def adv (m:Nat) (p:Probe):Probe:=
 if p.more > 0 then { p with j:=p.j+1,more:=p.more - 1 } else
 { p with j:=(leap m p.i p.perturb).1,more:=runEnd m (leap m p.i p.perturb).1 - (leap m p.i p.perturb).1,i:=(leap m p.i p.perturb).1,perturb:=(leap m p.i p.perturb).2 }
noncomputable def it (m:Nat):Nat->Probe->Probe
 | 0,p=>p
 | n+1,p=>it m n (adv m p)
theorem it_add (m:Nat):∀ a b p,it m (a+b) p=it m b (it m a p)
 | 0,b,p=>by rw [zero_add]; rfl
 | a+1,b,p=>by rw [succ_add]; exact it_add m a b (adv m p)
noncomputable def beg (m i pt:Nat):Probe:={ j:=i,more:=runEnd m i - i,i:=i,perturb:=pt,dummy:=none }
noncomputable def lp (m:Nat) (q:Nat×Nat):Nat×Nat:=leap m q.1 q.2
theorem lX (m:Nat):∀ k p,p.more=k->p.dummy=none->it m (k+1) p=beg m (lp m (p.i,p.perturb)).1 (lp m (p.i,p.perturb)).2
 | 0,p,h,hd=>by
  refine (?_:adv m p=_);unfold adv; rw [if_neg (by rw [h]; exact lt_irrefl _),hd]; rfl
 | k+1,p,h,hd=>by
  have e:adv m p={ p with j:=p.j+1,more:=p.more - 1 }:=if_pos (by rw [h]; exact succ_pos _);refine (?_:it m (k+1) (adv m p)=_);rw [lX m k (adv m p) (by rw [e]; refine (?_:p.more - 1=k); rw [h]; rfl) (by rw [e]; exact hd),e]
def lj (m i:Nat):runEnd m i - i<=9:=by
 unfold runEnd;split
 ·exact zB2 (Nat.add_sub_cancel_left _ _)
 ·rw [sub_self]; exact zero_le _
noncomputable def lps (m:Nat):Nat->Nat×Nat->Nat×Nat
 | 0,q=>q
 | r+1,q=>lps m r (lp m q)
theorem qR (m:Nat):∀ r p,p.more<=9->p.dummy=none->∃ N,N<=10 * (r+1)/\it m N p=beg m (lps m (r+1) (p.i,p.perturb)).1 (lps m (r+1) (p.i,p.perturb)).2
 | 0,p,h,hd=>⟨p.more+1,succ_le_succ h,lX m _ p rfl hd⟩
 | r+1,p,h,hd=>by
  obtain ⟨N,h1,h2⟩:=qR m r (beg m (lp m (p.i,p.perturb)).1 (lp m (p.i,p.perturb)).2) (lj _ _) rfl;refine ⟨p.more+1+N,zB1 (add_le_add (succ_le_succ h) h1) (zB2 (add_comm 10 _)),?_⟩;rw [it_add,lX m _ p rfl hd]; exact h2
theorem lps_add (m:Nat):∀ a b q,lps m (a+b) q=lps m b (lps m a q)
 | 0,b,q=>by rw [zero_add]; rfl
 | a+1,b,q=>by rw [succ_add]; exact lps_add m a b (lp m q)
theorem qK (m:Nat):∀ r q,(lps m r q).2=q.2 / 32 ^ r
 | 0,q=>(Nat.div_one _).symm
 | r+1,q=>(qK m r (lp m q)).trans (by refine (?_:q.2 / 32 / 32 ^ r=_); rw [Nat.div_div_eq_div_mul,pow_succ,mul_comm])
theorem qM (m:Nat):∀ r q,q.1<=m->(lps m r q).1<=m
 | 0,q,h=>h
 | r+1,q,_=>qM m r (lp m q) (Jd (mod_lt _ (succ_pos _)))
noncomputable def orb (m:Nat):Nat->Nat
 | 0=>0
 | n+1=>(orb m n * 5+1) % (m+1)
def Msk (m:Nat):Prop:=m=7\/m=31\/m=127\/m=511\/m=2047\/m=8191
theorem Msk.pow {m:Nat} (h:Msk m):∃ k,m+1=2 ^ k:=by
 rcases h with rfl | rfl | rfl | rfl | rfl | rfl
 ·exact ⟨3,rfl⟩
 ·exact ⟨5,rfl⟩
 ·exact ⟨7,rfl⟩
 ·exact ⟨9,rfl⟩
 ·exact ⟨11,rfl⟩
 ·exact ⟨13,rfl⟩
noncomputable def gs:Nat->Nat
 | 0=>0
 | n+1=>gs n * 5+1
theorem orb_gs (m:Nat):∀ n,orb m n=gs n % (m+1)
 | 0=>(Nat.zero_mod _).symm
 | n+1=>by
  refine (?_:(orb m n * 5+1) % (m+1)=(gs n * 5+1) % (m+1));rw [orb_gs m n,add_mod,Nat.mod_mul_mod,<- add_mod]
theorem pH (a:Nat):∀ b,gs (a+b)=gs b+5 ^ b * gs a
 | 0=>by rw [Nat.add_zero,Nat.pow_zero,one_mul]; exact (zero_add _).symm
 | b+1=>by
  refine (?_:gs (a+b) * 5+1=(gs b * 5+1)+5 ^ (b+1) * gs a);rw [pH a b,pow_succ];grind
theorem nL:∀ n,5 ^ n % 4=1
 | 0=>rfl
 | n+1=>by rw [pow_succ,Nat.mul_mod,nL n]
theorem vj:∀ n,gs n % 2=n % 2
 | 0=>rfl
 | n+1=>by
  show (gs n * 5+1) % 2=_
  rw [add_mod,Nat.mul_mod,vj n,add_mod n 1];rcases Nat.mod_two_eq_zero_or_one n with e | e <;> rw [e]
theorem vk:∀ k n,2 ^ k ∣ gs n->2 ^ k ∣ n
 | 0,n,_=>⟨n,(one_mul n).symm⟩
 | k+1,n,h=>by
  have h2:n % 2=0:=by
   rw [<- vj n];exact Nat.mod_eq_zero_of_dvd (Nat.dvd_trans ⟨2 ^ k,by rw [pow_succ,mul_comm]⟩ h)
  obtain ⟨m,rfl⟩:∃ m,n=m+m:=⟨n / 2,by rw [<- two_mul]; exact (Nat.mul_div_cancel' (Nat.dvd_of_mod_eq_zero h2)).symm⟩;rw [pH m m] at h;obtain ⟨q,hq⟩:∃ q,5 ^ m+1=2 * (2 * q+1):=⟨5 ^ m / 4,by rw [Nat.mul_add,<- Nat.mul_assoc]; exact congrArg (· + 1) ((nL m▸Nat.div_add_mod (5 ^ m) 4:4 * (5 ^ m / 4)+1=5 ^ m).symm)⟩;have e:gs m+5 ^ m * gs m=2 * ((2 * q+1) * gs m):=by
   rw [<- Nat.mul_assoc,<- hq,Nat.add_mul,one_mul,add_comm]
  rw [e,pow_succ,mul_comm (2 ^ k) 2] at h;have h:=Nat.dvd_of_mul_dvd_mul_left (by decide:0 < 2) h;have c:Coprime (2 ^ k) (2 * q+1):=Coprime.pow_left k (by
   rw [Nat.coprime_iff_gcd_eq_one];have:Nat.gcd 2 (2 * q+1) ∣ 1:=by
    have h1:=Nat.gcd_dvd_left 2 (2 * q+1);have h2:=Nat.gcd_dvd_right 2 (2 * q+1);exact (Nat.dvd_add_right (Nat.dvd_trans h1 ⟨q,rfl⟩)).mp h2
   exact Nat.eq_one_of_dvd_one this)
  have h:=vk k m (c.dvd_of_dvd_mul_left h);obtain ⟨r,hr⟩:=h;exact ⟨r,by rw [pow_succ,Nat.mul_right_comm,<- hr]; exact (mul_two m).symm⟩
def qD {m k a b:Nat} (hm:m+1=2 ^ k) (h:orb m a=orb m (a+b)):2 ^ k ∣ b:=by
 rw [orb_gs,orb_gs,hm,add_comm a b,pH b a] at h;have z:=Nat.sub_mod_eq_zero_of_mod_eq h.symm;rw [Nat.add_sub_cancel_left] at z;exact vk k b ((Coprime.pow k a (by decide:Coprime 2 5)).dvd_of_dvd_mul_left (Nat.dvd_of_mod_eq_zero z))
def zo (m n:Nat):orb m n < m+1:=by rw [orb_gs]; exact mod_lt _ (succ_pos _)
def zn {m k i j:Nat} (hm:m+1=2 ^ k) (h:i < j) (hj:j < i+(m+1)):orb m i≠orb m j:=fun e=>by
 obtain ⟨d,rfl⟩:=Nat.exists_eq_add_of_lt h;have q:=qD hm (b:=d+1) e;rw [<- hm] at q;exact absurd (Nat.le_of_dvd (succ_pos _) q) (not_le.mpr (Nat.lt_of_add_lt_add_left (by rw [<- add_assoc]; exact hj)))
def jU {m k e:Nat} (hm:m+1=2 ^ k) (he:e<=m):∃ b,b<=m/\e=orb m (b+1):=by
 refine byContradiction fun no=>?_;have nd:(e :: (List.range (m+1)).map fun b=>orb m (b+1)).Nodup:=by
  refine nodup_cons.mpr ⟨fun z=>?_,pairwise_map.mpr (List.pairwise_lt_range.imp_of_mem fun {i j} mi mj h=>?_)⟩
  ·obtain ⟨b,mb,q⟩:=zA7 z;exact no ⟨b,Jd (mem_range.mp mb),q.symm⟩
  ·exact zn hm (Nat.succ_lt_succ h) (J6 (Nat.succ_lt_succ (mem_range.mp mj)) (by rw [add_comm (i+1)]; exact add_le_add_left (Nat.le_add_left 1 i) _))
 have l:=nd.length_le_of_subset (l₂:=List.range (m+1)) fun x mx=>by
  rcases mem_cons.mp mx with rfl | mx
  ·exact mem_range.mpr (lt_succ_of_le he)
  ·obtain ⟨b,_,rfl⟩:=zA7 mx;exact mem_range.mpr (zo _ _)
 rw [zB4,zA4,length_range] at l;exact absurd l (Nat.not_succ_le_self _)
def tN {m k:Nat} (hm:m+1=2 ^ k):orb m (m+1)=0:=by
 obtain ⟨b,hb,e⟩:=jU hm (zero_le m);have q:=qD hm (a:=0) (b:=b+1) (by rw [zero_add]; exact e);rw [<- hm] at q;have z:m=b:=le_antisymm (Nat.le_of_succ_le_succ (Nat.le_of_dvd (succ_pos _) q)) hb;exact (congrArg (fun x=>orb m (x+1)) z).trans e.symm
def qE {m e:Nat} (h:Msk m) (he:e<=m):∃ b,b<=m/\e=orb m (b+1):=h.pow.elim fun U q=>jU q he
theorem qL (m:Nat):∀ r a,lps m r (orb m a,0)=(orb m (a+r),0)
 | 0,_=>rfl
 | r+1,a=>by
  have e:lp m (orb m a,0)=(orb m (a+1),0):=by unfold lp leap; rw [Nat.zero_div]; rfl
  refine (?_:lps m r (lp m (orb m a,0))=_);rw [e,qL m r (a+1),add_right_comm a 1 r]; rfl
theorem ig (h:Msk m):∀ b,orb m (b+(m+1))=orb m b
 | 0=>by rw [zero_add]; exact h.pow.elim fun U q=>tN q
 | b+1=>by rw [add_right_comm b 1 (m+1)]; refine (?_:(_ * 5+1) % (m+1)=_); rw [ig h b]; rfl
def x4 (h:Msk m) (hi:i<=m) (hp:pt < 2 ^ 64) (he:e<=m):∃ r,r<=m+13/\(lps m (r+1) (i,pt)).1=e:=by
 have z:lps m 13 (i,pt)=((lps m 13 (i,pt)).1,0):=Prod.ext rfl ((qK m 13 (i,pt)).trans (Nat.div_eq_of_lt (J6 hp (by decide))));obtain ⟨a,ha,ea⟩:=qE h (qM m 13 (i,pt) hi);obtain ⟨b,hb,eb⟩:=qE h he;rw [ea] at z;have go:∀ r,(lps m (13+r) (i,pt)).1=orb m (a+1+r):=fun r=>by rw [lps_add,z,qL]
 by_cases c:a < b
 ·exact ⟨12+(b - a),add_comm 13 m▸add_le_add (by decide:12<=13) (zB1 (sub_le b a) hb),by rw [show 12+(b - a)+1=13+(b - a) by exact add_right_comm _ _ _,go,eb,add_right_comm a,add_sub_cancel' (le_of_lt c)]⟩
 ·refine ⟨12+(m+1+b - a),zB1 (add_le_add_left (Nat.sub_le_of_le_add (add_le_add_left (le_of_not_lt c) (m+1))) 12) (zB2 (add_comm 12 (m+1))),?_⟩;rw [show 12+(m+1+b - a)+1=13+(m+1+b - a) by exact add_right_comm _ _ _,go,eb,<- ig h (b+1),add_right_comm a,add_sub_cancel' (zB1 ha (zB1 (le_succ m) (le_add_right _ _))),add_assoc,add_comm]
def zP (h:Msk m) (hi:p.i<=m) (hp:p.perturb < 2 ^ 64) (hm:p.more<=9) (hd:p.dummy=none) (he:e<=m):∃ N,N < 10 * turns m/\(it m N p).j=e:=by
 obtain ⟨r,hr,q⟩:=x4 h hi hp he;obtain ⟨N,h1,h2⟩:=qR m r p hm hd;exact ⟨N,by unfold turns; exact J5 h1 (Nat.mul_lt_mul_of_pos_left (Nat.succ_lt_succ (lt_succ_of_le hr)) (by decide)),by rw [h2]; exact q⟩
def rC (h:Int):bits h < 2 ^ 64:=by unfold bits; exact (toNat_lt (Int.emod_nonneg _ (by decide))).mpr (Int.emod_lt_of_pos _ (by decide))
noncomputable def pos (m:Nat) (h:Int) (n:Nat):Probe:=it m n (beg m (bits h % (m+1)) (bits h))
def In (t:SetTable) (j:Nat):Prop:=∃ i:Nat,t.place[i]?=some j
def Way (t:SetTable) (h:Int) (j:Nat):Prop:=∃ n,(pos t.mask h n).j=j/\∀ n',n' < n->In t (pos t.mask h n').j
structure Tab {β:Type} (t:SetTable) (es:Array (Int×β)):Prop where
 msk:Msk t.mask
 dm:t.dummies=#[]
 sz:t.place.size=es.size
 rise:lE t.place
 le:∀ i j:Nat,t.place[i]?=some j->j<=t.mask
 way:∀ (i j:Nat) e,t.place[i]?=some j->es[i]?=some e->Way t e.1 j
theorem yd:∀ {n:Nat} {p:Probe},p.dummy=none->(it m n p).dummy=none
 | 0,_,h=>h
 | n+1,p,h=>yd (n:=n) (p:=adv m p) (by unfold adv; split <;> exact h)
def wY (hd:t.dummies=#[]) (r:lE t.place):∀ N Cd p,N < Cd->p.dummy=none->¬ In t (it t.mask N p).j ->
  ∃ n,n<=N/\(∀ n',n' < n->∃ i:Nat,t.place[i]?=some (it t.mask n' p).j/\hashAt i≠h) /\
   (¬ In t (it t.mask n p).j/\probe.go t hashAt h Cd p=some (.empty (it t.mask n p).j none) \/
    ∃ i:Nat,t.place[i]?=some (it t.mask n p).j/\hashAt i=h/\probe.go t hashAt h Cd p=some (.candidate (it t.mask n p).j i (it t.mask (n+1) p))):=by
 intro N;induction N with
 | zero=>
  intro Cd p hf hp he;obtain ⟨Cd,rfl⟩:=Nat.exists_eq_succ_of_ne_zero (ne_of_gt hf);refine ⟨0,le_refl _,fun U q=>absurd q (not_lt_zero _),.inl ⟨he,?_⟩⟩;rcases slot_is hd r p.j with ⟨i,e,_⟩ | ⟨_,e⟩
  ·exact absurd ⟨i,e⟩ he
  ·unfold probe.go; rw [e]; refine (?_:some (Met.empty p.j p.dummy)=_); rw [hp]; rfl
 | succ N ih=>
  intro Cd p hf hp he;obtain ⟨Cd,rfl⟩:=Nat.exists_eq_succ_of_ne_zero (ne_of_gt (J5 (zero_le _) hf));rcases slot_is hd r p.j with ⟨i,e,es⟩ | ⟨e,es⟩
  ·by_cases c:hashAt i=h
   ·refine ⟨0,zero_le _,fun U q=>absurd q (not_lt_zero _),.inr ⟨i,e,c,?_⟩⟩;unfold probe.go; rw [es]; exact if_pos (beq_iff_eq.mpr c)
   ·obtain ⟨n,h1,h2,h3⟩:=ih Cd (adv t.mask p) (Nat.lt_of_succ_lt_succ hf) (yd (n:=1) hp) he;have hg:probe.go t hashAt h (Cd+1) p=probe.go t hashAt h Cd (adv t.mask p):=by
     rw [probe.go]; rw [es]; exact if_neg fun q=>c (beq_iff_eq.mp q)
    refine ⟨n+1,succ_le_succ h1,fun n' q=>?_,?_⟩
    ·cases n' with
     | zero=>exact ⟨i,e,c⟩
     | succ n'=>exact h2 n' (Nat.lt_of_succ_lt_succ q)
    ·rw [hg]; exact h3
  ·refine ⟨0,zero_le _,fun U q=>absurd q (not_lt_zero _),.inl ⟨fun ⟨i,q⟩=>e i q,?_⟩⟩;unfold probe.go; rw [es]; refine (?_:some (Met.empty p.j p.dummy)=_); rw [hp]; rfl
theorem yb:∀ n p,p.i<=m->p.perturb < 2 ^ 64->p.more<=9->(it m n p).i<=m/\(it m n p).perturb < 2 ^ 64/\(it m n p).more<=9
 | 0,p,h1,h2,h3=>⟨h1,h2,h3⟩
 | n+1,p,h1,h2,h3=>by
  refine yb n (adv m p) ?_ ?_ ?_ <;> unfold adv <;> split
  ·exact h1
  ·exact Jd (mod_lt _ (succ_pos _))
  ·exact h2
  ·exact J5 (Nat.div_le_self _ _) h2
  ·exact zB1 (sub_le _ _) h3
  ·exact lj _ _
section
variable {β:Type} {t:SetTable} {es:Array (Int×β)}
theorem Tab.gap (T:Tab t es) (hf:t.place.size<=t.mask) (h:Int) (k:Nat):∃ N,N < 10 * turns t.mask/\¬ In t (it t.mask N (pos t.mask h k)).j:=by
 obtain ⟨e,he,q⟩:=qU T.rise;have o:=yb (m:=t.mask) k (beg t.mask (bits h % (t.mask+1)) (bits h)) (Jd (mod_lt _ (succ_pos _))) (rC h) (lj _ _);obtain ⟨N,h1,h2⟩:=zP (p:=pos t.mask h k) T.msk o.1 o.2.1 o.2.2 (yd rfl) (zB1 he hf);exact ⟨N,h1,fun ⟨i,z⟩=>q i (by rw [z,h2])⟩
theorem Tab.put (T:Tab t es) (hw:Way t h j) (hj:¬ In t j) (hl:j<=t.mask):(t.put j).1.mask=t.mask/\(t.put j).1.place.size=es.size+1/\Tab (t.put j).1 (insertAt es (t.put j).2 (h,x)):=by
 have hp:=(dW T.rise j).1;have ep:(t.put j).1.place=insertAt t.place (below t.place j) j:=rfl;have ed:(t.put j).1.dummies=#[]:=by refine (?_:(if has t.dummies j then _ else t.dummies)=_); rw [T.dm]; rfl
 have Fh:below t.place j<=es.size:=T.sz▸hp;have up:∀ {k},In t k->In (t.put j).1 k:=fun ⟨i,e⟩=>⟨_,kK hp e⟩;have upw:∀ {k h},Way t h k->Way (t.put j).1 h k:=fun ⟨n,a,b⟩=>⟨n,a,fun n' q=>up (b n' q)⟩;refine ⟨rfl,by rw [ep,cL hp,T.sz],T.msk,ed,by rw [ep,cL hp]; exact T.sz▸(cL Fh).symm,mn T.rise fun i e=>hj ⟨i,e⟩,fun i k e=>?_,fun i k e ek ee=>?_⟩
 ·rcases insertAt_cases hp e with ⟨_,rfl⟩ | ⟨_,e⟩
  ·exact hl
  ·exact T.le _ _ e
 ·rcases insertAt_cases hp ek with ⟨rfl,rfl⟩ | ⟨q,ek⟩
  ·rcases insertAt_cases Fh ee with ⟨_,rfl⟩ | ⟨q,_⟩
   ·exact upw hw
   ·exact absurd rfl q
  ·rcases insertAt_cases Fh ee with ⟨q',_⟩ | ⟨_,ee⟩
   ·exact absurd q' q
   ·exact upw (T.way _ _ _ ek ee)
end
def Occ (O:Array (Option Nat)) (j:Nat):Prop:=∃ c,O[j]?=some (some c)
theorem ye:∀ {k:Nat} {p:Probe},k<=p.more->(it m k p).j=p.j+k
 | 0,_,_=>rfl
 | k+1,p,h=>by
  have e:adv m p={ p with j:=p.j+1,more:=p.more - 1 }:=if_pos (J6 (succ_pos _) h);refine (?_:(it m k (adv m p)).j=_);rw [ye (p:=adv m p) (by rw [e]; exact Nat.le_sub_of_add_le h),e];refine (?_:p.j+1+k=_); lia
def uZ (h:i<=m):i<=runEnd m i/\runEnd m i<=m:=by unfold runEnd; split <;> lia
def occ_or (hs:O.size=m+1) (hj:j<=m):(Occ O j/\(O.getD j (some 0)).isNone=false)\/¬ Occ O j/\(O.getD j (some 0)).isNone=true:=by
 have e:O[j]?=some (O.getD j (some 0)):=by rw [Array.getD_eq_getD_getElem?,Array.getElem?_eq_getElem (by lia)]; rfl
 unfold Occ;refine e.symm▸?_;cases O.getD j (some 0) with
 | none=>exact .inr ⟨(fun ⟨c,q⟩=>nomatch q),rfl⟩
 | some c=>exact .inl ⟨⟨c,rfl⟩,rfl⟩
def sw (hs:O.size=m+1):∀ r Cd i pt,r < Cd->i<=m->¬ Occ O (lps m r (i,pt)).1 ->
  ∃ n j,layClean.free m O Cd i pt=some j/\(it m n (beg m i pt)).j=j/\j<=m/\¬ Occ O j/\∀ n',n' < n->Occ O (it m n' (beg m i pt)).j:=by
 intro r Cd;induction Cd generalizing r with
 | zero=>exact fun U U h=>absurd h (not_lt_zero _)
 | succ Cd ih=>
  intro i pt hr hi he;have HA:=uZ hi;have er:runEnd m i+1 - i=runEnd m i - i+1:=Nat.succ_sub HA.1;have inr:∀ k,k < runEnd m i+1 - i->(it m k (beg m i pt)).j=i+k/\i+k<=m:=fun k hk=>have hk:k<=runEnd m i - i:=Jd (Nat.lt_of_lt_of_eq hk er); ⟨ye (p:=beg m i pt) hk,zB1 (Nat.add_le_of_le_sub' HA.1 hk) HA.2⟩;unfold layClean.free;cases hf:(List.range (runEnd m i+1 - i)).find? fun k=>(O.getD (i+k) (some 0)).isNone with
  | some k=>
   obtain ⟨h1,h2,h3⟩:=List.find?_range_eq_some.mp hf;have hk:=inr k (mem_range.mp h2);refine ⟨k,i+k,rfl,hk.1,hk.2,?_,fun n' q=>?_⟩
   ·rcases occ_or hs hk.2 with ⟨_,z⟩ | ⟨z,_⟩
    ·replace h1:=z▸h1; (injection h1; done)
    ·exact z
   ·have hn:=inr n' (lt_trans q (mem_range.mp h2));rcases occ_or hs hn.2 with ⟨z,_⟩ | ⟨_,z⟩
    ·rw [hn.1]; exact z
    ·have:=h3 n' q; replace this:=z▸this; (injection this; done)
  | none=>
   have hn:=List.find?_range_eq_none.mp hf;have occ:∀ n',n' < runEnd m i+1 - i->Occ O (it m n' (beg m i pt)).j:=fun n' q=>by
    rcases occ_or hs (inr n' q).2 with ⟨z,_⟩ | ⟨_,z⟩
    ·rw [(inr n' q).1]; exact z
    ·have:=hn n' q; replace this:=z▸this; (injection this; done)
   cases r with
   | zero=>exact absurd (occ 0 (er▸succ_pos _)) he
   | succ r=>
    obtain ⟨n,j,e1,e2,e3,e4,e5⟩:=ih r (lp m (i,pt)).1 (lp m (i,pt)).2 (Nat.lt_of_succ_lt_succ hr) (Jd (mod_lt _ (succ_pos _))) he;have FW:=lX m (runEnd m i - i) (beg m i pt) rfl rfl;refine ⟨runEnd m i - i+1+n,j,e1,?_,e3,e4,fun n' q=>?_⟩
    ·rw [it_add,FW]; exact e2
    ·by_cases c:n' < runEnd m i+1 - i
     ·exact occ n' c
     ·have c:=er▸le_of_not_lt c;have:=e5 (n' - (runEnd m i - i+1)) (Nat.sub_lt_left_of_lt_add c q);rw [<- add_sub_cancel' c,it_add,FW]; exact this
structure LInv (m:Nat) (H:Nat->Int) (O:Array (Option Nat)) (k:Nat):Prop where
 sz:O.size=m+1
 way:∀ j c:Nat,O[j]?=some (some c)->c < k/\∃ n,(pos m (H c) n).j=j/\∀ n',n' < n->Occ O (pos m (H c) n').j
 all:∀ c,c < k->Exists fun j:Nat=>O[j]?=some (some c)
 inj:∀ j j' c:Nat,O[j]?=some (some c)->O[j']?=some (some c)->j=j'
noncomputable def live (m:Nat) (O:Array (Option Nat)):List (Nat×Nat):=(List.range (m+1)).filterMap fun j=>(O.getD j none).map (j,·)
section
variable {m:Nat} {H:Nat->Int} {O:Array (Option Nat)} {k:Nat}
def cj (hs:O.size=m+1):(j,c)∈live m O ↔ O[j]?=some (some c):=by
 unfold live;rw [List.mem_filterMap];constructor
 ·rintro ⟨j',_,e⟩;obtain ⟨c',ec,q⟩:=map_eq_some_iff.mp e;cases q
  replace ec:=(Array.getD_eq_getD_getElem?)▸ec;cases h:O[j]? with
  | none=>replace ec:=h▸ec; cases ec
  | some v=>rw [h] at ec; exact congrArg some ec
 ·intro e;have hj:j < O.size:=by rcases lt_or_ge j O.size with q | q; exact q; replace e:=(getElem?_eq_none q)▸e; cases e
  exact ⟨j,mem_range.mpr (hs▸hj),by rw [Array.getD_eq_getD_getElem?,e]; rfl⟩
def jZ:(live m O).Pairwise fun a b=>a.1 < b.1:=by
 refine Pairwise.filterMap _ (fun a a' h b hb b' DI=>?_) List.pairwise_lt_range;obtain ⟨c,_,rfl⟩:=map_eq_some_iff.mp hb;obtain ⟨c',_,rfl⟩:=map_eq_some_iff.mp DI;exact h
def d9 (L:LInv m H O k):((live m O).map (·.2)).Perm (List.range k):=by
 refine (List.perm_ext_iff_of_nodup ?_ nodup_range).mpr fun c=>?_
 ·refine Pairwise.map _ (fun a b h=>h) ((jZ (m:=m) (O:=O)).imp_of_mem fun {a b} ha hb h e=>?_);have e1:=(cj L.sz).mp (ha:(a.1,a.2)∈live m O);have e2:=(cj L.sz).mp (hb:(b.1,b.2)∈live m O);rw [<- e] at e2;exact absurd (L.inj _ _ _ e1 e2) (ne_of_lt h)
 ·rw [mem_map,mem_range];constructor
  ·rintro ⟨⟨j,c⟩,hm,rfl⟩; exact (L.way _ _ ((cj L.sz).mp hm)).1
  ·intro hc;obtain ⟨j,e⟩:=L.all c hc;exact ⟨(j,c),(cj L.sz).mpr e,rfl⟩
noncomputable def cR (m:Nat) (O:Array (Option Nat)):Array Nat:=((live m O).map (·.1)).toArray
def cY {i j:Nat} (e:(cR m O)[i]?=some j):∃ c,(live m O)[i]?=some (j,c):=by
 unfold cR at e;replace e:=(Jc)▸(List.getElem?_toArray)▸e;obtain ⟨q,h,rfl⟩:=map_eq_some_iff.mp e;exact ⟨_,h⟩
def place_rise:lE (cR m O):=fun i j a b h ea eb=>by
 obtain ⟨c,ec⟩:=cY ea;obtain ⟨d,ed⟩:=cY eb;obtain ⟨hi,qi⟩:=List.getElem?_eq_some_iff.mp ec;obtain ⟨hj,qj⟩:=List.getElem?_eq_some_iff.mp ed;have:=List.pairwise_iff_getElem.mp (jZ (m:=m) (O:=O)) i j hi hj h;rw [qi,qj] at this; exact this
def hW (L:LInv m H O k):(cR m O).size=k:=by
 have:=(d9 L).length_eq;rw [zA4,length_range] at this;unfold cR; rw [size_toArray,zA4,this]
def m6 (L:LInv m H O k) {j:Nat}:(∃ i:Nat,(cR m O)[i]?=some j) ↔ Occ O j:=by
 constructor
 ·rintro ⟨i,e⟩;obtain ⟨c,ec⟩:=cY e;exact ⟨c,(cj L.sz).mp (J8 ec)⟩
 ·rintro ⟨c,e⟩;obtain ⟨i,hi⟩:=getElem?_of_mem ((cj L.sz).mpr e);exact ⟨i,by unfold cR; rw [List.getElem?_toArray,Jc,hi]; rfl⟩
theorem LInv.step (hm:Msk m) (L:LInv m H O k) (hk:k<=m):∃ j,layClean.free m O (turns m) (bits (H k) % (m+1)) (bits (H k))=some j/\LInv m H (O.setIfInBounds j (some k)) (k+1):=by
 obtain ⟨e,he,q⟩:=qU (place_rise (m:=m) (O:=O));replace he:=(hW L)▸he;have hb:bits (H k) % (m+1)<=m:=Jd (mod_lt _ (succ_pos _));obtain ⟨r,hr,hl⟩:=x4 hm hb (rC (H k)) (zB1 he hk);have hq:¬ Occ O e:=fun z=>by obtain ⟨i,z⟩:=(m6 L).mpr z; exact q i z
 obtain ⟨n,j,e1,e2,e3,e4,e5⟩:=sw L.sz (r+1) (turns m) _ _ (by unfold turns; lia) hb (by rw [hl]; exact hq);have hj:j < O.size:=by rw [L.sz]; exact lt_succ_of_le e3
 have gs:(O.setIfInBounds j (some k))[j]?=some (some k):=by rw [Array.getElem?_setIfInBounds,if_pos rfl,if_pos hj]
 have gn:∀ i,i≠j->(O.setIfInBounds j (some k))[i]?=O[i]?:=fun i h=>by rw [Array.getElem?_setIfInBounds,if_neg (Ne.symm h)]
 have up:∀ {i},Occ O i->Occ (O.setIfInBounds j (some k)) i:=fun {i} h=>by
  by_cases c:i=j
  ·subst c; exact ⟨k,gs⟩
  ·obtain ⟨c',z⟩:=h; exact ⟨c',(gn i c).trans z⟩
 refine ⟨j,e1,by rw [Array.size_setIfInBounds]; exact L.sz,fun i c z=>?_,fun c hc=>?_,fun i i' c z z'=>?_⟩
 ·by_cases h:i=j
  ·subst h; replace z:=gs▸z; cases z;exact ⟨lt_succ_self _,n,e2,fun n' h=>up (e5 n' h)⟩
  ·rw [gn i h] at z;obtain ⟨a,n,b,d⟩:=L.way _ _ z;exact ⟨Nat.lt_succ_of_lt a,n,b,fun n' h=>up (d n' h)⟩
 ·rcases Nat.lt_or_eq_of_le (Jd hc) with h | h
  ·obtain ⟨i,z⟩:=L.all c h;exact ⟨i,(gn i fun q=>e4 ⟨c,q▸z⟩).trans z⟩
  ·subst h; exact ⟨j,gs⟩
 ·by_cases h:i=j <;> by_cases h':i'=j
  ·exact h.trans h'.symm
  ·subst h; rw [gs] at z; cases z; rw [gn i' h'] at z'; exact absurd (L.way _ _ z').1 (lt_irrefl _)
  ·subst h'; rw [gs] at z'; cases z'; rw [gn i h] at z; exact absurd (L.way _ _ z).1 (lt_irrefl _)
  ·rw [gn i h] at z; rw [gn i' h'] at z'; exact L.inj _ _ _ z z'
end
noncomputable def wF (m:Nat) (acc:Option (Array (Option Nat)×Nat)) (h:Int):Option (Array (Option Nat)×Nat):=do
  let (owner,k) <- acc
  let j <- layClean.free m owner (turns m) (bits h % (m+1)) (bits h)
  pure (owner.setIfInBounds j (some k),k+1)
theorem nt (hm:Msk m):∀ (l:List Int) (O:Array (Option Nat)) (k:Nat),(∀ i h,l[i]?=some h->H (k+i)=h)->k+l.length<=m+1->LInv m H O k ->
  ∃ O',l.foldl (wF m) (some (O,k))=some (O',k+l.length)/\LInv m H O' (k+l.length)
 | [],O,k,_,_,L=>⟨O,rfl,L⟩
 | h :: l,O,k,hH,hk,L=>by
  have e0:H k=h:=hH 0 h rfl;obtain ⟨j,e,L'⟩:=L.step hm (by rw [zB4] at hk; lia);obtain ⟨O',e',L''⟩:=nt hm l _ (k+1) (fun i x z=>by rw [add_right_comm]; exact hH (i+1) x z) (by rw [zB4] at hk; lia) L';rw [add_right_comm] at e' L'';refine ⟨O',?_,L''⟩;rw [List.foldl_cons];refine Eq.trans (congrArg (List.foldl _ · l) ?_) e';rw [e0] at e;refine (?_:(layClean.free m O (turns m) (bits h % (m+1)) (bits h)).bind _=_);rw [e]; rfl
theorem b9:∀ l:List α,(List.range l.length).filterMap (l[·]?)=l
 | []=>rfl
 | x :: l=>by
  rw [zB4,List.range_succ_eq_map,filterMap_cons,List.filterMap_map];exact congrArg (x :: ·) (b9 l)
theorem cN {α β:Type} {f:α->Option β}:∀ {l:List α},(∀ a∈l,(f a).isSome)->∀ i:Nat,(l.filterMap f)[i]?=l[i]?.bind f
 | [],_,_=>rfl
 | a :: l,h,i=>by
  obtain ⟨b,hb⟩:=isSome_iff_exists.mp (h a (.head _));refine filterMap_cons.symm▸hb.symm▸?_;cases i with
  | zero=>exact hb.symm
  | succ i=>exact cN (fun a q=>h a (.tail _ q)) i
def wG {β:Type} {es:Array (Int×β)} {m:Nat} (hm:Msk m) (hk:es.size<=m) (fi mv:Nat) (led pl:Bool):∃ t CK,laid m fi mv led pl (es.map (·.1))=some (t,CK)/\t.mask=m /\
  (CK.filterMap (es[·]?)).toList.Perm es.toList/\Tab t (CK.filterMap (es[·]?))/\CK.toList.Perm (List.range es.size):=by
 have e0:LInv m (fun i=>(es[i]?.map (·.1)).getD 0) (Array.replicate (m+1) none) 0:=by
  have no:∀ j c:Nat,(Array.replicate (m+1) (none:Option Nat))[j]?≠some (some c):=fun j c z=>by
   rw [Array.getElem?_replicate] at z;split at z <;> cases z
  exact ⟨Array.size_replicate,fun j c z=>absurd z (no j c),fun c h=>absurd h (not_lt_zero _),fun j U c z=>absurd z (no j c)⟩
 obtain ⟨O,e1,L⟩:=nt hm (es.toList.map (·.1)) _ 0 (fun i h z=>by rw [Jc,Ja] at z; rw [zero_add,z]; rfl) (by rw [zA4,zB3]; lia) e0;rw [zero_add,zA4,zB3] at e1 L;have e2:layClean m (es.map (·.1))=some O:=by
  unfold layClean;rw [<- Array.foldl_toList,toList_map];exact (congrArg (Option.map _) e1).trans rfl
 have P:(((live m O).map (·.2)).toArray.filterMap (es[·]?)).toList.Perm es.toList:=by
  rw [toList_filterMap];refine (Perm.filterMap _ (d9 L)).trans (.of_eq ?_);have:=b9 es.toList;simpa only [Ja,zB3] using this
 refine ⟨{ mask:=m,place:=cR m O,dummies:=#[],finger:=fi,led:=led,moves:=mv,plain:=pl },((live m O).map (·.2)).toArray,?_,rfl,P,?_,d9 L⟩
 ·unfold laid; rw [e2]; rfl
 ·have hs:∀ c∈(live m O).map (·.2),(es[c]?).isSome:=fun c hc=>by
   rw [Array.getElem?_eq_getElem (mem_range.mp ((d9 L).mem_iff.mp hc))]; rfl
  have hg:∀ i:Nat,((((live m O).map (·.2)).toArray.filterMap (es[·]?)))[i]?=((live m O)[i]?.map (·.2)).bind (es[·]?):=fun i=>by
   rw [<- Ja,toList_filterMap,cN hs,Jc]
  refine ⟨hm,rfl,?_,place_rise,fun i j e=>?_,fun i j e ej ee=>?_⟩
  ·exact (hW L).trans ((length_toList.symm.trans P.length_eq.symm).trans zB3)
  ·obtain ⟨c,ec⟩:=cY e;have:=Array.getElem?_eq_some_iff.mp ((cj L.sz).mp (J8 ec));exact Jd (Nat.lt_of_lt_of_eq this.1 L.sz)
  ·obtain ⟨c,ec⟩:=cY ej;rw [hg,ec] at ee;have ee:es[c]?=some e:=ee;obtain ⟨_,n,a,b⟩:=L.way _ _ ((cj L.sz).mp (J8 ec));rw [ee] at a b;exact ⟨n,a,fun n' q=>(m6 L).mpr (b n' q)⟩
def vB (m x pt:Nat):(beg m (x % (m+1)) pt).j+(beg m (x % (m+1)) pt).more<=m:=by
 have h:=uZ (Jd (mod_lt x (succ_pos m)):x % (m+1)<=m);exact zB1 (zB2 (add_sub_cancel' h.1)) h.2
theorem yc:∀ n p,p.j+p.more<=m->(it m n p).j+(it m n p).more<=m
 | 0,_,h=>h
 | n+1,p,h=>by
  refine yc n (adv m p) ?_;unfold adv;split
  ·rename_i q;refine (?_:p.j+1+(p.more - 1)<=m);rw [add_assoc,add_sub_cancel' q]; exact h
  ·exact vB m (p.i * 5+1+p.perturb / 32) 0
def zm (m:Nat) (h:Int) (n:Nat):(pos m h n).j<=m:=
 zB1 (le_add_right _ _) (yc n (beg m (bits h % (m+1)) (bits h)) (vB m _ _))
def vi (m:Nat) (h:Int) (a b:Nat):it m b (pos m h a)=pos m h (a+b):=(it_add m a b _).symm
def tQ (h:Msk m):(m % 2==0)=false:=by rcases h with rfl | rfl | rfl | rfl | rfl | rfl <;> rfl
section
variable {prog:Program} {w:World} {K:Type} [DecidableEq K] {kd:KeyKind prog w K} {A:Around} {E:Value->Shared->Prop} {s:Shared}
def yM (kd:KeyKind prog w K) (h:Heap) (es:List (Int×Value)):Prop:=∀ e∈es,∃ ks c,e=(tupleKeyHash kd ks,.ref c)/\IsTupleKey kd h ks c
def IsK (kd:KeyKind prog w K) (h:Heap) (ks:List K) (e:Int×Value):Prop:=∃ c,e=(tupleKeyHash kd ks,.ref c)/\IsTupleKey kd h ks c
theorem Tab.fits (T:Tab t es) (hf:es.size<=t.mask):t.fits es.size=true:=by
 unfold SetTable.fits SetTable.fill;rw [T.sz,T.dm];simpa using hf
def gI (hk:IsTupleKey kd s.heap ks b) (h:Q false s):wpAny (model prog w) A (ofAClassStatement 8 (.ref b)) Q E s:=by
 have hT:=hk.typeIs;obtain ⟨o,items,n,ho,_,hd,hi⟩:=hk;unfold ofAClassStatement;refine zC1 (wpAny_typeOf hT ?_);refine (?_:wpAny _ _ (pure true >>= _) _ _ s);refine zC1 (zC2 ?_);refine (?_:wpAny _ _ (seqItems? (.ref b) >>= _) _ _ s);refine zC1 (wpAny_seqItems ho hd ?_);dsimp only;refine zC1 ?_;rw [<- forIn_toList];refine wpAny_forIn_list _ (fun rest r s'=>r.1=none/\s'=s/\∀ v∈rest,carriedByValue v=true) _ ?_ ?_ _ _ ⟨rfl,rfl,hi.byValue⟩
 ·rintro v rest r s' ⟨hr,rfl,hall⟩;have hv:=hall v List.mem_cons_self;have e:ofAClassStatement 7 v=pure false:=by cases v <;> first | rfl | (unfold ofAClassStatement; rfl) | (injection hv; done)
  rw [e];refine zC1 (zC2 ?_);exact zC2 ⟨rfl,rfl,fun u hu=>hall u (List.mem_cons_of_mem _ hu)⟩
 ·rintro ⟨r1,r2⟩ s' ⟨hr,rfl,_⟩;subst hr;exact wpAny_pure h
def y1 (hk:IsTupleKey kd s.heap ks b) (hl:∀ v∈l,∃ DF c,v=.ref c/\IsTupleKey kd s.heap DF c) (h:Q false s) :
  wpAny (model prog w) A (searchCouldBeSeen (.ref b) l) Q E s:=by
 unfold searchCouldBeSeen;refine zC1 ?_;refine wpAny_forIn_list _ (fun rest r s'=>r.1=none/\s'=s/\∀ v∈rest,v∈l) _ ?_ ?_ _ _ ⟨rfl,rfl,fun U h=>h⟩
 ·rintro v rest r s' ⟨hr,rfl,hall⟩;obtain ⟨DF,c,rfl,hc⟩:=hl v (hall v List.mem_cons_self);have nx:∀ u∈rest,u∈l:=fun u hu=>hall u (List.mem_cons_of_mem _ hu);dsimp only;by_cases q:(b==c||(carriedByValue (.ref b)&&carriedByValue (.ref c)))=true
  ·rw [if_pos q]; exact zC2 ⟨rfl,rfl,nx⟩
  ·rw [if_neg q];refine zC1 (wpAny_eqIsQuiet_tuple hk ?_);refine zC1 (wpAny_eqIsQuiet_tuple hc ?_);refine zC1 (gI hk ?_);refine zC1 (gI hc ?_);exact zC2 ⟨rfl,rfl,nx⟩
 ·rintro ⟨r1,r2⟩ s' ⟨hr,rfl,_⟩;subst hr;exact wpAny_pure h
def wf (t:SetTable):t.sameMemory t.moves t.mask=some true:=by unfold sameMemory; rw [beq_self_eq_true]; rfl
def yW [Decidable c] (hm:∀ Q':Bool->Shared->Prop,Q' false s->wpAny M A m Q' E s) (h:wpAny M A y Q E s):wpAny M A (if c then m >>= fun r=>if r=true then u else y else y) Q E s:=
 wpAny_ite_split (fun U=>zC1 (hm _ (wpAny_ite_false rfl h))) fun U=>h
def rQ {S:Addr} (hu:A.units < cLine) (ho:s.heap.get? S=some o) (hd:o.data=.set es ep t) (T:Tab t es) (hf:es.size<=t.mask)
  (he:yM kd s.heap es.toList) (hk:IsTupleKey kd s.heap ks b) (EX:(∃ e∈es.toList,IsK kd s.heap ks e)->Q (.there none) s)
  (Gd:∀ j,Way t (tupleKeyHash kd ks) j->¬ In t j->j<=t.mask->(∀ e∈es.toList,¬ IsK kd s.heap ks e)->Q (.free j false) s) :
  ∀ d Cd n stand,d < Cd->¬ In t (pos t.mask (tupleKeyHash kd ks) (n+d)).j->stand.getD (t.probeStart (tupleKeyHash kd ks))=pos t.mask (tupleKeyHash kd ks) n ->
   (∀ n',n' < n->∃ i:Nat,t.place[i]?=some (pos t.mask (tupleKeyHash kd ks) n').j/\∀ e,es[i]?=some e->¬ IsK kd s.heap ks e)->wpAny (model prog w) A (setSearchFrom S (.ref b) (tupleKeyHash kd ks) true Cd stand) Q E s:=by
 intro d;induction d using Nat.strongRecOn with
 | _ d ih=>
 intro Cd n stand Gc hem CZ F0;obtain ⟨Cd,rfl⟩:=Nat.exists_eq_succ_of_ne_zero (ne_of_gt (J5 (zero_le _) Gc));have D1:=T.fits hf;refine zC1 (wpAny_setState_of ho hd D1 ?_);refine wpAny_ite_false (c:=t.gaveWay=true) (by rw [show t.gaveWay=false from tQ T.msk]; rfl) ?_;generalize hm:t.probe _ _ _=met;replace hm:=hm.symm.trans (congrArg (t.probe _ _) CZ);obtain ⟨N,hN,hNe⟩:=T.gap (T.sz▸hf) (tupleKeyHash kd ks) n;obtain ⟨n1,_,h2,h3⟩:=wY (hashAt:=fun i=>(es[i]?.map (·.1)).getD 0) (h:=tupleKeyHash kd ks) T.dm T.rise N (10 * turns t.mask) (pos t.mask (tupleKeyHash kd ks) n) hN (yd rfl) hNe;simp only [vi] at h2 h3;have Ec:∀ n',n' < n+n1->∃ i:Nat,t.place[i]?=some (pos t.mask (tupleKeyHash kd ks) n').j/\∀ e,es[i]?=some e->¬ IsK kd s.heap ks e:=fun n' q=>by
  by_cases c:n' < n
  ·exact F0 n' c
  ·obtain ⟨i,e1,e2⟩:=h2 (n' - n) (Nat.sub_lt_left_of_lt_add (le_of_not_lt c) q);rw [add_sub_cancel' (le_of_not_lt c)] at e1;refine ⟨i,e1,fun e ee=>?_⟩;rintro ⟨c,rfl,_⟩;exact e2 (by rw [ee]; rfl)
 rcases h3 with ⟨h3,h4⟩ | ⟨i,h3,h5,h4⟩
 ·have hm:=hm.trans h4;subst hm;refine zC2 (Gd _ ⟨_,rfl,fun n' q=>(Ec n' q).imp fun U z=>z.1⟩ h3 (zm _ _ _) fun e GL ⟨c,hec,hc⟩=>?_);obtain ⟨i,hi⟩:=getElem?_of_mem GL;rw [Ja] at hi;have hp:t.place[i]?=some (t.place.getD i 0):=by
   have:i < t.place.size:=by rw [T.sz]; exact (Array.getElem?_eq_some_iff.mp hi).1
   simp [this]
  obtain ⟨n0,e0,a0⟩:=T.way _ _ _ hp hi;subst hec;by_cases q:n0 < n+n1
  ·obtain ⟨i',e1,e2⟩:=Ec n0 q;rw [e0] at e1;obtain rfl:=mW T.rise e1 hp;exact e2 _ hi ⟨c,rfl,hc⟩
  ·by_cases q':n0=n+n1
   ·exact h3 ⟨i,by rw [<- q',e0]; exact hp⟩
   ·exact h3 (a0 _ (lt_of_le_of_ne (le_of_not_lt q) (Ne.symm q')))
 ·have hm:=hm.trans h4;subst hm;have Cm:n1 < d:=by
   rcases lt_or_ge n1 d with q | q
   ·exact q
   ·refine absurd ?_ hem;by_cases q':d=n1
    ·rw [q']; exact ⟨i,h3⟩
    ·exact (Ec (n+d) (Nat.add_lt_add_left (lt_of_le_of_ne q q') n)).imp fun U z=>z.1
  have hie:∃ e,es[i]?=some e:=⟨_,Array.getElem?_eq_getElem (by rw [<- T.sz]; exact (Array.getElem?_eq_some_iff.mp h3).1)⟩;obtain ⟨e,hi⟩:=hie;have GL:e∈es.toList:=J8 (Ja▸hi);obtain ⟨DF,c,rfl,hc⟩:=he e GL;refine yW (fun Q' h=>y1 hk (fun v hv=>?_) h) ?_
  ·obtain ⟨e,EF,rfl⟩:=zA7 hv;rw [Array.toList_filter] at EF;obtain ⟨ks2,c2,rfl,E4⟩:=he e (mem_filter.mp EF).1;exact ⟨ks2,c2,rfl,E4⟩
  refine hi.symm▸zC1 (wpAny_holding (wpAny_eqBool_tuple hu hc hk ?_));refine zC1 (wpAny_setState_of ho hd D1 ?_);by_cases q:DF=ks
  ·subst q;exact wpAny_ite_true (decide_eq_true (decide_eq_true rfl)) (zC2 (EX ⟨_,GL,c,rfl,hc⟩))
  ·refine wpAny_ite_false (decide_eq_false (eq_false_iff.mp (decide_eq_false q))) ?_;have hs:t.slot (pos t.mask (tupleKeyHash kd ks) (n+n1)).j=.live i:=by
    rcases slot_is T.dm T.rise (pos t.mask (tupleKeyHash kd ks) (n+n1)).j with ⟨i',e1,e2⟩ | ⟨e1,_⟩
    ·rw [e2,mW T.rise e1 h3]
    ·exact absurd h3 (e1 i)
   refine (wf t).symm▸?_;dsimp only;refine ((if_pos rfl).trans hs).symm▸?_;dsimp only;refine hi.symm▸?_;refine zC1 (wpAny_isSame_ref_self (zC1 (zC2 ?_)));refine wpAny_ite_false (decide_eq_false (eq_false_iff.mp (decide_eq_false q))) ?_;have Cp:d - (n1+1) < d:=sub_lt (J5 (zero_le _) Cm) (succ_pos _);refine ih (d - (n1+1)) Cp Cd (n+n1+1) _ (J6 Cp (Jd Gc)) (by rw [show n+n1+1+(d - (n1+1))=n+d from (add_assoc n (n1+1) _).trans (congrArg (n + ·) (add_sub_cancel' Cm))]; exact hem) rfl fun n' z=>?_;by_cases c':n' < n+n1
   ·exact Ec n' c'
   ·rw [le_antisymm (Jd z) (le_of_not_lt c')];refine ⟨i,h3,fun e ee=>?_⟩;rw [hi] at ee; (injection ee with ee; subst ee);rintro ⟨c2,E4,HJ⟩;exact q (hc.inj (Value.ref.inj (congrArg Prod.snd E4)▸HJ))
end
section
variable {prog:Program} {w:World} {A:Around} {E:Value->Shared->Prop} {s:Shared}
def oK (hk:IsTupleKey (av prog w) s.heap (.inr x :: ks) b) (h:Q false s):wpAny (model prog w) A (hashByValue 8 (.ref b)) Q E s:=by
 have hT:=hk.typeIs;obtain ⟨o,items,n,ho,_,hd,hi⟩:=hk;unfold hashByValue;refine zC1 (wpAny_specialOf hT F.slot_tuple_hash.lookup ?_);dsimp only;refine zC1 (wpAny_seqItems ho hd ?_);obtain ⟨l⟩:=items;cases hi with
 | cons hv _=>
  obtain ⟨t,rfl⟩:=Value.isStrOf_shape hv;rw [<- forIn_toList];refine zC1 ?_;refine (?_:wpAny _ _ (forIn (_ :: _) _ _) _ _ _);rw [forIn_cons];exact (bPu (zC2 (wpAny_pure h)))
inductive TS (h:Heap) (S:Addr) (es:Array (Int×Value)) (L:Bool):Prop
 | mk (o:Obj) (ep:Nat) (t:SetTable) (ho:h.get? S=some o) (C6:o.ExactSet) (hd:o.data=.set es ep t) (T:Tab t es) (hr:es.size * 5 < t.mask * 3) (hl:t.led=L):TS h S es L
theorem TS.to {h h':Heap} {S:Addr} {es:Array (Int×Value)} {L:Bool} (x:TS h S es L) (e:h'.get? S=h.get? S):TS h' S es L:=x.casesOn fun o ep t ho C6 hd T hr hl=>⟨o,ep,t,e.trans ho,C6,hd,T,hr,hl⟩
def mB:(insertAt es p x).toList.Perm (x :: es.toList):=by
 unfold insertAt;rw [toList_append,toList_push,toList_extract,toList_extract,append_assoc,List.extract_eq_take_drop,List.extract_eq_take_drop,drop_zero,sub_zero,<- zB3,<- length_drop,take_length];exact List.perm_middle.trans (.cons _ (.of_eq (List.take_append_drop p es.toList)))
theorem Tab.off (T:Tab t es):Tab { t with plain:=false } es:=⟨T.msk,T.dm,T.sz,T.rise,T.le,T.way⟩
def zv {t:SetTable} (h:t.plain=false):{ t with plain:=false }=t:=by cases t; subst h; rfl
def w0 (T:Tab t es):t.tooFull=decide (t.mask * 3<=es.size * 5):=by
 unfold SetTable.tooFull SetTable.fill;rw [T.sz,T.dm]; rfl
def bE [Decidable c] (h:¬ c) (x:wpAny M A e Q E s):wpAny M A (if c then t else e) Q E s:=by rw [if_neg h]; exact x
def wy (h:n * 5 < c) (q:c<=(n+1) * 5) (h1:c<=(k+1) * 5) (h2:k * 5 < c):n=k:=le_antisymm (Jd (lt_of_mul_lt_mul_right (J6 h h1))) (Jd (lt_of_mul_lt_mul_right (J6 h2 q)))
def wT (hm:Msk m) (h:n * 5 < m * 3) (q:m * 3<=(n+1) * 5) (hn:n < 4500):∃ m',sizeAbove (grown (n+1))=m' + 1/\Msk m'/\(n+1) * 5 < m' * 3/\m' + 1<=sizeLine:=by
 rcases hm with rfl | rfl | rfl | rfl | rfl | rfl
 ·obtain rfl:n=4:=wy h q (by decide) (by decide);exact ⟨31,by decide,.inr (.inl rfl),by decide,by decide⟩
 ·obtain rfl:n=18:=wy h q (by decide) (by decide);exact ⟨127,by decide,.inr (.inr (.inl rfl)),by decide,by decide⟩
 ·obtain rfl:n=76:=wy h q (by decide) (by decide);exact ⟨511,by decide,.inr (.inr (.inr (.inl rfl))),by decide,by decide⟩
 ·obtain rfl:n=306:=wy h q (by decide) (by decide);exact ⟨2047,by decide,.inr (.inr (.inr (.inr (.inl rfl)))),by decide,by decide⟩
 ·obtain rfl:n=1228:=wy h q (by decide) (by decide);exact ⟨8191,by decide,.inr (.inr (.inr (.inr (.inr rfl)))),by decide,by decide⟩
 ·exact absurd (zB1 q (mul_le_mul_right 5 hn)) (by decide)
def BA (h:a * 5 < b * 3):a<=b:=le_of_lt (lt_of_mul_lt_mul_right (J6 h (mul_le_mul_left b (by decide:3<=5))))
def sA (hm:Msk m) (h:N < 10 * turns m):N < 100000:=by rcases hm with rfl | rfl | rfl | rfl | rfl | rfl <;> exact J6 h (by decide)
noncomputable def qo (S:Addr) (is:Array (Int×Value)) (t:SetTable) (n:Nat):Sem Bool:=do
 storeSet S is t
 if !false&&t.tooFull then setRelay S (SetTable.grown n)
 return true
def qV {h:Heap} {S:Addr} {o:Obj} {es is:Array (Int×Value)} {ep:Nat} {t t1:SetTable} (ho:h.get? S=some o) (hd:o.data=.set es ep t):(h.update S (putSet is t1)).get? S=some { o with data:=.set is (ep+1) t1 }:=
 putSet_of _ _ hd▸get?_update_self (putSet is t1) ho (by rw [putSet_of _ _ hd]; rfl)
def rM {S:Addr} {o:Obj} {es is:Array (Int×Value)} {ep:Nat} {t t1:SetTable} {L:Bool} {Q:Bool->Shared->Prop} (ho:s.heap.get? S=some o) (C6:o.ExactSet) (hd:o.data=.set es ep t) (T:Tab t1 is) (CN:t1.led=L)
  (hs:is.size=es.size+1) (hr:es.size * 5 < t1.mask * 3) (hn:es.size < 4500) (Cq:∀ h' Ds,SameBut S s.heap h'->TS h' S Ds L->Ds.toList.Perm is.toList->Q true { s with heap:=h' }) :
  wpAny (model prog w) A (qo S is t1 (es.size+1)) Q E s:=by
 have hz:is.size<=4500:=hs▸hn;refine zC1 (wpAny_storeSet_of ho hd ?_ (zB1 hz (by decide)));have GN:(s.heap.update S (putSet is t1)).get? S=some { o with data:=.set is (ep+1) t1 }:=qV ho hd;have sb1:SameBut S s.heap (s.heap.update S (putSet is t1)):=.update ..;have Gc:=w0 T;by_cases q:t1.mask * 3<=is.size * 5
 ·refine wpAny_ite_true (c:=(!false&&t1.tooFull)=true) (by rw [Gc,decide_eq_true q]; rfl) ?_;obtain ⟨m',e1,e2,e3,e4⟩:=wT T.msk hr (hs▸q) hn;refine zC1 (zC1 (wpAny_setState_of GN rfl (T.fits (hs▸lt_of_mul_lt_mul_right (J6 hr (mul_le_mul_left _ (by decide:3<=5))))) ?_));refine bE (c:=sizeAbove (grown (es.size+1)) > sizeLine) (e1▸not_lt.mpr e4) ?_;obtain ⟨t3,CK,e5,e6,e7,T3,_⟩:=wG (es:=is) e2 (hs▸BA e3) t1.finger (movedTo t1 m') t1.led t1.plain;have e9:t3.led=t1.led:=by
   obtain ⟨a,_,e5⟩:=bind_eq_some_iff.mp e5;cases e5; rfl
  refine zC1 ?_;rw [show t1.relaid (is.map (·.1)) (grown (es.size+1))=_ from (congrArg (fun z=>laid (z - 1) t1.finger (movedTo t1 (z - 1)) t1.led t1.plain _) e1).trans e5];have e8:(CK.filterMap (is[·]?)).size=is.size:=by rw [<- zB3,e7.length_eq,zB3]
  refine bE (by rw [e8,bne_self_eq_false]; exact Bool.false_ne_true) (zC2 ?_);refine wpAny_storeSet_of GN rfl (zC2 ?_) (zB1 (e8▸hz) (by decide));exact Cq _ _ (sb1.trans (.update _ S (putSet (CK.filterMap (is[·]?)) t3))) ⟨_,_,_,qV GN rfl,C6,rfl,T3,by rw [e8,hs,e6]; exact e3,e9.trans CN⟩ e7
 ·exact wpAny_ite_false (c:=(!false&&t1.tooFull)=true) (by rw [Gc,decide_eq_false q]; rfl) ((bPu (zC2 (Cq _ is sb1 ⟨_,_,_,GN,C6,rfl,T,not_le.mp q,CN⟩ (.refl _)))))
def ox {S b:Addr} {es:Array (Int×Value)} {L:Bool} {ks:List Sc} {x:Str} {Q:Bool->Shared->Prop} (hu:A.units < cLine) (T:TS s.heap S es L) (he:yM (av prog w) s.heap es.toList) (hk:IsTupleKey (av prog w) s.heap (.inr x :: ks) b) (hn:es.size < 4500)
  (HB:(∃ e∈es.toList,IsK (av prog w) s.heap (.inr x :: ks) e)->∀ tk,Q false { s with toks:=tk })
  (Cq:∀ h' Ds tk,SameBut S s.heap h'->TS h' S Ds L->Ds.toList.Perm ((tupleKeyHash (av prog w) (.inr x :: ks),.ref b) :: es.toList)->(∀ e∈es.toList,¬ IsK (av prog w) s.heap (.inr x :: ks) e)->Q true { s with heap:=h',toks:=tk }) :
  wpAny (model prog w) A (setAdd S (.ref b)) Q E s:=by
 obtain ⟨o,ep,t,ho,C6,hd,T,hr,hL⟩:=T;have hf:=BA hr;have D1:=T.fits hf;refine wpAny_holding (zC1 (wpAny_pyHash_tuple hu hk ?_));generalize s.toks+_=tk0;refine wpAny_holding (zC1 (wpAny_setState_of ho hd D1 ?_));refine bE (c:=byScan (.ref b) es=true) Bool.false_ne_true ?_;obtain ⟨N,hN,hg⟩:=T.gap (T.sz▸hf) (tupleKeyHash (av prog w) (.inr x :: ks)) 0;rw [vi] at hg;refine zC1 (rQ (kd:=av prog w) (s:={ s with toks:=tk0 }) (n:=0) (stand:=none) hu ho hd T hf he hk (fun q=>zC2 (HB q _)) (fun j hw hj hl HE=>?_) N 100000 (sA T.msk hN) hg rfl fun U q=>absurd q (not_lt_zero _));refine zC1 (wpAny_setState_of ho hd D1 ?_);obtain ⟨em,GZ,T1⟩:=T.put (x:=Value.ref b) hw hj hl;have key:∀ tk,wpAny (model prog w) A (qo S (insertAt es (t.put j).2 (tupleKeyHash (av prog w) (.inr x :: ks),.ref b)) { (t.put j).1 with plain:=false } (es.size+1)) Q E { s with toks:=tk }:=fun tk=>
  rM (s:={ s with toks:=tk }) ho C6 hd T1.off hL (T1.sz.symm.trans GZ) (em.symm▸hr) hn fun h' Ds sb ts pe=>Cq h' Ds tk sb ts (pe.trans mB) HE
 cases hpt:t.plain with
 | false=>exact wpAny_ite_false (c:=(t.put j).1.plain=true) (decide_eq_false (by refine (?_:¬ t.plain=true); rw [hpt]; exact Bool.false_ne_true)) ((bPu (zv (t:=(t.put j).1) hpt▸key tk0)))
 | true=>exact wpAny_ite_true (c:=(t.put j).1.plain=true) (decide_eq_true hpt) (zC1 (oK (s:={ s with toks:=tk0 }) hk (key _)))
end
end Mine
end
noncomputable section
namespace Mine
open PySem PySem.Calls PyProof.Rows
section
variable {prog:Program} {w:World} {A:Around} {E:Value->Shared->Prop} {s:Shared}
noncomputable abbrev fj (w:World):Obj:={ cls:=.type "set",dict:=none,data:=.set #[] 0 (.fresh 0 0 (!w.params.followText "set-order")) }
def jz (a:Value) (h:Q₁ (.ref s.heap.objs.size) { s with heap:=s.heap.push (fj w) }) :
  codeAny (model prog w) A (.call (.builtin "set.__new__") ⟨[.type "set",a],[]⟩) (wants Q₁ E) s:=by
 refine codeAny_of_tree ?_
 (refine (?_:wpAny _ A.in1 (do checkBuiltinCall "set.__new__" ⟨[.type "set",a],[]⟩; again (.builtin "set.__new__" ⟨[.type "set",a],[]⟩)) _ _ s))
 refine zC1 (wpAny_of_eq (PySem.F.newCall_set_1 a) (zC2 ⟨plainId_quiet PySem.F.plain_set_new _,codeAny_builtin PySem.F.entry_set_new ?_⟩));rw [under_plainId PySem.F.plain_set_new _];unfold Builtin.«set.__new__» Builtin.Frozenset.newClass;have FS:=sub_set_self;obtain ⟨hp,g,d,tk,os⟩:=s;dsimp only
 wp_walk
 refine wpAny_askSetting (zC2 ?_);dsimp only;simp only [newObj];refine zC1 (wpAny_alloc (zC2 ?_));exact wpAny_pure h
structure Fills (prog:Program) (w:World) (h₀:Heap) (S:Addr) (P:Nat->Value->Prop) (n:Nat) (Z:Nat->Heap->Prop):Prop where
 frame:∀ i h h',Z i h->h'.get? S=h.get? S->Z i h'
 live:∀ i h,Z i h->aI h S
 start:∀ h:Heap,h.get? S=some (fj w)->Z 0 h
 add:∀ i v (s:Shared) (A:Around),A.units < cLine->i < n->P i v->ah h₀ s.heap->Z i s.heap->∀ (Q:Bool->Shared->Prop) (E:Value->Shared->Prop),
  (∀ b h' tk,SameBut S s.heap h'->Z (i+1) h'->Q b { s with heap:=h',toks:=tk })->wpAny (model prog w) A (setAdd S v) Q E s
def nz {l:List Addr} (k:ah h₀ h) (hl:∀ b∈l,h₀.get? b=none) (m:∀ b o,b∉l->h.get? b=some o->h'.get? b=some o):ah h₀ h':=fun b o e=>m b o (fun q=>by rw [hl b q] at e; (injection e; done)) (k b o e)
def tB {R:Result->Shared->Prop} {I S:Addr} {fp wr:List Addr} {P:Nat->Value->Prop} {St Z:Nat->Heap->Prop} {n:Nat} {h₀:Heap} (W:Walks prog w A.in1 I fp wr n P St) (hu:A.in1.units < cLine) (Gk:S∉fp) (hS0:h₀.get? S=none) (hw:∀ b∈wr,h₀.get? b=none)
  (Fl:Fills prog w h₀ S P n Z):∀ (k i:Nat) (s:Shared),n - i=k->i<=n->St i s.heap->Z i s.heap->ah h₀ s.heap ->
   (∀ h' tk,ah h₀ h'->Z n h'->R (.ok (.ret .none)) { s with heap:=h',toks:=tk }) ->
   codeAny (model prog w) A (.builtin "set.update.loop" ⟨[.ref S,.ref I],[]⟩) R s:=by
 have Gj:S∉wr:=fun h=>Gk (W.sub _ h);intro k;induction k with
 | zero=>
  intro i s hk hi CZ hZ hK hR;obtain rfl:=show i=n from le_antisymm hi (Nat.sub_eq_zero_iff_le.mp hk)
  refine codeAny_builtin PyProof.Rows.F.entry_set_update_loop ?_;rw [under_plainId PyProof.Rows.F.plain_set_update_loop _];refine (?_:wpAny _ A.in1 (pyNext (.ref I) >>= _) _ _ s);refine zC1 (W.done s _ _ CZ fun h' tk hm=>?_);refine (?_:wpAny _ A.in1 (ret Value.none) _ _ _);obtain ⟨o,ho⟩:=Fl.live _ _ hZ;exact zC2 (hR h' tk (nz hK hw hm) (Fl.frame _ _ _ hZ ((hm S o Gj ho).trans ho.symm)))
 | succ k ih=>
  intro i s hk hi CZ hZ hK hR;have Cm:i < n:=Nat.lt_of_sub_eq_succ hk;refine codeAny_builtin PyProof.Rows.F.entry_set_update_loop ?_;rw [under_plainId PyProof.Rows.F.plain_set_update_loop _];refine (?_:wpAny _ A.in1 (pyNext (.ref I) >>= _) _ _ s);refine zC1 (W.item i s _ _ Cm CZ fun v Cs Ft hP C7 hm=>?_);obtain ⟨o,ho⟩:=Fl.live _ _ hZ;have hl1:=hm S o Gj ho;have hK1:=nz hK hw hm;refine (?_:wpAny _ A.in1 (holding [v] (setAdd S v) >>= _) _ _ _);refine zC1 (wpAny_holding (Fl.add i v _ _ hu Cm hP hK1 (Fl.frame _ _ _ hZ (hl1.trans ho.symm)) _ _ fun b h' tk GI hZ'=>?_));have hK2:ah h₀ h':=fun b o e=>by
   by_cases q:b=S
   ·subst q; rw [hS0] at e; (injection e; done)
   ·exact (GI.2 b q).trans (hK1 b o e)
  refine zC2 ⟨plainId_quiet PyProof.Rows.F.plain_set_update_loop _,ih (i+1) { s with heap:=h',toks:=tk } (congrArg Nat.pred hk) Cm (W.frame _ _ _ C7 fun b hb o e=>(GI.2 b fun q=>Gk (q▸hb)).trans e) hZ' hK2 hR⟩
def AE (prog:Program) (w:World) (h₀:Heap) (x:Value) (n:Nat) (P:Nat->Value->Prop):Prop:=∀ (s:Shared) (A:Around) (Q:Value->Shared->Prop) (E:Value->Shared->Prop),ah h₀ s.heap ->
 (∀ I fp wr St h',ah s.heap h'->(∀ b∈wr,s.heap.get? b=none)->(∀ b∈fp,s.heap.get? b=none\/aI h₀ b)->(∀ A:Around,A.handled=none->Walks prog w A I fp wr n P St)->St 0 h'->Q (.ref I) { s with heap:=h' })->wpAny (model prog w) A (pyIter x) Q E s
set_option maxHeartbeats 3200000 in
def je {x:Value} {T:String} {n:Nat} {P:Nat->Value->Prop} {Z:Nat->Heap->Prop} {Q:Value->Shared->Prop} (hh:A.handled=none) (hu:A.units+100 < cLine) (hT:∀ s':Shared,ah s.heap s'.heap->s'.TypeIs x T) (FV:isSubtype (.type T) (.type "set")=pure false) (hs2:isSubtype (.type T) (.type "frozenset")=pure false)
  (Cr:(Value.type T==Value.type "dict")=false) (go:AE prog w s.heap x n P) (Fl:Fills prog w s.heap s.heap.objs.size P n Z)
  (h:∀ (h':Heap) (tk:Nat),Z n h'->ah s.heap h'->Q (.ref s.heap.objs.size) { s with heap:=h',toks:=tk }):wpAny (model prog w) A (call (.type "set") [x]) Q E s:=by
 obtain ⟨c,tl,hmro⟩:=PySem.F.called_set.mro;have hmade:=PySem.F.called_set.made;have FS:=PySem.F.called_set.sub;refine wpAny_call (codeAny_of_tree ?_);refine (?_:wpAny _ _ (callAny (.type "set") _) _ _ _);refine zC2 ⟨Code.quiet_builtin _ (by decide +kernel),codeAny_builtin PySem.F.entry_type_call ?_⟩;rw [Around.under_plain (weight_type_call_type "set" [x] []) rfl];have h1:=PySem.F.called_set.notType;have h2:=PySem.F.called_set.canCreate;have hct:=PySem.F.typeCall_set_1 x
 repeat (any_goals (first | assumption | wp_step))
 refine codeAny_mono (jz x (E:=E) (Q₁:=fun obj s₁=>obj=.ref s.heap.objs.size/\s₁={ s with heap:=s.heap.push (fj w) }) ⟨rfl,rfl⟩) fun r s₁ hr=>?_;cases r with
 | error e=>exact hr
 | ok fl=>
  cases fl with
  | ret obj=>
   obtain ⟨rfl,rfl⟩:=hr;have hS:(s.heap.push (fj w)).get? s.heap.objs.size=some (fj w):=J0 _ rfl;have hT1:Shared.TypeIs { s with heap:=s.heap.push (fj w) } (.ref s.heap.objs.size) "set":=⟨_,hS,rfl⟩;have E0:=PySem.F.called_set.init.lookup;have hbi:=PySem.F.called_set.init.bind (.ref s.heap.objs.size);have hTx:=hT { s with heap:=s.heap.push (fj w) } (ae _ _)
   repeat (any_goals (first | assumption | wp_step))
   refine codeAny_mono (codeAny_call_builtin (R:=wants (fun r w'=>r=.none/\∃ h' tk,w'={ s with heap:=h',toks:=tk }/\Z n h'/\ah s.heap h') E) PySem.F.called_set.init.plain PySem.F.entry_set_init (check_set_init_1 hT1 ?_)) fun He w' DT=>?_
   ·unfold Builtin.«set.__init__» noKeywords Builtin.Frozenset.updateFrom;generalize hPI:pyIter=PI
    wp_walk
    subst hPI;refine go _ _ _ _ (ae _ _) fun I fp wr St h' hk hw hf W CZ=>?_;refine zC1 (wpAny_runValue ?_);have hh3:A.in1.in1.in1.handled=none:=by simp [hh]
    have n0:s.heap.get? s.heap.objs.size=none:=ag _;refine tB (W _ hh3) (show A.units+3 < cLine from J5 (add_le_add_left (by decide) _) hu) (fun q=>?_) n0 (fun b q=>aH (ae _ _).live (hw b q)) Fl (n - 0) 0 _ rfl (zero_le _) CZ (Fl.start _ (hk _ _ hS)) ((ae _ _).trans hk) ?_
    ·rcases hf _ q with q | ⟨o,q⟩
     ·rw [hS] at q; (injection q; done)
     ·rw [n0] at q; (injection q; done)
    ·intro Eo tk Di hz;refine (?_:wpAny _ _ _ _ _ _);refine zC2 ?_;refine (?_:wpAny _ _ (ret Value.none) _ _ _);exact zC2 ⟨rfl,Eo,tk,rfl,hz,Di⟩
   ·cases He with
    | error e=>exact DT
    | ok fl₂=>
     cases fl₂ with
     | ret r=>
      obtain ⟨rfl,h',tk,rfl,hz,Di⟩:=DT
      repeat (any_goals (first | assumption | wp_step))
      exact h _ _ hz Di
     | _=>exact DT.elim
  | _=>exact hr.elim
end
end Mine
end
noncomputable section
namespace Mine
open PySem PySem.Calls PyProof.Rows PySem.W
section
variable {prog:Program} {w:World} {A:Around} {E:Value->Shared->Prop} {s:Shared} {h₀:Heap}
def j7 (hl:h₀.IsList l items):AE prog w h₀ (.ref l) items.size (fun i v=>items[i]?=some v):=fun s A Q E hk hQ=>by
 have hl1:s.heap.IsList l items:=hl.at (hk l);have Cm:l≠s.heap.objs.size:=by obtain ⟨o,ho,_⟩:=hl1; exact aN ho
 refine wpAny_pyIter_list hl1 (hQ _ _ _ _ _ (ae _ _) (fun b q=>?_) (fun b q=>?_) (fun A' hh=>Walks.list hh _ l Cm items) ⟨⟨_,J0 _ rfl,rfl,rfl⟩,hl1.push _⟩)
 ·obtain rfl:=zA6 q; exact ag _
 ·rcases mem_cons.mp q with rfl | q
  ·exact .inl (ag _)
  ·obtain rfl:=zA6 q; obtain ⟨o,ho,_⟩:=hl; exact .inr ⟨o,ho⟩
def um:AE prog w h₀ (.str x t) x.cps.size (SignAt x):=fun s A Q E hk hQ=>by
 cases ha:x.cps.all (· < 128)
 ·exact wpAny_pyIter_wide ha (hQ _ _ _ _ _ (ae _ _) (fun b q=>by obtain rfl:=zA6 q; exact ag _) (fun b q=>by obtain rfl:=zA6 q; exact .inl (ag _)) (fun A' hh=>Walks.strWide hh _ x t) ⟨_,J0 _ rfl,rfl,rfl⟩)
 ·exact wpAny_pyIter_ascii ha (hQ _ _ _ _ _ (ae _ _) (fun b q=>by obtain rfl:=zA6 q; exact ag _) (fun b q=>by obtain rfl:=zA6 q; exact .inl (ag _)) (fun A' hh=>Walks.strAscii hh _ x t) ⟨_,J0 _ rfl,rfl,rfl⟩)
def gH {K:Type} [DecidableEq K] {knd:KeyKind prog w K} {S:Addr} {P:Nat->Value->Prop} {ks:List K} (hP:∀ i v,P i v->∃ k,ks[i]?=some k/\knd.is k v=true/\v.scannable=true) (nd:ks.Nodup) (hn:ks.length+1 < scanBound) :
  Fills prog w h₀ S P ks.length (fun i h=>h.SetOf knd S (fun k=>decide (k∈ks.take i)) i) where
 frame:=fun i h h' q e=>q.elim fun o q=>q.elim fun es q=>q.elim fun ep q=>q.elim fun t q=>⟨o,es,ep,t,e.trans q.1,q.2⟩
 live:=fun i h q=>q.elim fun o q=>q.elim fun U q=>q.elim fun U q=>q.elim fun U q=>⟨o,q.1⟩
 start:=fun h ho=>SetOf_congr ((setObjOf_fresh (knd:=knd) _).setOf ho (by unfold scanBound; exact succ_pos _)) (fun U=>(decide_eq_false not_mem_nil).symm) rfl
 add:=fun i v s A hu hi hp hk hZ Q E hQ=>by
  obtain ⟨k,ek,C9,hsc⟩:=hP i v hp;have Cq:k∉ks.take i:=fun q=>by
   obtain ⟨j,hj⟩:=getElem?_of_mem q;have HK:j < i:=J6 (List.getElem?_eq_some_iff.mp hj).1 (List.length_take_le _ _);rw [List.getElem?_take_of_lt HK] at hj;exact absurd ((getElem?_inj (lt_trans HK hi) nd).mp (hj.trans ek.symm)) (ne_of_lt HK)
  unfold setAdd;refine wpAny_holding (zC1 (knd.pyHash C9 (wpAny_setAddHashed_of (s:={ s with toks:=s.toks+1 }) C9 hsc hZ (J5 (add_le_add_right (le_of_lt hi) 1) hn) fun h' GI hS=>hQ _ h' _ GI (SetOf_congr hS (fun k'=>?_) ?_))))
  ·rw [take_add_one,ek];by_cases q:k'=k <;> simp [q]
  ·rw [if_neg (by rw [decide_eq_false Cq]; exact Bool.false_ne_true)]
def wD {K:Type} [DecidableEq K] {knd:KeyKind prog w K} {a:Addr} {S:K->Bool} {n:Nat} {Q:Value->Shared->Prop} (hS:s.heap.SetOf knd a S n) (h:∀ t tk,Q (.int n t) { s with toks:=tk }):wpAny (model prog w) A (call (.builtin "len") [.ref a]) Q E s:=by
 obtain ⟨o,es,ep,t,ho,C6,hd,hel,hmem,hb,hf,hn⟩:=hS;subst hn;refine Calls.call_function_entry kind_len plain_len entry_len (args_len1 _) ?_;exact wpAny_len_body_set ho C6 hd hf (Int.lt_trans (ofNat_lt.mpr hb) (by decide)) (h _ _)
end
def kOf_inj (hx:aG x=true) (hy:aG y=true) (e:kOf x=kOf y):x=y:=by
 cases x <;> first | ((injection hx; done); done) | (cases y <;> first | ((injection hy; done); done) | ((first | (injection e; done) | (injection e with e; subst e)); done) | ((injection e with e; subst e); rfl))
theorem nA:∀ {l m:List V},l.all aG=true->m.all aG=true->l.map kOf=m.map kOf->l=m
 | [],[],_,_,_=>rfl
 | [],_ :: _,_,_,e=>nomatch e
 | _ :: _,[],_,_,e=>nomatch e
 | x :: l,y :: m,hl,hm,e=>by
  have hl:=zA2 hl;have hm:=zA2 hm;have e:=zA5 e;rw [kOf_inj hl.1 hm.1 e.1,nA hl.2 hm.2 e.2]
section
variable {g:Gl} {bad:Addr->Prop} {h h':Heap} {v:Value} {x:V} {vs ws:List Value} {l m:List V}
def uh (r:RpAll g bad h vs l):l.all aG=true->ItemsAre (av g.prog g.w) (l.map kOf) vs:=
 r.ind (D:=fun vs l=>l.all aG=true->ItemsAre (av g.prog g.w) (l.map kOf) vs) (fun U=>.nil) fun v vs x l r U ih q=>by
  have q:=zA2 q;refine .cons ?_ (ih q.2);cases r with
  | int i t=>exact (by simp [Value.isInt]:Value.isInt i (.int i t)=true)
  | str y t=>exact (by simp [Value.isStrOf]:Value.isStrOf y (.str y t)=true)
  | _=>(injection q.1; done)
def zL (r:Rp g bad h v (.tuple l)) (q:l.all aG=true):∃ c,v=.ref c/\IsTupleKey (av g.prog g.w) h (l.map kOf) c:=
 r.tuple_elim fun a o vs n U ha hc hd hl=>⟨a,rfl,o,vs,n,ha,hc,hd,uh hl q⟩
def dQ (k:ah h h') (x:IsTupleKey (av g.prog g.w) h ks c):IsTupleKey (av g.prog g.w) h' ks c:=let ⟨o,vs,n,ho,r⟩:=x; ⟨o,vs,n,k _ _ ho,r⟩
theorem RpAll.of_mem (r:RpAll g bad h vs l):v∈vs->∃ y∈l,Rp g bad h v y:=r.ind (D:=fun vs l=>v∈vs->∃ y∈l,Rp g bad h v y) (fun q=>nM q) fun u vs y l r U ih q=>by
 rcases mem_cons.mp q with rfl | q
 ·exact ⟨y,.head _,r⟩
 ·obtain ⟨z,m,p⟩:=ih q; exact ⟨z,.tail _ m,p⟩
theorem RpAll.mem (r:RpAll g bad h vs l):x∈l->∃ u∈vs,Rp g bad h u x:=r.ind (D:=fun vs l=>x∈l->∃ u∈vs,Rp g bad h u x) (fun q=>nM q) fun u vs y l r U ih q=>by
 rcases mem_cons.mp q with rfl | q
 ·exact ⟨u,.head _,r⟩
 ·obtain ⟨z,m,p⟩:=ih q; exact ⟨z,.tail _ m,p⟩
theorem RpAll.perm (p:ws.Perm vs):∀ {l},RpAll g bad h vs l->∃ m,m.Perm l/\RpAll g bad h ws m:=by
 induction p with
 | nil=>exact fun r=>⟨_,.refl _,r⟩
 | cons v _ ih=>
  intro l r;cases r with
  | cons a r=>obtain ⟨m,p,q⟩:=ih r; exact ⟨_,.cons _ p,.cons a q⟩
 | swap v u _=>
  intro l r;cases r with
  | cons a r=>cases r with
   | cons b r=>exact ⟨_,.swap _ _ _,.cons b (.cons a r)⟩
 | trans _ _ ih1 ih2=>
  intro l r;refine yk fun Z4 FL=>?_;obtain ⟨m,p,r⟩:=ih2 r;obtain ⟨n,p',r⟩:=ih1 r;refine FL ?_;exact ⟨n,p'.trans p,r⟩
def mK {C:V->Prop} (e:oh x=true) (k:∀ t l,(PyData.str t :: l).all aG=true->C (.tuple (.str t :: l))):C x:=by
 revert e
 cases x with
 | tuple l=>cases l with
  | nil=>exact fun e=>nB e
  | cons y l=>cases y with
   | str t=>exact fun e=>k _ _ e
   | _=>exact fun e=>nB e
 | _=>exact fun e=>nB e
def fz {C:V->Prop} (e:jo x=true) (k:∀ y l,(y :: l).all aG=true->C (.tuple (y :: l))):C x:=by
 revert e
 cases x with
 | tuple l=>cases l with
  | nil=>exact fun e=>nB e
  | cons y l=>exact fun e=>k _ _ e
 | _=>exact fun e=>nB e
def cP (e:oh x=true):jo x=true:=mK (C:=fun x=>jo x=true) e fun t l q=>q
def eD (e:jo x=true) (r:Rp g bad h v x):∃ c,v=.ref c/\IsTupleKey (av g.prog g.w) h (au x) c:=fz (C:=fun x=>Rp g bad h v x->∃ c,v=.ref c/\IsTupleKey (av g.prog g.w) h (au x) c) e (fun y l q r=>zL r q) r
def keys_inj (e:jo x=true) (e':jo y=true) (q:au y=au x):y=x:=
 fz (C:=fun x=>au y=au x->y=x) e (fun t l hl q=>fz (C:=fun y=>au y=au (.tuple (t :: l))->y=.tuple (t :: l)) e' (fun t' l' CP q=>congrArg _ (nA CP hl q)) q) q
def mU (e:jo x=true):∃ k ks,au x=k :: ks:=fz (C:=fun x=>∃ k ks,au x=k :: ks) e fun t l U=>⟨kOf t,l.map kOf,rfl⟩
def r8 (e:oh x=true):∃ t ks,au x=.inr t :: ks:=mK (C:=fun x=>∃ t ks,au x=.inr t :: ks) e fun t l U=>⟨t,l.map kOf,rfl⟩
def px {α:Type} {i:Nat} {a:α} {C:Prop} (e:(#[]:Array α)[i]?=some a):C:=by simp at e
def tab0 {L:Bool}:Tab (SetTable.fresh 0 0 L) (#[]:Array (Int×Value)):=⟨.inl rfl,rfl,rfl,fun U U U U U e=>px e,fun U U e=>px e,fun U U U e=>px e⟩
def Am (g:Gl) (bad:Addr->Prop) (h₀:Heap) (S:Addr) (l:List V) (i:Nat) (h:Heap):Prop:=
 ∃ es r,TS h S es (!g.w.params.followText "set-order")/\yM (av g.prog g.w) h₀ es.toList/\RpAll g bad h₀ (es.toList.map (·.2)) r/\r.Nodup/\∀ y,y∈r ↔ y∈l.take i
def mT {es:Array (Int×Value)} {r:List V} (q:RpAll g bad h (es.toList.map (·.2)) r):es.size=r.length:=by
 have:=q.length;rwa [zA4,zB3] at this
def oN {S:Addr} {vs:Array Value} (r:RpAll g bad h vs.toList l) (hw:∀ x∈l,oh x=true) {few:List V} (Fo:∀ x∈l,x∈few) (hn:few.length < 4500):Fills g.prog g.w h S (fun i v=>vs[i]?=some v) vs.size (Am g bad h S l) where
 frame:=fun i h h' q e=>q.elim fun es q=>q.elim fun r q=>⟨es,r,q.1.to e,q.2⟩
 live:=fun i h q=>q.elim fun es q=>q.elim fun r q=>q.1.casesOn fun o U U ho U U U U U=>⟨o,ho⟩
 start:=fun h ho=>⟨#[],[],⟨_,_,_,ho,⟨rfl,rfl,rfl⟩,rfl,tab0,Nat.zero_lt_succ 20,rfl⟩,fun e m=>(nM m),.nil,.nil,fun y=>⟨fun q=>(nM q),fun q=>(nM q)⟩⟩
 add:=fun i v s A hu hi hp hk hZ Q E hQ=>by
  refine hZ.elim fun es GB=>GB.elim fun R Ie=>Ie.elim fun T Ia=>Ia.elim fun he H'=>H'.elim fun hr GA=>GA.elim fun hd hm=>?_;have hsz:=r.length;rw [zB3] at hsz;obtain ⟨x,hx⟩:∃ x,l[i]?=some x:=⟨_,J9 (hsz▸hi)⟩;obtain ⟨v',ev,rv⟩:=r.get hx;replace ev:=hp▸(Ja)▸ev;(injection ev with ev; subst ev);have GH:=hw x (J8 hx);obtain ⟨c,rfl,k⟩:=eD (cP GH) rv;obtain ⟨t,ks,eh⟩:=r8 GH;have FI:∀ y,y∈l.take (i+1) ↔ y∈R\/y=x:=fun y=>by rw [take_add_one,hx,mem_append,hm]; simp
  have EF:yM (av g.prog g.w) s.heap es.toList:=fun e me=>let ⟨ks,c,q,z⟩:=he e me; ⟨ks,c,q,dQ hk z⟩;have inR:x∈R ↔ ∃ e∈es.toList,IsK (av g.prog g.w) s.heap (.inr t :: ks) e:=by
   refine eh▸?_;constructor
   ·intro q;obtain ⟨u,mu,ru⟩:=hr.mem q;obtain ⟨e,me,rfl⟩:=zA7 mu;obtain ⟨DF,c',rfl,z⟩:=he e me;obtain ⟨c2,e2,k2⟩:=eD (cP GH) ru;(injection e2 with e2; subst e2);obtain rfl:=z.inj k2;exact ⟨_,me,c',rfl,dQ hk z⟩
   ·rintro ⟨e,me,c',rfl,z⟩;obtain ⟨y,my,ry⟩:=hr.of_mem (mem_map.mpr ⟨_,me,rfl⟩);have hy:=hw y (mem_of_mem_take ((hm y).mp my));obtain ⟨c2,e2,k2⟩:=eD (cP hy) ry;(injection e2 with e2; subst e2);exact keys_inj (cP GH) (cP hy) ((dQ hk k2).inj z)▸my
  replace k:=eh▸k;refine ox hu T EF (dQ hk k) (by have:=hd.length_le_of_subset (l₂:=few) fun y q=>Fo y (mem_of_mem_take ((hm y).mp q)); rw [mT hr]; exact J5 this hn) (fun q tk=>?_) fun h' Ds tk sb T' p q=>?_
  ·have q:=inR.mpr q;exact hQ _ s.heap tk (.refl _ _) ⟨es,R,T,he,hr,hd,fun y=>by rw [FI]; exact ⟨.inl,fun z=>z.elim id fun z=>z▸q⟩⟩
  ·refine (RpAll.perm (p.map Prod.snd) (RpAll.cons rv hr)).elim fun R' Iv=>Iv.elim fun pR rR=>?_;refine hQ _ h' tk sb ⟨Ds,R',T',fun e me=>?_,rR,pR.nodup_iff.mpr (nodup_cons.mpr ⟨fun z=>?_,hd⟩),fun y=>?_⟩
   ·rcases mem_cons.mp (p.mem_iff.mp me) with rfl | me
    ·exact ⟨_,c,rfl,k⟩
    ·exact he e me
   ·obtain ⟨e,me,ie⟩:=inR.mp z; exact q e me ie
   ·rw [pR.mem_iff,FI,mem_cons]; exact or_comm
end
def bx:PySem.Slot "set_iterator" "__next__" "set_iterator.__next__":=
 .of (owner:="set_iterator") (n:="__next__") (by rw [typeLookup_type,builtinLookup_eq_fast]; kernel_rfl) (by decide +kernel) (by decide +kernel) (by decide +kernel)
  (by first | exact .inl (by decide +kernel) | exact .inr (by decide +kernel)) (by rw [isSubtype_type]; kernel_rfl)
def fZ:entryFor table "set_iterator.__next__"=some Builtin.«set_iterator.__next__»:=entryFor_of_tree (by kernel_rfl)
def gN (a:Value):argsOk "set_iterator.__next__" ⟨[a],[]⟩:=by unfold argsOk; kernel_rfl
def gZ:entryFor table "set.__iter__"=some Builtin.«frozenset.__iter__»:=entryFor_alias (id':="frozenset.__iter__") (by kernel_rfl) rfl (by decide +kernel) (by kernel_rfl)
section
variable {prog:Program} {w:World} {A:Around} {E:Value->Shared->Prop} {s:Shared}
noncomputable abbrev jl (ff:Value) (i:Nat) (S:Addr) (n ep:Nat):Obj:={ cls:=.type "set_iterator",data:=.fields #[ff,.int i 0,.ref S,.int n 0,.int ep 0] }
def qp {Q:Option Value->Shared->Prop} {P:Fin->Shared->Prop} (hh:A.handled=none) (h:∀ h',ah s.heap h'->Q none { s with heap:=h' }) :
  wpAny (model prog w) A.in1 (newExc (.type "StopIteration") [] >>= fun e=>raiseNew e) P (fun e s'=>wpAny (model prog w) A (isInstance e (.type "StopIteration") >>= fun b=>if b=true then pure none else throw e) Q E s') s:=by
 refine zC1 (zC1 (wpAny_newObj_type (zC1 (wpAny_of_eq (a:=Value.none) rfl (wpAny_newObj_type ?_ (by size_fits)))) (by size_fits)));refine wpAny_raiseNew_none (hh:A.in1.handled=none) ?_;refine zC1 (wpAny_isInstance (T:="StopIteration") (b:=true) ⟨_,J0 _ rfl,rfl⟩ isSubtype_stop ?_);exact zC2 (h _ ((ae _ _).trans (ae _ _)))
def eE (ho:s.heap.get? I=some { cls:=.type "set_iterator",data:=.fields vs }) (hj:j < vs.size) (h:∀ h',h'.get? I=some { cls:=.type "set_iterator",data:=.fields (vs.setIfInBounds j v) }->SameBut I s.heap h'->Q () { s with heap:=h' }) :
  wpAny (model prog w) A (setField (.ref I) j v) Q E s:=
 wpAny_setField ho rfl hj (h _ (get?_update_self _ ho rfl) (SameBut.update ..))
def fF {I S:Addr} {o:Obj} {es:Array (Int×Value)} {ep i:Nat} {t:SetTable} {ff f':Value} {r:Option Value} {Q:Option Value->Shared->Prop} (hh:A.handled=none)
  (hI:s.heap.get? I=some (jl ff i S es.size ep)) (ho:s.heap.get? S=some o) (hd:o.data=.set es ep t) (hf:t.fits es.size=true)
  (hn:(∃ (slot nx:Nat) (tk:Tok),ff=.int slot tk/\f'=.int nx 0/\∀ (A:Around) (Q:Option (Value×Nat)->Shared->Prop) (E:Value->Shared->Prop),Q (r.map fun x=>(x,nx)) s->wpAny (model prog w) A (setNext S slot i ep) Q E s) \/
   ∃ F ol items n',ff=.ref F/\f'=ff/\s.heap.get? F=some ol/\ol.data=.seq items n'/\((r=none/\items[i]?=none)\/∃ (p:Nat) (tk:Tok) (x:Value) (e:Int),r=some x/\items[i]?=some (.int p tk)/\es[p]?=some (e,x)))
  (hQ:∀ x,r=some x->∀ h',h'.get? I=some (jl f' (i+1) S es.size ep)->SameBut I s.heap h'->Q (some x) { s with heap:=h' })
  (hE:r=none->∀ h',(∀ b o,b≠I->s.heap.get? b=some o->h'.get? b=some o)->Q none { s with heap:=h' }):wpAny (model prog w) A (pyNext (.ref I)) Q E s:=by
 have hT:s.TypeIs (.ref I) "set_iterator":=⟨_,hI,rfl⟩;refine zC1 (wpAny_attempt (wpAny_callSpecial?_slot (name:=ofString "__next__") hT bx (wpAny_call_entry bx hT fZ ?_ (gN _))));refine (bPu ?_);refine zC1 (wpAny_fieldsOf hI rfl ?_);refine zC1 (zC1 (wpAny_setState_of ho hd hf (zC2 ?_)));refine bE (by simp) ?_;have ext:∀ {h1 h2:Heap},SameBut I s.heap h1->ah h1 h2->∀ b o,b≠I->s.heap.get? b=some o->h2.get? b=some o:=fun a k b o q e=>k b o ((a.2 b q).trans e);rcases hn with ⟨slot,nx,tk,rfl,rfl,hn⟩ | ⟨F,ol,items,n',rfl,rfl,F5,EG,hn⟩
 ·refine zC1 (hn _ _ _ ?_);cases r with
  | none=>exact zC1 (eE hI (by simp) fun h1 U sb=>qp hh fun h2 k=>hE rfl _ (ext sb k))
  | some x=>exact zC1 (eE hI (by simp) fun h1 g1 sb=>zC1 (eE g1 (by simp) fun h2 g2 Hc=>zC2 ⟨x,rfl,zC2 (hQ x rfl h2 g2 (sb.trans Hc))⟩))
 ·refine zC1 (wpAny_seqItems F5 EG ?_);dsimp only;rcases hn with ⟨rfl,hi⟩ | ⟨p,tk,x,e,rfl,hi,he⟩
  ·exact (hi:items[(i:Int).toNat]?=_).symm▸zC1 (eE hI (by simp) fun h1 g1 sb=>zC1 (eE g1 (by simp) fun h2 g2 Hc=>qp hh fun h3 k=>hE rfl _ (ext (sb.trans Hc) k)))
  ·refine (hi:items[(i:Int).toNat]?=_).symm▸zC1 (zC1 (wpAny_setState_of ho hd hf (bE (by simp) ?_)));exact (he:es[(p:Int).toNat]?=_).symm▸zC2 (zC1 (eE hI (by simp) fun h1 g1 sb=>zC2 ⟨x,rfl,zC2 (hQ x rfl h1 g1 sb)⟩))
def kH (hn:n≠0) (h:∀ i d,i < n->Q i { s with drawn:=d }):wpAny M A (choose src n) Q E s:=fun Γ p hΓ=>by
 unfold choose;rw [Sem.wp_choose];exact ⟨hn,h _ _ (mod_lt _ (Nat.pos_of_ne_zero hn))⟩
theorem cO:∀ {l:List α} {i:Nat},l[i]?=some x->(x :: l.eraseIdx i).Perm l
 | [],_,h=>nomatch h
 | y :: l,0,h=>by (injection h with h; subst h); exact .refl _
 | y :: l,i+1,h=>(Perm.swap y x _).trans (.cons y (cO (l:=l) h))
theorem rj:∀ (n:Nat) (xs:List α) (s:Shared) {Q:List α->Shared->Prop},xs.length=n->(∀ ys d,ys.Perm xs->Q ys { s with drawn:=d })->wpAny M A (drawOrder n xs) Q E s
 | 0,xs,s,Q,hl,h=>by obtain rfl:=length_eq_zero_iff.mp hl; exact zC2 (h [] s.drawn (.refl _))
 | n+1,[],s,Q,hl,h=>nomatch hl
 | n+1,x :: xs,s,Q,hl,h=>by
  refine zC1 (kH (by rw [hl]; exact Nat.succ_ne_zero n) fun i d hi=>?_);have e:(x :: xs)[i]?=some (x :: xs)[i]:=J9 hi;rw [e];refine zC1 (rj n _ _ (by rw [List.length_eraseIdx_of_lt hi,hl]; rfl) fun ys d' p=>zC2 (h _ d' ((Perm.cons _ p).trans (cO e))))
theorem qz (f:Nat->Nat):∀ (n k:Nat) (l:List α) (o:Array α),l.length=n->(pickOrder.go f n k l o).toList.Perm (o.toList++l)
 | 0,k,l,o,h=>by obtain rfl:=length_eq_zero_iff.mp h; refine (?_:o.toList.Perm _); rw [append_nil]
 | n+1,k,l,o,h=>by
  have hi:f k % l.length < l.length:=mod_lt _ (by rw [h]; exact succ_pos n);have e:l[f k % l.length]?=some l[f k % l.length]:=J9 hi;rw [show pickOrder.go f (n+1) k l o=(match l[f k % l.length]? with | some x=>pickOrder.go f n (k+1) (l.eraseIdx (f k % l.length)) (o.push x) | none=>o) from rfl,e];refine (qz f n (k+1) _ _ (by rw [List.length_eraseIdx_of_lt hi,h]; rfl)).trans ?_;rw [toList_push,append_assoc];exact .append_left _ (cO e)
def r5 (f:Nat->Nat) (xs:Array α):(pickOrder f xs).toList.Perm xs.toList:=qz f _ 0 _ #[] length_toList
end
def dB:PySem.Slot "set_iterator" "__iter__" "set_iterator.__iter__":=
 .of (owner:="set_iterator") (n:="__iter__") (by rw [typeLookup_type,builtinLookup_eq_fast]; kernel_rfl) (by decide +kernel) (by decide +kernel) (by decide +kernel)
  (by first | exact .inl (by decide +kernel) | exact .inr (by decide +kernel)) (by rw [isSubtype_type]; kernel_rfl)
def ga:entryFor table "set_iterator.__iter__"=some Builtin.«dict_keyiterator.__iter__»:=entryFor_alias (id':="dict_keyiterator.__iter__") (by kernel_rfl) rfl (by decide +kernel) (by kernel_rfl)
def gO (a:Value):argsOk "set_iterator.__iter__" ⟨[a],[]⟩:=by unfold argsOk; kernel_rfl
section
variable {prog:Program} {w:World} {A:Around} {E:Value->Shared->Prop} {s:Shared} {I S:Addr} {o:Obj} {es:Array (Int×Value)} {ep:Nat} {t:SetTable} {CY:List Value}
def hO (hI:s.heap.get? I=some ob) (hc:ob.cls=.type "set_iterator") (h:Q (.ref I) s):wpAny (model prog w) A (pyIter (.ref I)) Q E s:=by
 have hT:s.TypeIs (.ref I) "set_iterator":=⟨_,hI,hc⟩;refine wpAny_pyIter_slot hT dB (wpAny_call_entry dB hT ga ?_ (gO _));refine (bPu ?_);exact zC2 ⟨_,rfl, "set_iterator",_,hT,bx.lookup,h⟩
abbrev mh (prog:Program) (w:World) (S:Addr) (o:Obj) (i ep slot:Nat) (r:Option (Value×Nat)):Prop:=∀ (s:Shared),s.heap.get? S=some o->∀ (A:Around) (Q:Option (Value×Nat)->Shared->Prop) (E:Value->Shared->Prop),Q r s->wpAny (model prog w) A (setNext S slot i ep) Q E s
def As {C:Addr->Prop} (m:c∈[a,b]) (ha:C a) (hb:C b):C c:=by
 rcases mem_cons.mp m with rfl | m
 ·exact ha
 ·obtain rfl:=zA6 m; exact hb
def jH (hh:A.handled=none) (Cr:S≠I) (hd:o.data=.set es ep t) (hf:t.fits es.size=true) (Sl:Nat->Nat->Prop)
  (hs:∀ i slot,Sl slot i->i < es.size->∃ x nx,CY[i]?=some x/\Sl nx (i+1)/\mh prog w S o i ep slot (some (x,nx))) (he:∀ slot,Sl slot es.size->mh prog w S o es.size ep slot none) :
  Walks prog w A I [I,S] [I] es.size (fun i v=>CY[i]?=some v) (fun i h=>h.get? S=some o/\∃ slot tk,Sl slot i/\h.get? I=some (jl (.int slot tk) i S es.size ep)) where
 sub:=fun b m=>by obtain rfl:=zA6 m; exact .head _
 frame:=fun i h h' Fb k=>Fb.elim fun a Es=>Es.elim fun slot GD=>GD.elim fun tk GC=>GC.elim fun b c=>⟨k S (.tail _ (.head _)) _ a,slot,tk,b,k I (.head _) _ c⟩
 item:=fun i s Q E hi ⟨a,slot,tk,b,c⟩ hQ=>by
  refine yk fun Z1 Ht=>?_;obtain ⟨x,nx,e1,e2,e3⟩:=hs i slot b hi;refine Ht ?_;refine fF (r:=some x) (f':=.int nx 0) hh c a hd hf (.inl ⟨slot,nx,tk,rfl,rfl,e3 s a⟩) (fun y ey h' hI sb=>?_) fun q=>nN q;(injection ey with ey; subst ey);exact hQ x h' s.toks e1 ⟨(sb.2 S Cr).trans a,nx,0,e2,hI⟩ fun b o m e=>(sb.2 b fun q=>m (q▸.head _)).trans e
 done:=fun s Q E GA hQ=>GA.elim fun a Fa=>Fa.elim fun slot IC=>IC.elim fun tk IB=>IB.elim fun b c=>fF (r:=none) (f':=.int 0 0) hh c a hd hf (.inl ⟨slot,0,tk,rfl,rfl,he slot b s a⟩) (fun y ey=>nN ey.symm) fun U h' k=>hQ h' s.toks fun b o m e=>k b o (fun q=>m (q▸.head _)) e
 self:=fun i s Q E ⟨a,slot,tk,b,c⟩ h=>hO c rfl h
def rH (hh:A.handled=none) (Cr:S≠I) (hd:o.data=.set es ep t) (hf:t.fits es.size=true) (hF:F≠I) (EG:ol.data=.seq items n') (hz:items.size=es.size)
  (hs:∀ i,i < es.size->∃ (p:Nat) (tk:Tok) (x:Value) (e:Int),CY[i]?=some x/\items[i]?=some (.int p tk)/\es[p]?=some (e,x)) :
  Walks prog w A I [I,S,F] [I] es.size (fun i v=>CY[i]?=some v) (fun i h=>h.get? S=some o/\h.get? F=some ol/\h.get? I=some (jl (.ref F) i S es.size ep)) where
 sub:=fun b m=>by obtain rfl:=zA6 m; exact .head _
 frame:=fun i h h' Iz k=>Iz.elim fun a Iy=>Iy.elim fun b c=>⟨k S (.tail _ (.head _)) _ a,k F (.tail _ (.tail _ (.head _))) _ b,k I (.head _) _ c⟩
 item:=fun i s Q E hi ⟨a,b,c⟩ hQ=>by
  refine yk fun Z2 Hq=>?_;obtain ⟨p,tk,x,e,e1,e2,e3⟩:=hs i hi;refine Hq ?_;refine fF (r:=some x) (f':=.ref F) hh c a hd hf (.inr ⟨F,ol,items,n',rfl,rfl,b,EG,.inr ⟨p,tk,x,e,rfl,e2,e3⟩⟩) (fun y ey h' hI sb=>?_) fun q=>nN q;(injection ey with ey; subst ey);exact hQ x h' s.toks e1 ⟨(sb.2 S Cr).trans a,(sb.2 F hF).trans b,hI⟩ fun b o m e=>(sb.2 b fun q=>m (q▸.head _)).trans e
 done:=fun s Q E Ix hQ=>Ix.elim fun a Iw=>Iw.elim fun b c=>fF (r:=none) (f':=.ref F) hh c a hd hf (.inr ⟨F,ol,items,n',rfl,rfl,b,EG,.inl ⟨rfl,getElem?_eq_none (zB2 hz)⟩⟩) (fun y ey=>nN ey.symm) fun U h' k=>hQ h' s.toks fun b o m e=>k b o (fun q=>m (q▸.head _)) e
 self:=fun i s Q E ⟨a,b,c⟩ h=>hO c rfl h
def jW (hB:w.params.followText "set-order"=true) (hd:o.data=.set es ep t) (hf:t.fits es.size=true) (e:((pickOrder (w.params.setOrder S ep) es)[i]?).map (fun e=>(e.2,slot))=r):mh prog w S o i ep slot r:=fun s ho A Q E h=>by
 skip
 refine zC1 (wpAny_setState_of ho hd hf ?_);refine zC1 (zC1 (wpAny_askSetting (zC2 ?_)));rw [show (Setting.mk (model prog w).prog (model prog w).w.params).params.followText "set-order"=true from hB,if_pos rfl,if_neg (by simp)];unfold setWalk;refine zC1 (zC1 (wpAny_setState_of ho hd hf ?_));refine zC1 (zC1 (wpAny_askSetting (zC2 ?_)));refine (show (Setting.mk (model prog w).prog (model prog w).w.params).params.followText "set-order"=true from hB).symm▸(if_pos rfl).symm▸?_;refine zC1 (wpAny_askSetting (zC2 (zC2 ?_)));exact e▸h
def nh (hB:w.params.followText "set-order"=false) (hd:o.data=.set es ep t) (hf:t.fits es.size=true) (hl:t.led=true) (hn:(!t.plain&&decide (es.size > 1))=false)
  (e:(match es[SetTable.below t.place slot]?,t.place[SetTable.below t.place slot]? with | some (_,x),some j=>some (x,j+1) | _,_=>none)=r):mh prog w S o i ep slot r:=fun s ho A Q E h=>by
 skip
 refine zC1 (wpAny_setState_of ho hd hf ?_);refine zC1 (zC1 (wpAny_askSetting (zC2 ?_)));refine (show (Setting.mk (model prog w).prog (model prog w).w.params).params.followText "set-order"=false from hB).symm▸(if_neg Bool.false_ne_true).symm▸?_;refine bE (ne_true_of_eq_false hn) ?_;refine zC1 (bE (show ¬ (!t.led&&!es.isEmpty)=true by simp [hl]) (zC2 ?_));refine zC2 ?_;subst e; exact h
def ug (hL:L = !w.params.followText "set-order") (T:TS s.heap S es L)
  (h:∀ (CY:List Value) I fp wr St h' d,CY.Perm (es.toList.map (·.2))->ah s.heap h'->(∀ b∈wr,s.heap.get? b=none)->(∀ b∈fp,s.heap.get? b=none\/b=S)->(∀ A:Around,A.handled=none->Walks prog w A I fp wr es.size (fun i v=>CY[i]?=some v) St)->St 0 h'->Q (.ref I) { s with heap:=h',drawn:=d }) :
  wpAny (model prog w) A (pyIter (.ref S)) Q E s:=by
 refine yk fun Z3 Hp=>?_;obtain ⟨o,ep,t,ho,C6,hd,T,hr,hl⟩:=T;refine Hp ?_;have hm:es.size<=t.mask:=le_of_lt (lt_of_mul_lt_mul_right (J5 (mul_le_mul_left es.size (by decide:3<=5)) hr));have hf:t.fits es.size=true:=T.fits hm;have hT:s.TypeIs (.ref S) "set":=⟨_,ho,C6.1⟩;refine wpAny_pyIter_slot hT PySem.F.slot_set_iter (wpAny_call_entry PySem.F.slot_set_iter hT gZ ?_ (PySem.F.args_set_iter_1 _));unfold Builtin.«frozenset.__iter__»;refine zC1 ((bPu (zC2 ?_)));refine zC1 (zC1 (zC1 (wpAny_setState_of ho hd hf (zC2 (zC2 ?_)))))
 skip
 refine zC1 (zC1 (wpAny_setState_of ho hd hf ?_));refine zC1 (zC1 (wpAny_askSetting (zC2 (zC2 ?_))));have CN:es.size<=8191:=zB1 hm (by rcases T.msk with q | q | q | q | q | q <;> rw [q] <;> decide);extract_lets jp;have Fm:∀ (s1:Shared) ff,s1.heap.get? S=some o->(∀ h',h'.get? s1.heap.objs.size=some (jl ff 0 S es.size ep)->ah s1.heap h'->Q (.ref s1.heap.objs.size) { s1 with heap:=h' }) ->
   wpAny (model prog w) A.in1 (jp ff) (fun fin s'=>∃ v,fin=.done (.ret v)/\∃ T' r,s'.TypeIs v T'/\typeLookup (.type T') (ofString "__next__")=pure (some r)/\Q v s') E s1:=fun s1 ff h1 hq=>by
  refine zC1 (wpAny_setEpoch_of h1 hd hf ?_);refine zC1 (wpAny_newObj_type ?_);exact zC2 ⟨_,rfl, "set_iterator",_,⟨_,J0 _ rfl,rfl⟩,bx.lookup,hq _ (J0 _ rfl) (ae _ _)⟩
 have nI:∀ (h1:Heap),ah s.heap h1->s.heap.get? h1.objs.size=none:=fun h1 k=>aH k.live (ag _);refine wpAny_ite_split (fun c=>?_) fun c=>?_
 ·refine zC1 (rj _ _ _ length_range fun ys d py=>?_);refine zC1 (wpAny_newTuple ?_ (by rw [zA4,py.length_eq,length_range]; exact zB1 CN (by decide)));have k1:ah s.heap (s.heap.push { cls:=.type "tuple",data:=.seq (ys.map fun (i:Nat)=>rawInt i).toArray 0 }):=ae _ _;have hy:∀ a∈ys,(es.toList[a]?).isSome:=fun a m=>by
   rw [J9 (by rw [zB3]; exact mem_range.mp (py.mem_iff.mp m))]; rfl
  refine Fm _ _ (k1 _ _ ho) fun h' hI k=>h ((ys.filterMap (es.toList[·]?)).map (·.2)) _ _ _ _ h' d ?_ (k1.trans k) (fun b m=>?_) (fun b m=>?_) (fun A hh=>rH hh (aN (k1 _ _ ho)) hd hf (F:=s.heap.objs.size) (ne_of_lt (by rw [size_push]; exact lt_succ_self _)) (rfl:Obj.data { cls:=.type "tuple",data:=.seq (ys.map fun (i:Nat)=>rawInt i).toArray 0 }=_) (by simp [py.length_eq]) fun i hi=>?_) ⟨(k1.trans k) _ _ ho,k _ _ (J0 _ rfl),hI⟩
  ·refine (Perm.map _ ((Perm.filterMap _ py).trans (.of_eq ?_)));exact length_toList▸b9 _
  ·obtain rfl:=zA6 m; exact nI _ k1
  ·rcases mem_cons.mp m with rfl | m
   ·exact .inl (nI _ k1)
   ·exact As (C:=fun b=>s.heap.get? b=none\/b=S) m (.inr rfl) (.inl (ag _))
  ·have CP:i < ys.length:=by rw [py.length_eq,length_range]; exact hi
   have ep:ys[i] < es.size:=mem_range.mp (py.mem_iff.mp (getElem_mem CP));refine ⟨ys[i],0,es[ys[i]].2,es[ys[i]].1,?_,?_,Array.getElem?_eq_getElem ep⟩
   ·rw [Jc,cN hy,J9 CP];refine (?_:((es.toList[ys[i]]?).map _)=_);rw [Ja,Array.getElem?_eq_getElem ep]; rfl
   ·simp [CP,rawInt]
 ·refine (bPu ?_);cases hB:w.params.followText "set-order" with
  | true=>
   have pk:=r5 (w.params.setOrder S ep) es;refine Fm s _ ho fun h' hI k=>h ((pickOrder (w.params.setOrder S ep) es).toList.map (·.2)) _ _ _ _ h' s.drawn (pk.map _) k (fun b m=>by obtain rfl:=zA6 m; exact ag _) (fun b m=>As (C:=fun b=>s.heap.get? b=none\/b=S) m (.inl (ag _)) (.inr rfl))
    (fun A hh=>jH hh (aN ho) hd hf (fun U U=>True) (fun i slot U hi=>?_) fun slot U=>?_) ⟨k _ _ ho,0,0,trivial,hI⟩
   ·have CP:i < (pickOrder (w.params.setOrder S ep) es).size:=by exact length_toList▸pk.length_eq.symm▸length_toList.symm▸hi
    exact ⟨(pickOrder (w.params.setOrder S ep) es)[i].2,slot,by rw [Jc,Ja,Array.getElem?_eq_getElem CP]; rfl,trivial,jW hB hd hf (by rw [Array.getElem?_eq_getElem CP]; rfl)⟩
   ·exact jW hB hd hf (by rw [getElem?_eq_none (by rw [<- zB3,pk.length_eq,zB3]; exact le_refl _)]; rfl)
  | false=>
   have hl2:t.led=true:=by rw [hl,hL,hB]; rfl
   have hn:(!t.plain&&decide (es.size > 1))=false:=by
    have c:¬ (!w.params.followText "set-order"&&(!t.plain&&decide (es.size > 1)))=true:=c;rw [hB] at c;exact eq_false_iff.mpr c
   refine Fm s _ ho fun h' hI k=>h (es.toList.map (·.2)) _ _ _ _ h' s.drawn (.refl _) k (fun b m=>by obtain rfl:=zA6 m; exact ag _) (fun b m=>As (C:=fun b=>s.heap.get? b=none\/b=S) m (.inl (ag _)) (.inr rfl))
    (fun A hh=>jH hh (aN ho) hd hf (fun slot i=>SetTable.below t.place slot=i) (fun i slot e hi=>?_) fun slot e=>nh hB hd hf hl2 hn (by rw [e,getElem?_eq_none (le_refl _)])) ⟨k _ _ ho,0,0,?_,hI⟩
   ·obtain ⟨j,ej⟩:∃ j,t.place[i]?=some j:=⟨_,Array.getElem?_eq_getElem (by rw [T.sz]; exact hi)⟩;refine ⟨es[i].2,j+1,by rw [Jc,Ja,Array.getElem?_eq_getElem hi]; rfl,?_,nh hB hd hf hl2 hn (by rw [e,Array.getElem?_eq_getElem hi,ej])⟩;have b:=dW T.rise (j+1);rcases lt_trichotomy (SetTable.below t.place (j+1)) (i+1) with q | q | q
    ·exact absurd (b.2.2 i j (Jd q) ej) (Nat.not_succ_le_self j)
    ·exact q
    ·obtain ⟨j',ej'⟩:∃ j,t.place[i+1]?=some j:=⟨_,Array.getElem?_eq_getElem (J6 q b.1)⟩;exact absurd (Jd (b.2.1 _ _ q ej')) (not_le.mpr (T.rise _ _ _ _ (lt_succ_self i) ej ej'))
   ·have b:=dW T.rise 0;rcases Nat.eq_zero_or_pos (SetTable.below t.place 0) with q | q
    ·exact q
    ·have b1:=b.1;obtain ⟨j,ej⟩:∃ j,t.place[0]?=some j:=⟨_,Array.getElem?_eq_getElem (J6 q b1)⟩;exact absurd (b.2.1 0 j q ej) (not_lt_zero _)
end
noncomputable abbrev KKd:=PyProof.Rows.KeyKind
structure SI (k₀:SortKind) (a₀:Array Keyed) (st:SortSt):Prop where
 perm:(arrOf st).Perm a₀
 kind:kindOf st=k₀
 failed:failedOf st=none
 pend:pendingOf st=#[]
section
variable {M:Model} {A:Around} {s:Shared} {k₀:SortKind} {a₀:Array Keyed} {st:SortSt} {E:Value->Shared->Prop} {κ:KKd}
noncomputable def qP (κ:KKd) (x:Keyed):κ.α:=(κ.keyOf x.1).getD κ.dflt
def vF (M:Model) (A:Around) (s:Shared) (k₀:SortKind) (κ:KKd) (a₀:Array Keyed):Prop:=∀ x y:Keyed,x∈a₀.toList->y∈a₀.toList->∀ (E:Value->Shared->Prop) (Q:Bool->Shared->Prop),Q (κ.blt (qP κ x) (qP κ y)) s->wpAny M A (keyLt' k₀ x.1 y.1) Q E s
theorem SI.size (I:SI k₀ a₀ st):(arrOf st).size=a₀.size:=I.perm.size_eq
theorem SI.setArr (I:SI k₀ a₀ st) (h:xs.Perm (arrOf st)):SI k₀ a₀ (setArr st xs):=⟨h.trans I.perm,I.kind,I.failed,I.pend⟩
theorem SI.mem (I:SI k₀ a₀ st) (h:x∈(arrOf st).toList):x∈a₀.toList:=(Array.perm_iff_toList_perm.mp I.perm).mem_iff.mp h
def vP (e:xs[i]?=some x):KK κ xs i=qP κ x:=by unfold KK; rw [e]; rfl
def dM (L:vF M A s k₀ κ a₀) (I:SI k₀ a₀ st) (hi:i < a₀.size) (hj:j < a₀.size) (h:∀ b,κ.blt (KK κ (arrOf st) i) (KK κ (arrOf st) j)=b->Q (some b) st):wpS M A E s (ltAt' i j) Q st:=by
 rw [ltAt'_eq];refine wpS_bind (wpS_get ?_);have ei:=getElem?_pos (arrOf st) i (I.size▸hi);have ej:=getElem?_pos (arrOf st) j (I.size▸hj);dsimp only;rw [elem'_eq,elem'_eq,ei,ej];refine wpS_bind (wpS_pure (wpS_bind (wpS_pure ?_)));rw [lt'_eq];refine wpS_bind (wpS_get ?_);rw [I.kind];exact wpS_bind (wpS_lift (wpAny_attempt (L _ _ (I.mem (by simp)) (I.mem (by simp)) _ _ ⟨rfl,wpS_pure (h _ (by rw [vP ei,vP ej]))⟩)))
def kS (I:SI k₀ a₀ st) (h:∀ B8,SI k₀ a₀ B8->arrOf B8=mirror (arrOf st) i j ((j - i) / 2)->Q () B8):wpS M A E s (reverseSlice' i j) Q st:=by
 rw [reverseSlice'_eq]; exact wpS_modify (h _ (I.setArr (mirror_perm _ _ _ _)) rfl)
def tu (h:SortedToK κ xs x) (q:κ.kle (KK κ xs (x - 1)) (KK κ xs x)):SortedToK κ xs (x+1):=fun i j CI hj=>by
 rcases lt_or_ge j x with z | z
 ·exact h i j CI z
 ·cases le_antisymm (Jd hj) z
  rcases lt_or_ge i x with z | z
  ·exact kle_trans (h i (x - 1) (le_sub_one_of_lt z) (Nat.sub_one_lt (ne_of_gt (Nat.zero_lt_of_lt z)))) q
  ·cases le_antisymm CI z; exact kle_refl _
def gd (h:NonIncK κ xs x) (q:κ.kle (KK κ xs x) (KK κ xs (x - 1))):NonIncK κ xs (x+1):=fun i j CI hj=>by
 rcases lt_or_ge j x with z | z
 ·exact h i j CI z
 ·cases le_antisymm (Jd hj) z
  rcases lt_or_ge i x with z | z
  ·exact kle_trans q (h i (x - 1) (le_sub_one_of_lt z) (Nat.sub_one_lt (ne_of_gt (Nat.zero_lt_of_lt z))))
  ·cases le_antisymm CI z; exact kle_refl _
def qd {f:Nat->Option (Option Nat)×Nat->StateT SortSt Sem (ForInStep (Option (Option Nat)×Nat))} {Q:Option (Option Nat)×Nat->SortSt->Prop} {g:Nat->Option Bool->StateT SortSt Sem (ForInStep (Option (Option Nat)×Nat))}
  (L:vF M A s k₀ κ a₀) (hf:∀ x,f x (none,x)=(ltAt' (0+x) (0+x - 1) >>= g x)) (g1:∀ x,g x (some true)=pure (.done (none,x))) (g0:∀ x,g x (some false)=pure (.yield (none,x+1)))
  (hn:nrem<=a₀.size) (h1:1<=a) (h2:a<=nrem) (I:SI k₀ a₀ st) (hs:SortedToK κ (arrOf st) a) (h:∀ m,1<=m->m<=nrem->SortedToK κ (arrOf st) m->(m < nrem->κ.klt (KK κ (arrOf st) m) (KK κ (arrOf st) (m - 1)))->Q (none,m) st):wpS M A E s (forIn [a:nrem] (none,a) f) Q st:=by
 refine wpS_forRange (I:=fun x c B8=>c=(none,x)/\B8=st/\SortedToK κ (arrOf st) x) ?_ ?_ ⟨rfl,rfl,hs⟩
 ·rintro x c B8 q1 q2 ⟨rfl,rfl,hs⟩;rw [hf,zero_add];refine wpS_bind (dM L I (J6 q2 hn) (J5 (sub_le _ _) (J6 q2 hn)) fun b e=>?_);cases b
  ·rw [g0]; exact wpS_pure ⟨rfl,rfl,tu hs e⟩
  ·rw [g1]; exact wpS_pure (h x (zB1 h1 q1) (le_of_lt q2) hs fun U=>e)
 ·rintro c B8 ⟨rfl,rfl,hs⟩;rw [max_eq_right h2] at hs ⊢;exact h _ (zB1 h1 h2) (le_refl _) hs fun q=>absurd q (lt_irrefl _)
def EqB (κ:KKd) (xs:Array Keyed) (i j:Nat):Prop:=∀ k,i<=k->k < j->KK κ xs k=KK κ xs (j - 1)
def qg (hj:j<=xs.size) (e:EqB κ xs i j):KK κ (mirror xs i j ((j - i) / 2))=KK κ xs:=funext fun k=>KK_mirror_equal hj e k
def lL (e:KK κ ys=KK κ xs):(SortedToK κ xs n->SortedToK κ ys n)/\(NonIncK κ xs n->NonIncK κ ys n):=⟨fun h i j a b=>by rw [e]; exact h i j a b,fun h i j a b=>by rw [e]; exact h i j a b⟩
def r7 (hn:n<=xs.size) (h:NonIncK κ xs n):SortedToK κ (mirror xs 0 n ((n - 0) / 2)) n:=fun i j CI hj=>by
 rw [KK_mirror hn,KK_mirror hn,if_pos ⟨zero_le _,J5 CI hj⟩,if_pos ⟨zero_le _,hj⟩];exact h _ _ (Nat.sub_le_sub_left CI _) (by rw [zero_add]; exact J5 (sub_le _ _) (sub_lt (J5 (zero_le _) hj) (by decide)))
def iT [Decidable c] (I:SI k₀ a₀ st) (hj:j<=a₀.size) (e:EqB κ (arrOf st) i j) (h:∀ B8,SI k₀ a₀ B8->KK κ (arrOf B8)=KK κ (arrOf st)->wpS M A E s X Q B8):wpS M A E s (if c then reverseSlice' i j >>= fun U=>X else X) Q st:=by
 split
 ·exact wpS_bind (kS I fun B8 I' e'=>h B8 I' (by rw [e']; exact qg (I.size▸hj) e))
 ·exact h st I rfl
def zr (a:x - (0+1)<=k) (b:k < x):k=x - 1:=le_antisymm (le_sub_one_of_lt b) a
def Ag (a:x+1 - (q+1+1)<=k):x - (q+1)<=k:=Nat.add_sub_add_right x 1 (q+1)▸a
def kF {Q:Option Nat->SortSt->Prop} (L:vF M A s k₀ κ a₀) (hn:nrem<=a₀.size) (h1:1<=nrem) (I:SI k₀ a₀ st)
  (fin:∀ m B8,SI k₀ a₀ B8->1<=m->m<=nrem->SortedToK κ (arrOf B8) m->Q (some m) B8):wpS M A E s (countRun' 0 nrem) Q st:=by
 rw [countRun'_eq];have hz:nrem<=(arrOf st).size:=I.size▸hn;refine wpS_bind (qd L (fun U=>rfl) (fun U=>rfl) (fun U=>rfl) hn (le_refl 1) h1 I (fun i j a b=>by cases Nat.lt_one_iff.mp b; obtain rfl:=le_zero.mp a; exact kle_refl _) fun n GK F7 hs Cm=>?_);dsimp only;by_cases e:n=nrem
 ·rw [if_pos (by simpa using e)]; exact wpS_pure (fin n st I GK F7 hs)
 rw [if_neg (by simpa using e)];have Cm:=Cm (lt_of_le_of_ne F7 e)
 -- a run that went down is turned round,and goes on
 have turn:∀ {n':Nat} {B8:SortSt} {f:Nat->Option (Option Nat)×Nat->StateT SortSt Sem (ForInStep (Option (Option Nat)×Nat))} {F:Option (Option Nat)×Nat->StateT SortSt Sem (Option Nat)} {g:Nat->Option Bool->StateT SortSt Sem (ForInStep (Option (Option Nat)×Nat))},
   (∀ x,f x (none,x)=(ltAt' (0+x) (0+x - 1) >>= g x))->(∀ x,g x (some true)=pure (.done (none,x)))->(∀ x,g x (some false)=pure (.yield (none,x+1)))->(∀ m,F (none,m)=pure (some m))->SI k₀ a₀ B8->1<=n'->n'<=nrem->NonIncK κ (arrOf B8) n' ->
   wpS M A E s (reverseSlice' 0 (0+n') >>= fun U=>forIn [n':nrem] (none,n') f >>= F) Q B8:=fun hf g1 g0 hF I' q1 q2 hd=>by
  rw [zero_add];refine wpS_bind (kS I' fun Fv I4 e4=>wpS_bind (qd L hf g1 g0 hn q1 q2 I4 (by rw [e4]; exact r7 (zB1 q2 (I'.size▸hn)) hd) fun m a b c U=>?_));rw [hF]; exact wpS_pure (fin m Fv I4 a b c)
 have DY:n < nrem:=lt_of_le_of_ne F7 e;have go:∀ {α:Type} {c:Prop} [Decidable c] {i j:Nat} {X:StateT SortSt Sem α} {F:Option Bool->StateT SortSt Sem α} {Q:α->SortSt->Prop},(c ↔ n > 1)->i=0->j=n - 1->wpS M A E s (F (some true)) Q st->F (some false)=(reverseSlice' 0 (0+n) >>= fun U=>X) ->
   (∀ Fd,SI k₀ a₀ Fd->NonIncK κ (arrOf Fd) (n+1)->wpS M A E s X Q Fd)->wpS M A E s (if c then ltAt' i j >>= F else X) Q st:=fun hc hi hj ht hF hX=>by
  subst hi hj;have dn:∀ {ys:Array Keyed},KK κ ys=KK κ (arrOf st)->NonIncK κ (arrOf st) n->NonIncK κ ys (n+1):=fun e h=>(lL e).2 (gd h (kle_of_klt Cm));split
  ·refine wpS_bind (dM L I (J6 (Nat.zero_lt_of_lt DY) hn) (J5 (sub_le _ _) (J6 DY hn)) fun b eb=>?_);cases b
   ·have H5:∀ k,k < n->KK κ (arrOf st) k=KK κ (arrOf st) (n - 1):=fun k hk=>kle_antisymm (hs k (n - 1) (le_sub_one_of_lt hk) (Nat.sub_one_lt_of_lt GK)) (kle_trans eb (hs 0 k (zero_le _) hk));rw [hF,zero_add];exact wpS_bind (kS I fun B8 I' e'=>hX B8 I' (dn (by rw [e']; exact qg (zB1 F7 hz) fun k U hk=>H5 k hk) fun i j CI hj=>by rw [H5 i (J5 CI hj),H5 j hj]; exact kle_refl _))
   ·exact ht
  ·rename_i C4;have:n=1:=le_antisymm (le_of_not_lt fun q=>C4 (hc.mpr q)) GK;exact hX st I (dn rfl fun i j CI hj=>by rw [this] at hj; obtain rfl:=Nat.lt_one_iff.mp hj; obtain rfl:=le_zero.mp CI; exact kle_refl _)
 refine go Iff.rfl rfl (by rw [zero_add]) (wpS_pure (fin n st I GK F7 hs)) rfl fun Fd I2 d2=>?_;refine wpS_bind (wpS_lift (wpAny_rule ⟨rfl,?_⟩));have one:∀ {xs:Array Keyed} {x:Nat},EqB κ xs (x - (0+1)) x:=fun {xs x} k a b=>congrArg (KK κ xs) (zr a b);refine wpS_bind (wpS_forRange (I:=fun x c B8=>∃ q,c=(none,x,q)/\SI k₀ a₀ B8/\NonIncK κ (arrOf B8) x/\EqB κ (arrOf B8) (x - (q+1)) x) ?_ ?_ ⟨0,rfl,I2,d2,one⟩)
 ·rintro x c B8 hx1 hx2 ⟨q,rfl,I',d',e'⟩;have FQ:=J6 hx2 hn;have hx0:x - 1 < a₀.size:=J5 (sub_le _ _) FQ;have z0:0+x=x:=zero_add x;refine wpS_bind (dM L I' (z0.symm▸FQ) (z0.symm▸hx0) fun b eb=>?_);dsimp only at eb;rw [z0] at eb;cases b
  ·refine wpS_bind (dM L I' (z0.symm▸hx0) (z0.symm▸FQ) fun b G3=>?_);dsimp only at G3;rw [z0] at G3;cases b
   ·have ek:KK κ (arrOf B8) x=KK κ (arrOf B8) (x - 1):=kle_antisymm G3 eb;refine wpS_pure ⟨q+1,rfl,I',gd d' G3,fun k a b=>?_⟩;rw [Nat.add_sub_cancel,ek];rcases lt_or_ge k x with z | z
    ·exact e' k (Ag a) z
    ·rw [le_antisymm (Jd b) z,ek]
   ·exact wpS_pure (iT I' (z0.symm▸le_of_lt FQ) (z0.symm▸e') fun st3 I3 k3=>
     turn (fun U=>rfl) (fun U=>rfl) (fun U=>rfl) (fun U=>rfl) I3 (zB1 (succ_le_succ (zero_le _)) hx1) (le_of_lt hx2) ((lL k3).2 d'))
  ·exact iT I' (z0.symm▸le_of_lt FQ) (z0.symm▸e') fun st3 I3 k3=>wpS_pure ⟨0,rfl,I3,(lL k3).2 (gd d' (kle_of_klt eb)),one⟩
 ·rintro c B8 ⟨q,rfl,I',d',e'⟩;rw [max_eq_right DY] at d' e';have z0:0+max (n+1) nrem=nrem:=by rw [zero_add,max_eq_right DY]
  have z1:max (n+1) nrem=nrem:=max_eq_right DY;exact iT I' (z0.symm▸hn) (z0.symm▸e') fun st3 I3 k3=>turn (fun U=>rfl) (fun U=>rfl) (fun U=>rfl) (fun U=>rfl) I3 (z1.symm▸h1) (zB2 z1) (z1.symm▸(lL k3).2 d')
end
section
variable {M:Model} {A:Around} {s:Shared} {k₀:SortKind} {a₀:Array Keyed} {st:SortSt} {E:Value->Shared->Prop} {κ:KKd}
def oI (hk:k < xs.size) (hl:l<=k) (h:SortedToK κ xs k) (a:∀ i,i < l->κ.kle (KK κ xs i) (KK κ xs k)) (b:∀ i,l<=i->i < k->κ.kle (KK κ xs k) (KK κ xs i)):SortedToK κ (bubble xs k (k - l)) (k+1):=fun i j CI hj=>by
 rw [KK_bubble hk (sub_le _ _),KK_bubble hk (sub_le _ _),Nat.sub_sub_self hl];have hj:=Jd hj;rcases lt_trichotomy i l with qi | rfl | qi
 ·rw [if_neg (ne_of_lt qi),if_neg fun z=>lt_asymm z.1 qi];rcases lt_trichotomy j l with qj | rfl | qj
  ·rw [if_neg (ne_of_lt qj),if_neg fun z=>lt_asymm z.1 qj]; exact h i j CI (J6 qj hl)
  ·rw [if_pos rfl]; exact a i qi
  ·rw [if_neg (ne_of_gt qj),if_pos ⟨qj,hj⟩]; exact h i (j - 1) (le_sub_one_of_lt (lt_trans qi qj)) (J6 (Nat.sub_one_lt_of_lt qj) hj)
 ·rw [if_pos rfl];rcases lt_or_ge i j with qj | qj
  ·rw [if_neg (ne_of_gt qj),if_pos ⟨qj,hj⟩]; exact b (j - 1) (le_sub_one_of_lt qj) (J6 (Nat.sub_one_lt_of_lt qj) hj)
  ·obtain rfl:=le_antisymm CI qj; rw [if_pos rfl]; exact kle_refl _
 ·have qj:l < j:=J6 qi CI;rw [if_neg (ne_of_gt qi),if_pos ⟨qi,zB1 CI hj⟩,if_neg (ne_of_gt qj),if_pos ⟨qj,hj⟩];exact h (i - 1) (j - 1) (Nat.sub_le_sub_right CI 1) (J6 (Nat.sub_one_lt_of_lt qj) hj)
def zC (h:¬ l >= r) (hr:r<=k) (hf:r - l<=k - x):(l+r) / 2 < k/\l<=(l+r) / 2/\(l+r) / 2 < r/\(l+r) / 2 - l<=k - (x+1)/\r - ((l+r) / 2+1)<=k - (x+1):=
 have h:=not_le.mp h;have a:(l+r) / 2 < r:=Nat.div_lt_of_lt_mul (two_mul r▸Nat.add_lt_add_right h r);have b:l<=(l+r) / 2:=(Nat.le_div_iff_mul_le Nat.two_pos).mpr (mul_two l▸add_le_add_left (le_of_lt h) l)
 ⟨J6 a hr,b,a,Nat.le_pred_of_lt (J6 (Nat.sub_lt_sub_right b a) hf),Nat.le_pred_of_lt (J6 (Nat.sub_lt_sub_left h (lt_succ_of_le b)) hf)⟩
def gV (L:vF M A s k₀ κ a₀) (hn:n<=a₀.size) (h1:1<=ok) (h2:ok<=n) (I:SI k₀ a₀ st) (hs:SortedToK κ (arrOf st) ok) (h:∀ B8,SI k₀ a₀ B8->SortedToK κ (arrOf B8) n->Q true B8):wpS M A E s (binarySort' 0 n ok) Q st:=by
 rw [binarySort'_eq];have hm:max ok 1=ok:=Nat.max_eq_left h1;refine wpS_bind (wpS_forRange (I:=fun k c B8=>c=(none,())/\SI k₀ a₀ B8/\SortedToK κ (arrOf B8) k) ?_ (fun c B8 ⟨e,I',C1⟩=>by subst e; rw [hm,max_eq_right h2] at C1; exact wpS_pure (h B8 I' C1)) ⟨rfl,I,hm.symm▸hs⟩);rintro k c B8 hk1 HJ ⟨rfl,I',C1⟩;have HI:=J6 HJ hn;have fin:∀ l,l<=k->(∀ i,i < l->κ.kle (KK κ (arrOf B8) i) (KK κ (arrOf B8) k))->(∀ i,l<=i->i < k->κ.kle (KK κ (arrOf B8) k) (KK κ (arrOf B8) i))->SI k₀ a₀ (setArr B8 (bubble (arrOf B8) (0+k) (0+k - (0+l))))/\SortedToK κ (arrOf (setArr B8 (bubble (arrOf B8) (0+k) (0+k - (0+l))))) (k+1):=fun l hl a b=>
  ⟨I'.setArr (bubble_perm _ _ _),by show SortedToK κ (bubble (arrOf B8) (0+k) (0+k - (0+l))) (k+1); rw [zero_add,zero_add]; exact oI (I'.size▸HI) hl C1 a b⟩
 refine wpS_bind (wpS_forRange (I:=fun x c DN=>DN=B8/\∃ l r,c=(none,l,r)/\l<=r/\r<=k/\r - l<=k - x/\(∀ i,i < l->κ.kle (KK κ (arrOf B8) i) (KK κ (arrOf B8) k))/\∀ i,r<=i->i < k->κ.kle (KK κ (arrOf B8) k) (KK κ (arrOf B8) i)) ?_ ?_ ⟨rfl,0,k,rfl,zero_le _,le_refl _,le_refl _,fun i q=>absurd q (not_lt_zero _),fun i q z=>absurd z (not_lt.mpr q)⟩)
 ·rintro x c DN _ _ ⟨rfl,l,r,rfl,hlr,hr,hf,a,b⟩;dsimp only;split
  ·rename_i q;cases le_antisymm hlr q
   exact wpS_pure (wpS_bind (by rw [moveDown'_eq]; exact wpS_modify (wpS_pure ⟨rfl,fin l hr a b⟩)))
  ·rename_i q;obtain ⟨m1,m2,m3,m4,m5⟩:=zC q hr hf;refine wpS_bind (dM L I' (by rw [zero_add]; exact HI) (by rw [zero_add]; exact lt_trans m1 HI) fun bb e=>?_);rw [zero_add,zero_add] at e;cases bb
   ·exact wpS_pure ⟨rfl,_,r,rfl,m3,hr,m5,fun i hi=>kle_trans (C1 i _ (Jd hi) m1) e,b⟩
   ·exact wpS_pure ⟨rfl,l,_,rfl,m2,le_of_lt m1,m4,a,fun i hi hk=>kle_trans (kle_of_klt e) (C1 _ i hi hk)⟩
 ·rintro c DN ⟨rfl,l,r,rfl,hlr,hr,hf,a,b⟩;have:l=r:=le_antisymm hlr (by have:r - l<=k - max 0 k:=hf; rw [max_eq_right (zero_le _),sub_self] at this; exact Nat.sub_eq_zero_iff_le.mp (le_zero.mp this));subst this;exact wpS_bind (by rw [moveDown'_eq]; exact wpS_modify (wpS_pure ⟨rfl,fin l hr a b⟩))
def g6 [Decidable c] (h1:c->wpS M A E s t Q st) (h2:¬ c->wpS M A E s e Q st):wpS M A E s (if c then t else e) Q st:=by
 split
 ·exact h1 ‹_›
 ·exact h2 ‹_›
def oz (h2:2<=n) (h:n < 64):minRun' n n 0=n:=by
 obtain ⟨f,rfl⟩:∃ f,n=f+2:=⟨n - 2,(Nat.sub_add_cancel h2).symm⟩;rw [minRun'_succ,if_pos h]
theorem SI.out (I:SI k₀ a₀ st):∃ xs g,st=SortSt.mk' k₀ xs #[] g none/\xs.Perm a₀:=by
 obtain ⟨hp,hk,hf,hd⟩:=I;obtain ⟨k,xs,p,g,f⟩:=st;subst hk; subst hf; subst hd;exact ⟨_,_,rfl,hp⟩
def kE (L:vF M A s k₀ κ a₀) (I:SI k₀ a₀ st) (h2:2<=a₀.size) (hq:a₀.size < 64) (h:∀ B8,(arrOf B8).Perm a₀->failedOf B8=none->SortedToK κ (arrOf B8) a₀.size->Q () B8):wpS M A E s sortRuns' Q st:=by
 refine wpS_bind (wpS_get ?_);extract_lets size mr lo;have hs:size=a₀.size:=I.size;have hm:mr=size:=oz (hs▸h2) (hs▸hq)
 clear_value mr size
 subst hs;refine wpS_bind (wpS_mono (wpS_forRange (I:=fun x c B8=>(x=0/\c=(none,0)/\B8=st)\/(c=(none,a₀.size)/\(arrOf B8).Perm a₀/\failedOf B8=none/\(pendingOf B8).size<=1/\SortedToK κ (arrOf B8) a₀.size)) (Q:=fun c B8=>c=(none,a₀.size)/\(arrOf B8).Perm a₀/\failedOf B8=none/\(pendingOf B8).size<=1/\SortedToK κ (arrOf B8) a₀.size) ?_ ?_ (.inl ⟨rfl,rfl,rfl⟩)) ?_)
 ·rintro x c B8 _ hx (⟨rfl,rfl,rfl⟩ | ⟨rfl,R⟩)
  ·refine g6 (fun hl=>absurd (zB1 h2 (hl:a₀.size<=0)) (by decide)) fun hl=>?_;refine wpS_bind (kF (nrem:=a₀.size) L (le_refl _) (le_of_succ_le h2) I fun m DE I1 hm1 hm2 FV=>?_);dsimp (zeta:=false) only;extract_lets n jp force n'
   let RR:ForInStep (Option Unit×Nat)->SortSt->Prop:=fun r CG=>match r with
    | .done c'=>c'=(none,a₀.size)/\(arrOf CG).Perm a₀/\failedOf CG=none/\(pendingOf CG).size<=1/\SortedToK κ (arrOf CG) a₀.size
    | .yield c'=>(0+1=0/\c'=(none,0)/\CG=B8)\/(c'=(none,a₀.size)/\(arrOf CG).Perm a₀/\failedOf CG=none/\(pendingOf CG).size<=1/\SortedToK κ (arrOf CG) a₀.size)
   have Fm:∀ n DE,SI k₀ a₀ DE->n=a₀.size->SortedToK κ (arrOf DE) a₀.size->wpS M A E s (jp () n) RR DE:=by
    intro n DE I1 e FV;obtain ⟨xs,g,rfl,hp⟩:=I1.out;subst e;refine wpS_bind (wpS_get ?_);exact wpS_bind (wpS_modify (wpS_pure (.inr ⟨by rw [zero_add],hp,rfl,le_refl 1,FV⟩)))
   refine wpS_mono (?_:wpS M A E s _ RR DE) fun r U q=>by cases r <;> exact q
   refine g6 (fun q=>?_) fun q=>?_
   ·refine wpS_bind (wpS_lift (wpAny_rule ⟨rfl,?_⟩));have q:m < mr:=q;have hf:min (a₀.size - 0) mr=a₀.size:=by rw [hm]; exact Nat.min_self _
    show wpS M A E s (binarySort' 0 (min (a₀.size - 0) mr) m >>= _) _ _
    rw [hf];exact wpS_bind (gV L (le_refl _) hm1 hm2 I1 FV fun Fd I2 hs2=>Fm _ Fd I2 hf hs2)
   ·have q:¬ m < mr:=q;have e:m=a₀.size:=le_antisymm hm2 (le_of_not_lt fun z=>q (hm▸z));exact Fm m DE I1 e (e▸FV)
  ·exact g6 (fun hl=>wpS_pure ⟨rfl,R⟩) fun hl=>absurd (le_refl a₀.size) hl
 ·rintro c B8 (⟨q,_⟩ | q)
  ·exact absurd q (by rw [Nat.zero_max]; exact ne_of_gt (J6 (by decide) h2))
  ·exact q
 ·rintro c B8 ⟨rfl,hp,hf,hd,hs⟩;refine wpS_bind (wpS_forRange (I:=fun U c DN=>c=(none,())/\DN=B8) ?_ ?_ ⟨rfl,rfl⟩)
  ·rintro y c DE _ _ ⟨rfl,rfl⟩;refine wpS_bind (wpS_get ?_);exact g6 (fun U=>wpS_pure (wpS_pure (h _ hp hf hs))) fun q'=>absurd hd q'
  ·rintro c DE ⟨rfl,rfl⟩;exact wpS_pure (h _ hp hf hs)
end
def set_len:typeLookup (.type "set") "__len__"=pure (some (.builtin "set.__len__")):=by rw [typeLookup_type,builtinLookup_eq_fast]; kernel_rfl
section
variable {prog:Program} {w:World} {A:Around} {E:Value->Shared->Prop} {s:Shared} {S:Addr} {es:Array (Int×Value)} {L:Bool}
def ui (hT:s.TypeIs (.ref S) "set") (h:Q false s):wpAny (model prog w) A (Builtin.List.listLengthHint (.ref S)) Q E s:=by
 unfold Builtin.List.listLengthHint;refine zC1 (wpAny_specialOf hT set_len ?_)
 wp_delta
 refine zC1 (wpAny_isInstance hT sub_set_self ?_);refine (?_:wpAny _ A (typeOf (Value.ref S) >>= _) _ _ _);exact zC1 (wpAny_typeOf hT (wpAny_pure h))
def mE (hh:A.handled=none) (hL:L = !w.params.followText "set-order") (T:TS s.heap S es L)
  (h:∀ (out:List Value) h' d tk,out.Perm (es.toList.map (·.2))->ah s.heap h'->Q out { s with heap:=h',drawn:=d,toks:=tk }):wpAny (model prog w) A (collect (.ref S)) Q E s:=by
 have hn:es.size<=sizeLine:=by
  obtain ⟨o,ep,t,ho,C6,hd,T,hr,hl⟩:=T;refine zB1 (?_:es.size<=8191) (by decide);exact zB1 (le_of_lt (lt_of_mul_lt_mul_right (J5 (mul_le_mul_left es.size (by decide:3<=5)) hr))) (by rcases T.msk with q | q | q | q | q | q <;> rw [q] <;> decide)
 have T0:=T;obtain ⟨o,ep,t,ho,C6,hd,_⟩:=T;have hT:∀ s':Shared,s'.heap.get? S=some o->s'.TypeIs (.ref S) "set":=fun s' e=>⟨o,e,C6.1⟩;have Gm:s.heap.objs.size≠S:=(aN ho).symm;unfold collect;refine zC1 (wpAny_runValue (codeAny_builtin PySem.F.entry_proto_collect ?_));rw [under_plainId PySem.F.plain_proto_collect _];refine (?_:wpAny _ A.in1 (newList [] >>= fun l=>again (.builtin "list.__iadd__" ⟨[l,.ref S],[]⟩)) _ _ s);refine zC1 (wpAny_newObj_type ?_);refine zC2 ⟨plainId_quiet PySem.F.plain_list_iadd _,codeAny_builtin PySem.F.entry_list_iadd ?_⟩;rw [under_plainId PySem.F.plain_list_iadd _];refine (?_:wpAny _ A.in1 (Builtin.List.listExtendWith (.ref s.heap.objs.size) (.ref S) (.ref s.heap.objs.size)) _ _ _);have k1:=ae s.heap { cls:=.type "list",data:=.seq ([]:List Value).toArray };refine eV (R:=wants _ E) (C:=fun out=>out.Perm (es.toList.map (·.2))) (s:={ s with heap:=s.heap.push { cls:=.type "list",data:=.seq ([]:List Value).toArray } }) hh (J0 _ rfl) Gm (.inl rfl) (hT _ (k1 _ _ ho)) (fun s' Q E k hq=>ui (hT _ (k _ _ (k1 _ _ ho))) hq) (fun Q E hQ=>?_) fun out h' d tk c' hC k hD=>?_
 ·refine ug hL (s:={ s with heap:=s.heap.push { cls:=.type "list",data:=.seq ([]:List Value).toArray } }) (?_:TS _ S es L) fun CY I fp wr St h' d py k2 hw hf W CZ=>?_
  ·obtain ⟨o,ep,t,ho,q1,q2,q3,q4,q5⟩:=T0; exact ⟨o,ep,t,k1 _ _ ho,q1,q2,q3,q4,q5⟩
  have hl:CY.length=es.size:=by rw [py.length_eq,zA4,zB3]
  exact hQ CY I fp wr St h' d py (hl▸hn) k2 hw (fun q=>(hf _ q).elim (fun e=>by rw [J0 _ rfl] at e; (injection e; done)) Gm) (hl▸W A.in1 hh) CZ
 ·refine (?_:wpAny _ A (load s.heap.objs.size >>= _) _ _ _);refine zC1 (wpAny_load hD ?_);exact zC2 (h out h' d tk hC fun b ob e=>k b ob (aN e) (k1 _ _ e))
end
noncomputable abbrev fR:Bool->SortKind:=sortPriv% PySem.Builtin.KeyKind.tuples
section
variable {prog:Program} {w:World} {A:Around} {E:Value->Shared->Prop} {s:Shared}
def zq (hp:uY k p=true) (hq:uY m q=true) (hk:(k.isLeft==m.isLeft)=true) (h:Q (gA k m) s):wpAny (model prog w) A (oneLt' b p q) Q E s:=
 a9 (C:=fun k p=>(k.isLeft==m.isLeft)=true->Q (gA k m) s->wpAny (model prog w) A (oneLt' b p q) Q E s) hp
  (fun i t hk h=>a9 (C:=fun m q=>(true==m.isLeft)=true->Q (gA (.inl i) m) s->wpAny (model prog w) A (oneLt' b (.int i t) q) Q E s) hq (fun j u U h=>by
    cases b
    ·rw [oneLt'_eq]; exact zC1 (P.lt_int (wpAny_truthy_bool h))
    ·exact oneLt_int h) (fun U U hk=>nB hk) hk h)
  (fun x t hk h=>a9 (C:=fun m q=>(false==m.isLeft)=true->Q (gA (.inr x) m) s->wpAny (model prog w) A (oneLt' b (.str x t) q) Q E s) hq (fun U U hk=>nB hk) (fun y u U h=>by
    cases b
    ·rw [oneLt'_eq]; exact zC1 (lt_str (wpAny_truthy_bool h))
    ·exact oneLt_str h) hk h) hk h
inductive KLt (prog:Program) (w:World) (s:Shared) (sz:Bool) (Q:Bool->Shared->Prop) (rest:List ((Value×Value)×Nat)) (o:Option Bool) (s':Shared):Prop
 | mk (hr:o=none) (es:s'=s) (ks ms:List Sc) (vs us:List Value) (j:Nat) (er:rest=(vs.zip us).zipIdx j) (hv:ItemsAre (av prog w) ks vs) (hu:ItemsAre (av prog w) ms us) (hk:ltK ks ms=true) (h:Q (bf ks ms) s) (hz:sz=decide (vs.length < us.length)):KLt prog w s sz Q rest o s'
set_option tactic.hygienic true in
def zM (hc:IsTupleKey (av prog w) s.heap ks c) (C4:IsTupleKey (av prog w) s.heap ms c') (hk:ltK ks ms=true) (h:Q (bf ks ms) s):wpAny (model prog w) A (keyLt' (fR b) (.ref c) (.ref c')) Q E s:=by
 obtain ⟨o,items,n,ho,_,hd,hi⟩:=hc;obtain ⟨o',De,n',CA,_,Cv,D7⟩:=C4;refine zC1 (listItems_at ho hd ?_);refine zC1 (listItems_at CA Cv ?_);refine zC1 (wpAny_forIn_list _ (fun rest r s'=>KLt prog w s (decide (items.size < De.size)) Q rest r.1 s') _ ?_ ?_ _ _ ⟨rfl,rfl,ks,ms,items.toList,De.toList,0,rfl,hi,D7,hk,h,rfl⟩)
 ·rintro v rest r s' ⟨hr,rfl,ks,ms,vs,us,j,e,hv,hu,hk,h,hsz⟩;cases hv with
  | nil=>(injection e; done)
  | cons h1 hv=>
   cases hu with
   | nil=>(injection e; done)
   | cons h2 hu=>
    cases e
    refine zC1 ((av prog w).eqBool h1 h2 ?_);rename_i k p ks vs m q ms us;rw [zD] at hk;rw [lex_cc] at h;by_cases e:k=m
    ·rw [decide_eq_true e];rw [if_pos e] at hk h;exact zC2 ⟨rfl,rfl,ks,ms,vs,us,j+1,rfl,hv,hu,hk,h,hsz.trans (decide_eq_decide.mpr Nat.succ_lt_succ_iff)⟩
    ·rw [decide_eq_false e];rw [if_neg e] at hk h;exact zC1 (zq h1 h2 hk (zC2 (wpAny_pure h)))
 ·rintro ⟨r1,r2⟩ s' ⟨hr,rfl,ks,ms,vs,us,j,e,hv,hu,hk,h,hsz⟩;subst hr;refine zC2 ?_
  show Q (decide (items.size < De.size)) s'
  rw [hsz];have:bf ks ms=decide (vs.length < us.length):=by
   cases hv with
   | nil=>cases hu <;> rfl
   | cons h1 hv=>
    cases hu with
    | nil=>rfl
    | cons h2 hu=>(injection e; done)
  rw [<- this]; exact h
theorem qH {α β:Type} {f:α->Sem β} {C:β->Prop}:∀ {l:List α} {Q:List β->Shared->Prop},(∀ a∈l,∀ Q:β->Shared->Prop,(∀ b,C b->Q b s)->wpAny M A (f a) Q E s)->(∀ bs,(∀ b∈bs,C b)->Q bs s)->wpAny M A (l.mapM f) Q E s
 | [],Q,_,h=>by rw [List.mapM_nil]; exact zC2 (h [] fun U q=>nM q)
 | a :: l,Q,hf,h=>by
  rw [mapM_cons];refine zC1 (hf a (.head _) _ fun b hb=>zC1 (qH (fun a q=>hf a (.tail _ q)) fun bs hbs=>zC2 (h _ fun b' q=>?_)));rcases mem_cons.mp q with rfl | q
  ·exact hb
  ·exact hbs _ q
def nV {α β:Type} {f:α->Sem β} {C:β->Prop} {xs:Array α} {Q:Array β->Shared->Prop} (hf:∀ a∈xs.toList,∀ Q:β->Shared->Prop,(∀ b,C b->Q b s)->wpAny M A (f a) Q E s) (h:∀ bs,(∀ b∈bs.toList,C b)->Q bs s):wpAny M A (xs.mapM f) Q E s:=by
 rw [Array.mapM_eq_mapM_toList];exact zC1 (qH hf fun bs hb=>zC2 (h _ hb))
def ue {vs:Array Value} {Q:SortKind->Shared->Prop} (hv:∀ v∈vs.toList,∃ c x ks,v=.ref c/\IsTupleKey (av prog w) s.heap (x :: ks) c) (h:∀ b,Q (fR b) s):wpAny (model prog w) A (keyKind' vs) Q E s:=by
 refine zC1 (nV (C:=fun r=>∃ k v,r=some v/\uY k v=true) (fun v m Q hQ=>?_) fun fs hfs=>?_)
 ·obtain ⟨c,x,ks,rfl,k⟩:=hv v m;have hT:=k.typeIs;obtain ⟨o,items,n,ho,_,hd,hi⟩:=k;refine zC1 (wpAny_typeOf hT ?_);refine zC1 (listItems_at ho hd (zC2 (hQ _ ?_)));obtain ⟨l⟩:=items;cases hi with
  | cons hx _=>exact ⟨x,_,rfl,hx⟩
 ·have ha:fs.all (·.isSome)=true:=by
   rw [<- all_toList,Jb]; intro f m; obtain ⟨k,v,rfl,_⟩:=hfs f m; rfl
  rw [if_pos ha];refine (bRu ?_);refine zC1 (zC1 (nV (C:=fun U=>True) (fun v m Q hQ=>?_) fun ts U=>?_))
  ·rw [toList_filterMap] at m;obtain ⟨f,mf,e⟩:=List.mem_filterMap.mp m;obtain ⟨k,u,rfl,hk⟩:=hfs f mf;(injection e with e; subst e);exact a9 (C:=fun U u=>wpAny (model prog w) A (typeOf u) Q E s) hk (fun i t=>wpAny_typeOf (typeIs_int s i t) (hQ _ trivial)) fun x t=>wpAny_typeOf (typeIs_str s x t) (hQ _ trivial)
  ·split
   ·exact zC2 (zC2 (h _))
   ·exact zC2 (zC2 (h _))
end
def rT (a:Sc):gA a a=false:=by
 cases a with
 | inl i=>exact decide_eq_false (Int.lt_irrefl i)
 | inr x=>exact decide_eq_false (List.lt_irrefl _)
def tD (h1:gA a b=true) (h2:gA b c=true):gA a c=true:=by
 cases a with
 | inl i=>cases b with
  | inl j=>cases c with
   | inl k=>exact decide_eq_true (Int.lt_trans (of_decide_eq_true h1) (of_decide_eq_true h2))
   | inr z=>rfl
  | inr y=>cases c with
   | inl k=>(injection h2; done)
   | inr z=>rfl
 | inr x=>cases b with
  | inl j=>(injection h1; done)
  | inr y=>cases c with
   | inl k=>(injection h2; done)
   | inr z=>exact decide_eq_true (List.lt_trans (of_decide_eq_true h1) (of_decide_eq_true h2))
def tE (h:a≠b) (h1:gA a b=false):gA b a=true:=by
 cases a with
 | inl i=>cases b with
  | inl j=>exact decide_eq_true (Int.lt_iff_le_and_ne.mpr ⟨Int.not_lt.mp (of_decide_eq_false h1),fun e=>h (congrArg _ e.symm)⟩)
  | inr y=>(injection h1; done)
 | inr x=>cases b with
  | inl j=>rfl
  | inr y=>
   refine decide_eq_true (byContradiction fun q=>h (congrArg _ ?_));have:=List.le_antisymm (List.not_lt.mp q) (List.not_lt.mp (of_decide_eq_false h1));obtain ⟨⟨x⟩⟩:=x; obtain ⟨⟨y⟩⟩:=y;exact congrArg _ (congrArg _ this)
theorem iq:∀ l:List Sc,bf l l=false
 | []=>rfl
 | k :: ks=>by rw [lex_cc,if_pos rfl]; exact iq ks
theorem gg:∀ {a b c:List Sc},bf a b=true->bf b c=true->bf a c=true
 | [],[],_,h,_=>nB h
 | [],_ :: _,[],_,h=>nB h
 | [],_ :: _,_ :: _,_,_=>rfl
 | _ :: _,[],_,h,_=>nB h
 | _ :: _,_ :: _,[],_,h=>nB h
 | x :: a,y :: b,z :: c,h1,h2=>by
  rw [lex_cc] at h1 h2 ⊢;by_cases e1:x=y
  ·subst e1;rw [if_pos rfl] at h1;by_cases e2:x=z
   ·rw [if_pos e2] at h2 ⊢; exact gg h1 h2
   ·rw [if_neg e2] at h2 ⊢; exact h2
  ·rw [if_neg e1] at h1;by_cases e2:y=z
   ·subst e2; rw [if_neg e1]; exact h1
   ·rw [if_neg e2] at h2;have:=tD h1 h2;rw [if_neg fun e=>by rw [e,rT] at this; (injection this; done)]; exact this
theorem gh:∀ {a b:List Sc},a≠b->bf a b=false->bf b a=true
 | [],[],h,_=>absurd rfl h
 | [],_ :: _,_,h=>nB h.symm
 | _ :: _,[],_,_=>rfl
 | x :: a,y :: b,h,h1=>by
  rw [lex_cc] at h1 ⊢;by_cases e:x=y
  ·subst e; rw [if_pos rfl] at h1 ⊢; exact gh (fun e=>h (by rw [e])) h1
  ·rw [if_neg e] at h1; rw [if_neg (Ne.symm e)]; exact tE e h1
open Classical in
noncomputable def fG (prog:Program) (w:World) (h:Heap):Value->Option (List Sc)
 | .ref c=>if q:∃ ks,IsTupleKey (av prog w) h ks c then some q.choose else none
 | _=>none
def dR (k:IsTupleKey (av prog w) h ks c):fG prog w h (.ref c)=some ks:=by
 have q:∃ ks,IsTupleKey (av prog w) h ks c:=⟨ks,k⟩;exact (dif_pos q).trans (congrArg some (q.choose_spec.inj k))
noncomputable def cQ (prog:Program) (w:World) (h:Heap):KKd where
 α:=List Sc
 blt:=bf
 irrefl:=iq
 trans:=fun U U U=>gg
 negTrans:=fun a b c h=>by
  by_cases e:a=b
  ·subst e; exact .inr h
  ·cases q:bf a b with
   | true=>exact .inl rfl
   | false=>exact .inr (gg (gh e q) h)
 total:=fun a b h1 h2=>byContradiction fun e=>by rw [gh e h1] at h2; (injection h2; done)
 keyOf:=fG prog w h
 dflt:=[]
section
variable {prog:Program} {w:World} {A:Around} {E:Value->Shared->Prop} {s:Shared}
structure Ordered (prog:Program) (w:World) (h:Heap) (vs:List Value):Prop where
 keys:∀ v∈vs,∃ c x ks,v=.ref c/\IsTupleKey (av prog w) h (x :: ks) c
 lt:∀ c c' ks ms,.ref c∈vs->.ref c'∈vs->IsTupleKey (av prog w) h ks c->IsTupleKey (av prog w) h ms c'->ltK ks ms=true
theorem Ordered.move (O:Ordered prog w h vs) (p:ws.Perm vs) (k:∀ ks c,IsTupleKey (av prog w) h ks c->IsTupleKey (av prog w) h' ks c):Ordered prog w h' ws where
 keys:=fun v m=>let ⟨c,x,ks,e,q⟩:=O.keys v (p.mem_iff.mp m); ⟨c,x,ks,e,k _ _ q⟩
 lt:=fun c c' ks ms m m' q q'=>by
  obtain ⟨_,x,DF,e,z⟩:=O.keys _ (p.mem_iff.mp m);obtain ⟨_,x',ks'',e',z'⟩:=O.keys _ (p.mem_iff.mp m');(injection e with e; subst e); (injection e' with e'; subst e');rw [q.inj (k _ _ z),q'.inj (k _ _ z')];exact O.lt c c' _ _ (p.mem_iff.mp m) (p.mem_iff.mp m') z z'
def jR {vs:List Value} {a:Array Keyed} (p:a.Perm (pairsOf vs)):(a.map (·.2)).toList.Perm vs:=by
 rw [toList_map];refine ((Array.perm_iff_toList_perm.mp p).map _).trans (.of_eq ?_);rw [pairsOf_toList,List.map_snd_zip (le_refl _)]
def wA (O:Ordered prog w s.heap vs):vF (model prog w) A s (fR b) (cQ prog w s.heap) (pairsOf vs):=fun x y hx hy E Q h=>by
 rw [pairsOf_toList] at hx hy;have mx:=(mem_zip_self hx).2;have my:=(mem_zip_self hy).2;refine aQ fun Z3 Hp=>?_;obtain ⟨c,t,ks,e,k⟩:=O.keys _ mx;obtain ⟨c',t',DF,e',k'⟩:=O.keys _ my;refine Hp ?_;have ex:qP (cQ prog w s.heap) x=t :: ks:=by unfold qP; exact e.symm▸congrArg (Option.getD · []) (dR k)
 have ey:qP (cQ prog w s.heap) y=t' :: DF:=by unfold qP; rw [e']; exact congrArg (Option.getD · []) (dR k')
 rw [ex,ey] at h;rw [e] at mx ⊢;rw [e'] at my ⊢;exact zM k k' (O.lt _ _ _ _ mx my k k') h
def fq (prog:Program) (w:World) (h:Heap) (vs:List Value):Prop:=vs.Pairwise fun x y=>bf ((fG prog w h y).getD []) ((fG prog w h x).getD [])=false
def tG (p:xs.Perm (pairsOf vs)) (hs:SortedToK (cQ prog w h) xs (pairsOf vs).size):fq prog w h (xs.map (·.2)).toList:=by
 have self:∀ x∈xs.toList,x.1=x.2:=fun x m=>by
  have:=(Array.perm_iff_toList_perm.mp p).mem_iff.mp m;rw [pairsOf_toList] at this;exact (mem_zip_self this).1
 refine List.pairwise_iff_getElem.mpr fun i j hi hj CI=>?_;rw [toList_map,zA4,zB3] at hi hj;have q:=hs i j (le_of_lt CI) (p.size_eq▸hj);have key:∀ (i:Nat) (hi:i < xs.size) (D7:i < (xs.map (·.2)).toList.length),KK (cQ prog w h) xs i=(fG prog w h (xs.map (·.2)).toList[i]).getD []:=fun i hi D7=>by
  rw [vP (getElem?_pos xs i hi)];unfold qP;rw [self _ (by simp)];simp only [toList_map,List.getElem_map,Array.getElem_toList];rfl
 rw [<- key i hi,<- key j hj];exact q
theorem Ordered.same (O:Ordered prog w h vs) (k:∀ ks c,IsTupleKey (av prog w) h ks c->IsTupleKey (av prog w) h' ks c):∀ v∈vs,fG prog w h' v=fG prog w h v:=fun v m=>by
 obtain ⟨c,x,ks,rfl,q⟩:=O.keys v m;rw [dR q,dR (k _ _ q)]
theorem fq.congr (r:fq prog w h' vs) (e:∀ v∈vs,fG prog w h' v=fG prog w h v):fq prog w h vs:=Pairwise.imp_of_mem (fun a b z=>by exact (e _ a)▸(e _ b)▸z) r
def rO (ho:s.heap.get? a=some (seqObj "list" vs.toArray n)) (O:Ordered prog w s.heap vs) (few:vs.length < 64)
  (h:∀ out:Array Value,out.toList.Perm vs->fq prog w s.heap out.toList->P (.done (.ret .none)) { s with heap:=sortedHeap s.heap a vs out }):wpAny (model prog w) A (Builtin.«list.sort» ⟨[.ref a],[]⟩) P E s:=by
 have zl:vs.length<=sizeLine:=zB1 (le_of_lt few) (by decide);rw [list_sort_plain];have ha:a < s.heap.objs.size:=lt_size ho;refine zC1 (listItems_at ho rfl ?_);refine zC1 (listUpdate_at ho rfl ?_ (by rw [size_toArray]; exact zl));obtain ⟨e1,Fi⟩:∃ e1,(s.heap.update a (mapSeq fun U=>#[])).get? a=some (seqObj "list" #[] e1):=⟨_,get?_update_seq ho (fun U=>#[])⟩;refine zC1 (seqEpoch_at Fi rfl ?_);refine zC1 (wpAny_newTuple ?_ zl);refine zC1 (wpAny_newList ?_);refine wpAny_holding ?_;have ER:∀ b o,b≠a->s.heap.get? b=some o->(((s.heap.update a (mapSeq fun U=>#[])).push (seqObj "tuple" vs.toArray 0)).push (seqObj "list" #[] 0)).get? b=some o:=fun b o q e=>J7 _ (J7 _ ((get?_update_other _ _ (Ne.symm q)).trans e));have ho6:(((s.heap.update a (mapSeq fun U=>#[])).push (seqObj "tuple" vs.toArray 0)).push (seqObj "list" #[] 0)).get? a=some (seqObj "list" #[] e1):=J7 _ (J7 _ Fi);have k6:∀ ks c,IsTupleKey (av prog w) s.heap ks c->IsTupleKey (av prog w) (((s.heap.update a (mapSeq fun U=>#[])).push (seqObj "tuple" vs.toArray 0)).push (seqObj "list" #[] 0)) ks c:=fun ks c k=>by
  obtain ⟨o,it,n',hc,Cg,r⟩:=k;exact ⟨o,it,n',ER c o (fun q=>by subst q; replace hc:=ho▸hc; (injection hc with hc; subst hc); exact absurd (Value.type.inj Cg) (by decide)) hc,Cg,r⟩
 have O6:=O.move (.refl _) k6;have same:=O.same k6;refine (?_:wpAny (model prog w) A _ P E { s with heap:=((s.heap.update a (mapSeq fun U=>#[])).push (seqObj "tuple" vs.toArray 0)).push (seqObj "list" #[] 0) });dsimp only;have fin:∀ B8:SortSt,(arrOf B8).Perm (pairsOf vs)->failedOf B8=none->SortedToK (cQ prog w (((s.heap.update a (mapSeq fun U=>#[])).push (seqObj "tuple" vs.toArray 0)).push (seqObj "list" #[] 0))) (arrOf B8) (pairsOf vs).size->wpAny (model prog w) A (do
   let Ea:=(<- seqEpoch a) != e1
   Builtin.List.listUpdate (.ref a) fun U=>(arrOf B8).map (·.2)
   if let some e:=failedOf B8 then rule "list.sort.comparison-raised"; throw e
   if Ea then rule "list.sort.modified"; raiseError "ValueError" "list modified during sort"
   ret .none) P E { s with heap:=((s.heap.update a (mapSeq fun U=>#[])).push (seqObj "tuple" vs.toArray 0)).push (seqObj "list" #[] 0) }:=fun B8 hp hf hs=>by
  refine zC1 (seqEpoch_at ho6 rfl ?_);refine zC1 (listUpdate_at ho6 rfl ?_ (hsz2:=Nat.le_succ_of_le (by refine zB1 (zB2 ?_) zl; rw [Array.size_map,hp.size_eq,pairsOf_size])));refine hf.symm▸?_;simp only [bne_self_eq_false,false_eq_true,if_false];exact zC2 (h _ (jR hp) <| (tG hp hs).congr fun v m=>same v ((jR hp).mem_iff.mp m))
 by_cases h2:vs.toArray.size < 2
 ·rw [if_pos h2,if_pos h2];refine (bPu ?_);rw [StateT.run_pure];refine (bPu ?_);refine fin (SortSt.mk' general' (vs.toArray.zip vs.toArray) #[] 7 none) (Array.Perm.refl _) rfl fun i j CI hj=>?_;rw [pairsOf_size,<- size_toArray] at hj;obtain rfl:=le_zero.mp (Jd (J6 hj (Jd h2)));obtain rfl:=le_zero.mp CI;exact kle_refl _
 ·rw [if_neg h2,if_neg h2];refine zC1 (ue (fun v m=>O6.keys v m) fun b=>?_);refine zC1 (wpAny_mono (kE (k₀:=fR b) (κ:=cQ prog w _) (a₀:=pairsOf vs) (st:=SortSt.mk' (fR b) (vs.toArray.zip vs.toArray) #[] 7 none) (Q:=fun U B8=>(arrOf B8).Perm (pairsOf vs)/\failedOf B8=none/\SortedToK (cQ prog w _) (arrOf B8) (pairsOf vs).size) (wA O6) ⟨Array.Perm.refl _,rfl,rfl,rfl⟩ (by rw [pairsOf_size]; exact not_lt.mp h2) (by rw [pairsOf_size]; exact few) fun B8 a1 a2 a3=>⟨a1,a2,a3⟩) ?_ fun U U e=>e);rintro ⟨⟨⟩,B8⟩ s' ⟨rfl,hp,hf,hs⟩;exact fin B8 hp hf hs
end
section
variable {prog:Program} {w:World} {A:Around} {E:Value->Shared->Prop} {s:Shared} {S:Addr} {es:Array (Int×Value)} {L:Bool}
def jK {X:Value} {us:List Value} {Q:Value->Shared->Prop} (few:us.length < 64) (O:Ordered prog w s.heap us)
  (hc:∀ (Q:List Value->Shared->Prop) (E:Value->Shared->Prop),(∀ vs h' d tk,vs.Perm us->ah s.heap h'->Q vs { s with heap:=h',drawn:=d,toks:=tk })->wpAny (model prog w) A.in1 (collect X) Q E s)
  (h:∀ (out:Array Value) h' d tk b e,out.toList.Perm us->fq prog w s.heap out.toList->ah s.heap h'->s.heap.get? b=none->jC s.heap (.ref b)->h'.get? b=some (seqObj "list" out e)->Q (.ref b) { s with heap:=h',drawn:=d,toks:=tk }):wpAny (model prog w) A (call (.builtin "sorted") [X]) Q E s:=by
 refine Calls.call_function_entry kind_sorted plain_sorted entry_sorted (args_sorted1 _) ?_;unfold Builtin.«sorted»;refine wpAny_bind (m:=checkCount "sorted" 1 1 _) (zC2 ?_);refine zC1 (hc _ _ fun vs h1 d tk p k=>?_);have vl:vs.length < 64:=p.length_eq▸few;refine zC1 (wpAny_newList ?_ (zB1 (le_of_lt vl) (by decide)));have k2:ah s.heap (h1.push (seqObj "list" vs.toArray 0)):=k.trans (ae _ _);have HC:(h1.push (seqObj "list" vs.toArray 0)).get? h1.objs.size=some (seqObj "list" vs.toArray 0):=J0 _ rfl;have kk:∀ ks c,IsTupleKey (av prog w) s.heap ks c->IsTupleKey (av prog w) (h1.push (seqObj "list" vs.toArray 0)) ks c:=fun ks c Fb=>Fb.elim fun o Es=>Es.elim fun vs GD=>GD.elim fun n GC=>GC.elim fun ho r=>⟨o,vs,n,k2 _ _ ho,r⟩;have O2:=O.move p kk;refine zC1 (wpAny_holding (wpAny_call_entry slot_list_sort ⟨_,HC,rfl⟩ entry_list_sort (rO HC O2 vl fun out po ro=>⟨_,rfl,?_⟩) (args_list_sort _)));have n0:s.heap.get? h1.objs.size=none:=aH k.live (ag _);obtain ⟨e,he⟩:=sortedHeap_at (out:=out) HC;refine zC2 ⟨_,rfl,h out _ d tk _ e (po.trans p) (ro.congr fun v m=>O.same kk v ((po.trans p).mem_iff.mp m)) (fun b o q=>?_) n0 (fun a b e GB=>GB.elim fun o q=>by (injection e with e; subst e); exact lt_size (k b o q)) he⟩;rw [sortedHeap_old (fun q'=>by subst q'; rw [n0] at q; (injection q; done)) (lt_size (k2 _ _ q))];exact k2 _ _ q
end
section
variable {Φ:Ct} {s:Shared} {v u:Value} {x y z:V} {d:DV}
def mV (hr:Φ.rps h vs r) (hw:∀ x∈r,jo x=true) (R:fq Φ.fx.g.prog Φ.fx.g.w h vs):fM r:=by
 have key:∀ (i:Nat) (hi:i < r.length) (D7:i < vs.length),(fG Φ.fx.g.prog Φ.fx.g.w h vs[i]).getD []=au r[i]:=fun i hi D7=>by
  obtain ⟨v,ev,rv⟩:=hr.get (J9 hi);(injection (J9 D7).symm.trans ev with Xq; subst Xq);obtain ⟨c,e,k⟩:=eD (hw _ (getElem_mem hi)) rv;rw [e,dR k]; rfl
 refine List.pairwise_iff_getElem.mpr fun i j hi hj CI=>?_;have hl:=hr.length;rw [<- key i hi (hl▸hi),<- key j hj (hl▸hj)];exact List.pairwise_iff_getElem.mp R i j (hl▸hi) (hl▸hj) CI
def re {f:Str} {id:String} {fp pos sp spos:Pos} {e:Expr} {P:Shared->Value->Shared->Prop} {dd:V->Prop} (hx:bK Φ.fx.env.scope.names f=true) (hF:bC.lookup f=some (.builtin id)) (hs:bK Φ.fx.env.scope.names "set"=true) (hp:aj e=true) (h:Ev Φ (eval e Φ.fx.env) d)
  (st:∀ s v x E,Inv Φ s->Φ.rp s.heap v x->dd x->wpAny (model Φ.fx.g.prog Φ.fx.g.w) Φ.fx.A (call (.type "set") [v]) (fun u s₁=>wpAny (model Φ.fx.g.prog Φ.fx.g.w) Φ.fx.A (call (.builtin id) [u]) (P s) E s₁) E s) (hP:∀ s s₁ v s',ah s.heap s₁.heap->P s₁ v s'->P s v s') (hd:d dd) (I:Inv Φ s) :
  Φ.wp (eval (.Call (.Name f fp) [.Call (.Name "set" sp) [e] [] spos] [] pos) Φ.fx.env) (P s) s:=fun E=>by
 refine (?_:wpAny _ _ (eval (.Name f fp) Φ.fx.env >>= fun F=>callWith pos F [] (backTo pos (starEach [.Call (.Name "set" sp) [e] [] spos] Φ.fx.env)) []) _ _ s);refine zC1 (bO I hx hF ?_ E);refine callWith_builtin rfl (Calls.evalArgs_plain ?_);refine (?_:wpAny _ _ (eval (.Call (.Name "set" sp) [e] [] spos) Φ.fx.env >>= fun v=>holding [v] (pure []) >>= fun vs=>pure (v :: vs)) _ _ s);refine zC1 ?_;refine (?_:wpAny _ _ (eval (.Name "set" sp) Φ.fx.env >>= fun F=>callWith spos F [] (backTo spos (starEach [e] Φ.fx.env)) []) _ _ s);refine zC1 (bO (v:=.type "set") I hs rfl ?_ E);refine PySem.callWith_type (by rw [aq hp]; rfl) ?_;refine bT (qs:=[(e,d)]) (K:=fun xs=>okK (one xs some) dd) (fun q m=>by obtain rfl:=zA6 m; exact ⟨hp,h⟩) hd I fun vs xs s₁ g' B7 hx rs=>ab hx fun x e hx=>?_;refine ci (C:=fun vs=>wpAny _ _ (call (.type "set") ([]++vs) []) _ _ s₁) e rs fun v x' r e=>?_;cases e
 exact wpAny_mono (st s₁ _ x E g' r hx) (fun u w' p=>zC1 (wpAny_holding (zC2 (zC2 (wpAny_mono p (fun U U q=>hP _ _ _ _ B7 q) fun U U z=>z))))) fun U U z=>z
def kM {fp pos sp spos:Pos} {e:Expr} (hx:bK Φ.fx.env.scope.names "sorted"=true) (hs:bK Φ.fx.env.scope.names "set"=true) (hp:aj e=true) (h:Ev Φ (eval e Φ.fx.env) d) :
  EvN Φ (eval (.Call (.Name "sorted" fp) [.Call (.Name "set" sp) [e] [] spos] [] pos) Φ.fx.env) (fun K=>d fun x=>okK (bz x some) fun l=>(l.all oh&&decide (l.length<=ac))=true/\(∀ x∈l,∀ y∈l,ltK (au x) (au y)=true)/\(∃ m:List V,m.length < 64/\∀ x∈l,x∈m)/\∀ r:List V,r.Nodup->(∀ y,y∈r ↔ y∈l)->fM r->K (.list r)):=fun K s hd I=>by
 refine re (P:=fun s=>fN Φ s K) hx rfl hs hp h (fun s v x E I r hx=>?_) (fun U U U U k p=>p.lift k) hd I;refine ab hx fun l e Ie=>Ie.elim fun q Ia=>Ia.elim fun Cm H'=>H'.elim fun GA hK=>GA.elim fun few Fa=>Fa.elim fun CQ Fo=>?_;refine cw (C:=fun x=>Φ.rp s.heap v x->wpAny _ _ (call (.type "set") [v]) _ E s) e (fun l' e r=>?_) r;cases e
 have q:=zA2 q;have hw:∀ x∈l,oh x=true:=Jb.mp q.1;refine r.list_elim fun a o vs n U ha hc hd hl=>?_;have hu:=I.room;have hsz:=aR hl;refine je (T:="list") I.ok.hand hu (fun s' k=>⟨o,k _ _ ha,hc.1⟩) PySem.F.sub_list_set PySem.F.sub_list_frozenset (by decide) (j7 ⟨o,ha,hc.1,n,hd⟩) (oN hl hw Fo (J6 CQ (by decide))) fun h' tk hZ k=>?_;obtain ⟨es,r,T,he,hr,F6,hm⟩:=hZ;rw [hsz,take_length] at hm;have O:Ordered Φ.fx.g.prog Φ.fx.g.w h' (es.toList.map (·.2)):=by
  have kk:∀ y∈r,∀ v,Φ.rp s.heap v y->∃ c x ks,v=.ref c/\au y=x :: ks/\IsTupleKey (av Φ.fx.g.prog Φ.fx.g.w) h' (x :: ks) c:=fun y my v ry=>by
   have hy:=hw y ((hm y).mp my);obtain ⟨c,e,z⟩:=eD (cP hy) ry;obtain ⟨x,ks,eh⟩:=mU (cP hy);exact ⟨c,x,ks,e,eh,eh▸dQ k z⟩
  refine ⟨fun v m=>?_,fun c c' ks ms m m' q q'=>?_⟩
  ·obtain ⟨y,my,ry⟩:=hr.of_mem m;obtain ⟨c,x,ks,e,_,z⟩:=kk y my v ry;exact ⟨c,x,ks,e,z⟩
  ·obtain ⟨y,my,ry⟩:=hr.of_mem m;obtain ⟨y',FG,Hf⟩:=hr.of_mem m';obtain ⟨_,x,DF,e,eh,z⟩:=kk y my _ ry;obtain ⟨_,x',ms',e',H6,z'⟩:=kk y' FG _ Hf;(injection e with e; subst e); (injection e' with e'; subst e');rw [q.inj z,q'.inj z',<- eh,<- H6];exact Cm y ((hm y).mp my) y' ((hm y').mp FG)
 have H4:∀ {few:List V} {n:Nat},few.length < n->(∀ x∈l,x∈few)->es.size < n:=fun {few} n CQ Fo=>by
  rw [mT hr]; exact J5 (F6.length_le_of_subset (l₂:=few) fun y q=>Fo y ((hm y).mp q)) CQ
 refine jK (s:={ s with heap:=h',toks:=tk }) (by rw [zA4,zB3]; exact H4 CQ Fo) O (fun Q E hQ=>mE I.ok.hand rfl T hQ) fun out h2 dr tk2 b e po ro k2 hb HD ho=>?_;obtain ⟨R,pR,rR⟩:=RpAll.perm po hr;have nb:s.heap.get? b=none:=aH k.live hb;have hRw:∀ x∈R,jo x=true:=fun y q=>cP <| hw y ((hm y).mp (pR.mem_iff.mp q));refine ⟨⟨⟨I.base.stays.trans (k.trans k2),I.base.os,I.base.gens⟩,(k.trans k2),.list R,hK R (pR.nodup_iff.mpr F6) (fun y=>pR.mem_iff.trans (hm y)) (mV (rR.keep k) hRw ro),.list (fun q=>?_) ho ⟨rfl,rfl⟩ rfl (rR.keep (k.trans k2))⟩,HD.le fun b l=>k.live l⟩;obtain ⟨o',e'⟩:=I.badLive q;rw [nb] at e'; (injection e'; done)
open Classical in
def sG {fp pos sp spos:Pos} {e:Expr} (hx:bK Φ.fx.env.scope.names "len"=true) (hs:bK Φ.fx.env.scope.names "set"=true) (hp:aj e=true) (h:Ev Φ (eval e Φ.fx.env) d) :
  Ev Φ (eval (.Call (.Name "len" fp) [.Call (.Name "set" sp) [e] [] spos] [] pos) Φ.fx.env) (fun K=>d fun x=>okK ((jn x).map fun n=>.int n) K):=fun K s hd I=>by
 refine re (P:=fun s=>Post Φ Φ.rp s K) hx rfl hs hp h (fun s v x E I r hx=>?_) (fun U U U U k p=>p.lift k) hd I;refine ab hx fun z e kz=>map_elim (C:=fun z=>K z->_) e (fun n e kz=>?_) kz;have fin:∀ {Kd:Type} [DecidableEq Kd] (kd:KeyKind Φ.fx.g.prog Φ.fx.g.w Kd) (S:Kd->Bool) (h':Heap) (tk:Nat),h'.SetOf kd s.heap.objs.size S n->ah s.heap h'->wpAny (model Φ.fx.g.prog Φ.fx.g.w) Φ.fx.A (call (.builtin "len") [.ref s.heap.objs.size]) (Post Φ Φ.rp s K) E { s with heap:=h',toks:=tk }:=fun kd S h' tk hS k=>
  wD (s:={ s with heap:=h',toks:=tk }) hS fun t tk'=>⟨⟨I.base.stays.trans k,I.base.os,I.base.gens⟩,k,_,kz,.int _ _⟩
 cases x with
 | str t=>
  refine aK e fun q e=>?_;(injection e with e; subst e);refine r.str_elim fun tk=>?_;have F:=gH (knd:=PySem.strKind Φ.fx.g.prog Φ.fx.g.w) (h₀:=s.heap) (S:=s.heap.objs.size) (P:=SignAt t) (ks:=t.cps.toList.map fun c=>(⟨#[c]⟩:Str)) (fun i v ⟨c,u,hc,e⟩=>⟨⟨#[c]⟩,by rw [Jc,Ja,hc]; rfl,by subst e; simp [PySem.strKind,Value.isStrOf],by subst e; rfl⟩) (Pairwise.map _ (fun a b ne e=>ne (by injection e with e; exact (zA5 (congrArg Array.toList e)).1)) q.1) (by rw [zA4,zB3]; unfold scanBound; exact J5 q.2 (by decide));rw [zA4,zB3] at F;exact je (T:="str") I.ok.hand I.room (fun s' k=>typeIs_str _ _ _) (by rw [isSubtype_type]; kernel_rfl) (by rw [isSubtype_type]; kernel_rfl) (by decide) um F fun h' tk hZ k=>fin (PySem.strKind _ _) _ h' tk hZ k
 | list l=>
  have e:((cT l).bind fun is=>if is.Nodup/\is.length < 4000 then some is.length else none)=some n:=e;obtain ⟨is,ei,e⟩:=bind_eq_some_iff.mp e;refine aK e fun q e=>?_;(injection e with e; subst e);refine r.list_elim fun a o vs n U ha hc hd hl=>?_;have hi:=eT ei hl;have E0:vs.size=is.length:=by rw [<- zB3,hi.nums.symm,zA4]
  have F:=gH (knd:=intKind Φ.fx.g.prog Φ.fx.g.w) (h₀:=s.heap) (S:=s.heap.objs.size) (P:=fun i v=>vs[i]?=some v) (ks:=is) (fun i v e=>?_) q.1 (by unfold scanBound; exact J5 q.2 (by decide))
  ·rw [<- E0] at F;exact je (T:="list") I.ok.hand I.room (fun s' k=>⟨o,k _ _ ha,hc.1⟩) PySem.F.sub_list_set PySem.F.sub_list_frozenset (by decide) (j7 ⟨o,ha,hc.1,n,hd⟩) F fun h' tk hZ k=>fin (intKind _ _) _ h' tk (E0▸hZ) k
  ·obtain ⟨t,et⟩:=hi.int_at i v (Ja▸e);have Cm:i < is.length:=E0▸(Array.getElem?_eq_some_iff.mp e).1;refine ⟨is.getD i 0,by rw [J9 Cm]; simp [Cm],?_,by subst et; rfl⟩;subst et; simp [intKind,Value.isInt]
 | _=>(injection e; done)
end
section
variable {prog:Program} {w:World} {A:Around} {E:Value->Shared->Prop} {s:Shared}
def kO {a:Addr} {o:Obj} {es:Array DictEntry} {n:Nat} {Q:List Value->Shared->Prop} (hh:A.handled=none) (hm:a≠sysModules) (ha:s.heap.get? a=some o) (hc:o.ExactDict) (hd:o.data=.dict es n) (hz:es.size<=sizeLine)
  (h:∀ h' d tk,ah s.heap h'->Q (es.toList.map (·.key)) { s with heap:=h',drawn:=d,toks:=tk }):wpAny (model prog w) A (collect (.ref a)) Q E s:=by
 have hl:(es.toList.map (·.key)).length=es.size:=by rw [zA4,zB3]
 have Gm:s.heap.objs.size≠a:=(aN ha).symm;unfold collect;refine zC1 (wpAny_runValue (codeAny_builtin PySem.F.entry_proto_collect ?_));rw [under_plainId PySem.F.plain_proto_collect _];refine (?_:wpAny _ A.in1 (newList [] >>= fun l=>again (.builtin "list.__iadd__" ⟨[l,.ref a],[]⟩)) _ _ s);refine zC1 (wpAny_newObj_type ?_);refine zC2 ⟨plainId_quiet PySem.F.plain_list_iadd _,codeAny_builtin PySem.F.entry_list_iadd ?_⟩;rw [under_plainId PySem.F.plain_list_iadd _];refine (?_:wpAny _ A.in1 (Builtin.List.listExtendWith (.ref s.heap.objs.size) (.ref a) (.ref s.heap.objs.size)) _ _ _);have k1:=ae s.heap { cls:=.type "list",data:=.seq ([]:List Value).toArray };have Dj:=k1 _ _ ha;refine eV (R:=wants _ E) (T:="dict") (C:=fun out=>out=es.toList.map (·.key)) (s:={ s with heap:=s.heap.push { cls:=.type "list",data:=.seq ([]:List Value).toArray } }) hh (J0 _ rfl) Gm (.inr (.inr rfl)) ⟨o,Dj,hc.1⟩ (fun s' Q E k hq=>j4 ⟨o,k _ _ Dj,hc.1⟩ hq) (fun Q E hQ=>?_) fun out h' d tk c' hC k hD=>?_
 ·have W:=eN (prog:=prog) (w:=w) (A:=A.in1) (I:=(s.heap.push { cls:=.type "list",data:=.seq ([]:List Value).toArray }).objs.size) hh (ne_of_lt (lt_size Dj)) hd;rw [<- hl] at W;refine gi (beq_eq_false_iff_ne.mpr hm) Dj hc hd (hQ _ _ _ _ _ _ s.drawn rfl (by rw [hl]; exact hz) (ae _ _) (fun b m=>?_) (fun m=>?_) W ⟨⟨_,J0 _ rfl,rfl,by rw [hl]; rfl⟩,ae _ _ _ _ Dj⟩)
  ·obtain rfl:=zA6 m; exact ag _
  ·rcases mem_cons.mp m with q | q
   ·rw [size_push] at q; exact absurd q (ne_of_lt (lt_succ_self _))
   ·exact Gm (zA6 q)
 ·subst hC;refine (?_:wpAny _ A (load s.heap.objs.size >>= _) _ _ _);refine zC1 (wpAny_load hD ?_);exact zC2 (h h' d tk fun b ob e=>k b ob (aN e) (k1 _ _ e))
end
section
variable {Φ:Ct} {s:Shared} {v u:Value} {x y z:V} {d:DV}
def oy (hr:Φ.rps s.heap vs r) (hw:∀ x∈r,jo x=true) (Cm:∀ x∈r,∀ y∈r,ltK (au x) (au y)=true):Ordered Φ.fx.g.prog Φ.fx.g.w s.heap vs:=by
 have kk:∀ y∈r,∀ v,Φ.rp s.heap v y->∃ c x ks,v=.ref c/\au y=x :: ks/\IsTupleKey (av Φ.fx.g.prog Φ.fx.g.w) s.heap (x :: ks) c:=fun y my v ry=>by
  obtain ⟨c,e,z⟩:=eD (hw y my) ry;obtain ⟨x,ks,eh⟩:=mU (hw y my);exact ⟨c,x,ks,e,eh,eh▸z⟩
 refine ⟨fun v m=>?_,fun c c' ks ms m m' q q'=>?_⟩
 ·obtain ⟨y,my,ry⟩:=hr.of_mem m;obtain ⟨c,x,ks,e,_,z⟩:=kk y my v ry;exact ⟨c,x,ks,e,z⟩
 ·obtain ⟨y,my,ry⟩:=hr.of_mem m;obtain ⟨y',FG,Hf⟩:=hr.of_mem m';obtain ⟨_,x,DF,e,eh,z⟩:=kk y my _ ry;obtain ⟨_,x',ms',e',H6,z'⟩:=kk y' FG _ Hf;(injection e with e; subst e); (injection e' with e'; subst e');rw [q.inj z,q'.inj z',<- eh,<- H6];exact Cm y my y' FG
def iC {fp pos:Pos} {e:Expr} (hx:bK Φ.fx.env.scope.names "sorted"=true) (hp:aj e=true) (h:Ev Φ (eval e Φ.fx.env) d) :
  EvN Φ (eval (.Call (.Name "sorted" fp) [e] [] pos) Φ.fx.env) (fun K=>d fun x=>okK (vJ x) fun l=>(l.all jo&&decide (l.length < 64))=true/\(∀ x∈l,∀ y∈l,ltK (au x) (au y)=true)/\∀ r:List V,r.Perm l->fM r->K (.list r)):=fun K s hd I=>
 jc hx rfl (.inl ⟨_,rfl⟩) hp h (fun s v x E I r hx=>ab hx fun l e ⟨q,Cm,hK⟩=>by
  have q:=zA2 q;have hw:∀ x∈l,jo x=true:=Jb.mp q.1;have hz:l.length<=ac:=zB1 (le_of_lt (of_decide_eq_true q.2)) (by decide);have fin:∀ X vs,Φ.rps s.heap vs l->(∀ (Q:List Value->Shared->Prop) (E:Value->Shared->Prop),(∀ us h' d tk,us.Perm vs->ah s.heap h'->Q us { s with heap:=h',drawn:=d,toks:=tk })->wpAny (model Φ.fx.g.prog Φ.fx.g.w) Φ.fx.A.in1 (collect X) Q E s)->wpAny (model Φ.fx.g.prog Φ.fx.g.w) Φ.fx.A (call (.builtin "sorted") [X]) (fN Φ s K) E s:=fun X vs hr hc=>by
   refine jK (by rw [hr.length]; exact of_decide_eq_true q.2) (oy hr hw Cm) hc fun out h2 dr tk2 b e po ro k2 hb HD ho=>?_;obtain ⟨R,pR,rR⟩:=RpAll.perm po hr;refine ⟨⟨⟨I.base.stays.trans k2,I.base.os,I.base.gens⟩,k2,.list R,hK R pR (mV rR (fun y q=>hw y (pR.mem_iff.mp q)) ro),.list (fun q=>?_) ho ⟨rfl,rfl⟩ rfl (rR.keep k2)⟩,HD⟩;obtain ⟨o',e'⟩:=I.badLive q;exact af hb e'
  cases x with
  | list m=>
   obtain rfl:=Option.some.inj e;refine r.list_elim fun a o vs n U ha hc hd hl=>?_;exact fin _ vs.toList hl fun Q E hQ=>collect_list ⟨o,ha,hc.1,n,hd⟩ (hQ _ _ _ _ (.refl _) fun b o e=>(get?_update_other _ _ (Ne.symm (aN e))).trans (ae _ _ b o e)) (by rw [hl.length]; exact bV hz)
  | dict kvs=>
   refine aK (e:(if dkV kvs=true then some (kvs.map (·.1)) else none)=some l) fun q' e=>?_;obtain rfl:=Option.some.inj e;refine r.dict_elim q' fun a o es n hb hm ha hc hd he k1 k2=>?_;exact fin _ _ k1 fun Q E hQ=>kO I.ok.hand hm ha hc hd (bV (by have:=k1.length; rw [zA4,zB3] at this; rw [this]; exact hz)) fun h' d tk=>hQ _ h' d tk (.refl _)
  | _=>exact nN e.symm) hd I
end
noncomputable def bQ (fx:Fx):Sx:=⟨fx.env.scope.names,fx.ρ,fx.nf,fx.ns,fx.nw⟩
def ai (fx:Fx) (p:Pz) (x:Expr) (d:D):Prop:=match p with
 | .val=>∀ oa G,Ev ⟨fx,oa,G⟩ (eval x fx.env) (d G)
 | .test=>∀ oa G,EvT ⟨fx,oa,G⟩ (isTrue x fx.env (eval x fx.env)) (tst (d G))
 | .new=>∀ oa G,EvN ⟨fx,oa,G⟩ (eval x fx.env) (d G)
 | .src st T=>∀ oa G,eX ⟨fx,oa,G⟩ T st x (fun K=>d G fun v=>okK (bM v) K)
 | .asg y py sp=>∀ k,TgtOk fx.ρ fx.env y k->ExB fx (exec (.Assign [.Name y py] x sp) fx.env) (fun G K=>d G fun v=>K none (G.set k (.v v)))
def dJ (g:Gl) (n:Nat) (t:Kid) (d:D):Prop:=∀ fx,fx.g=g->fx.d=n->bQ fx=t.1->ai fx t.2.1 t.2.2 d
inductive Kids (g:Gl) (n:Nat):List Kid->List D->Prop
 | nil:Kids g n [] []
 | cons {t:Kid} {ts:List Kid} {d:D} {ds:List D}:dJ g n t d->Kids g n ts ds->Kids g n (t :: ts) (d :: ds)
section
variable {g:Gl} {n:Nat} {ds:List D} {C:List D->Prop} {t u w:Kid}
@[elab_as_elim] theorem Kids.n0 (h:Kids g n [] ds) (k:C []):C ds:=by cases h; exact k
@[elab_as_elim] theorem Kids.nc {ts:List Kid} (h:Kids g n (t :: ts) ds) (k:∀ d ds,dJ g n t d->Kids g n ts ds->C (d :: ds)):C ds:=by cases h with | cons a b=>exact k _ _ a b
@[elab_as_elim] theorem Kids.n1 (h:Kids g n [t] ds) (k:∀ d,dJ g n t d->C [d]):C ds:=h.nc fun d ds a b=>b.n0 (k d a)
@[elab_as_elim] theorem Kids.n2 (h:Kids g n [t,u] ds) (k:∀ d e,dJ g n t d->dJ g n u e->C [d,e]):C ds:=h.nc fun d ds a b=>b.n1 fun e c=>k d e a c
@[elab_as_elim] theorem Kids.n3 (h:Kids g n [t,u,w] ds) (k:∀ d e f,dJ g n t d->dJ g n u e->dJ g n w f->C [d,e,f]):C ds:=h.nc fun d ds a b=>b.n2 fun e f c q=>k d e f a c q
theorem Kids.pairs:∀ {ds:List D},Kids g n (xs.map fun x=>(X,p,x)) ds->∃ qs:List (Expr×D),qs.map Prod.fst=xs/\qs.map Prod.snd=ds/\∀ q∈qs,dJ g n (X,p,q.1) q.2:=by
 induction xs with
 | nil=>intro ds h; exact h.n0 ⟨[],rfl,rfl,fun U m=>nM m⟩
 | cons x xs ih=>
  intro ds h;refine h.nc fun d ds a b=>?_;obtain ⟨qs,e1,e2,hq⟩:=ih b;exact ⟨(x,d) :: qs,congrArg (x :: ·) e1,congrArg (d :: ·) e2,fun q m=>by cases m with | head=>exact a | tail _ m=>exact hq q m⟩
end
section
variable {g:Gl} {n:Nat} {ds:List D} {fx:Fx} {xs:List Expr}
theorem Kids.vals (h:Kids g n (xs.map fun x=>(bQ fx,.val,x)) ds) (hg:fx.g=g) (hn:fx.d=n):∃ qs:Gs->List (Expr×DV),(∀ G,(qs G).map Prod.fst=xs/\(qs G).map Prod.snd=ds.map (· G))/\∀ oa G,∀ q∈qs G,q.1∈xs/\bi ⟨fx,oa,G⟩ q:=by
 obtain ⟨qs,rfl,rfl,hq⟩:=h.pairs;refine ⟨fun G=>qs.map fun q=>(q.1,q.2 G),fun G=>⟨by rw [map_map]; rfl,by rw [map_map,map_map]; rfl⟩,fun oa G q m=>?_⟩;obtain ⟨q',m',rfl⟩:=zA7 m;exact ⟨mem_map.mpr ⟨q',m',rfl⟩,hq q' m' fx hg hn rfl oa G⟩
theorem Kids.items (h:Kids g n (xs.map fun x=>(bQ fx,.val,x)) ds) (hg:fx.g=g) (hn:fx.d=n) (hp:bX xs=true):∃ qs:Gs->List (Expr×DV),(∀ G,(qs G).map Prod.fst=xs/\(qs G).map Prod.snd=ds.map (· G))/\∀ oa G,∀ q∈qs G,aj q.1=true/\bi ⟨fx,oa,G⟩ q:=by
 obtain ⟨qs,h1,h2⟩:=h.vals hg hn;exact ⟨qs,h1,fun oa G q m=>⟨Jb.mp hp _ (h2 oa G q m).1,(h2 oa G q m).2⟩⟩
theorem Kids.tests (h:Kids g n (xs.map fun x=>(bQ fx,.test,x)) ds) (hg:fx.g=g) (hn:fx.d=n):∃ qs:Gs->List (Expr×DV),(∀ G,(qs G).map Prod.fst=xs/\(qs G).map Prod.snd=ds.map (· G))/\∀ oa G,∀ q∈qs G,EvT ⟨fx,oa,G⟩ (isTrue q.1 fx.env (eval q.1 fx.env)) (tst q.2):=by
 obtain ⟨qs,rfl,rfl,hq⟩:=h.pairs;refine ⟨fun G=>qs.map fun q=>(q.1,q.2 G),fun G=>⟨by rw [map_map]; rfl,by rw [map_map,map_map]; rfl⟩,fun oa G q m=>?_⟩;obtain ⟨q',m',rfl⟩:=zA7 m;exact hq q' m' fx hg hn rfl oa G
theorem Kids.news (h:Kids g n (xs.map fun x=>(bQ fx,.new,x)) ds) (hg:fx.g=g) (hn:fx.d=n) (hp:bX xs=true):∃ qs:Gs->List (Expr×DV),(∀ G,(qs G).map Prod.fst=xs/\(qs G).map Prod.snd=ds.map (· G))/\∀ oa G,∀ q∈qs G,aj q.1=true/\EvN ⟨fx,oa,G⟩ (eval q.1 fx.env) q.2:=by
 obtain ⟨qs,rfl,rfl,hq⟩:=h.pairs;refine ⟨fun G=>qs.map fun q=>(q.1,q.2 G),fun G=>⟨by rw [map_map]; rfl,by rw [map_map,map_map]; rfl⟩,fun oa G q m=>?_⟩;obtain ⟨q',m',rfl⟩:=zA7 m;exact ⟨Jb.mp hp _ (mem_map.mpr ⟨q',m',rfl⟩),hq q' m' fx hg hn rfl oa G⟩
theorem Kids.node {f:List Expr->Expr} {op:List V->(V->Prop)->Prop} (h:Kids g n (xs.map fun x=>(bQ fx,.val,x)) ds) (hg:fx.g=g) (hn:fx.d=n) (hp:bX xs=true)
  (k:∀ oa G (qs:List (Expr×DV)),(∀ q∈qs,aj q.1=true/\bi ⟨fx,oa,G⟩ q)->EvC ⟨fx,oa,G⟩ nb (eval (f (qs.map Prod.fst)) fx.env) (fun K=>bn (qs.map Prod.snd) fun xs=>op xs K)):∀ oa G,EvC ⟨fx,oa,G⟩ nb (eval (f xs) fx.env) (fun K=>be ds G fun xs=>op xs K):=fun oa G=>by
 obtain ⟨qs,h1,h2⟩:=h.items hg hn hp;have q:=k oa G (qs G) (h2 oa G);rw [(h1 G).1,(h1 G).2] at q;rw [dg];exact q
end
def bJ {f:Str×Pos->Bool} {C:Expr->Prop} (h:(bm x).any f=true) (k:∀ n p,f (n,p)=true->C (.Name n p)):C x:=
 if hi:x.ctorIdx=23 then Expr.Name.elim (motive_1:=fun x=>(bm x).any f=true->C x) x hi (fun n p h=>k n p h) h else by
  unfold bm at h; rw [dif_neg hi] at h; (injection h; done)
def x5 {f:List Expr×Nat×Pos->Bool} {C:Expr->Prop} (h:(sV x).any f=true) (k:∀ xs k p,f (xs,k,p)=true->C (.Tuple xs k p)):C x:=
 if hi:x.ctorIdx=25 then Expr.Tuple.elim (motive_1:=fun x=>(sV x).any f=true->C x) x hi (fun xs j p h=>k xs j p h) h else by
  unfold sV at h; rw [dif_neg hi] at h; (injection h; done)
def Au {f:List Expr×Pos->Bool} {C:Expr->Prop} (h:(uT x).any f=true) (k:∀ xs p,f (xs,p)=true->C (.List xs p)):C x:=
 if hi:x.ctorIdx=24 then Expr.List.elim (motive_1:=fun x=>(uT x).any f=true->C x) x hi (fun xs p h=>k xs p h) h else by
  unfold uT at h; rw [dif_neg hi] at h; (injection h; done)
def wH {f:Expr×Expr×Pos->Bool} {C:Expr->Prop} (h:(qe x).any f=true) (k:∀ v s p,f (v,s,p)=true->C (.Subscript v s p)):C x:=
 if hi:x.ctorIdx=21 then Expr.Subscript.elim (motive_1:=fun x=>(qe x).any f=true->C x) x hi (fun v s p h=>k v s p h) h else by
  unfold qe at h; rw [dif_neg hi] at h; (injection h; done)
def BP {f:Option Expr×Option Expr×Option Expr×Pos->Bool} {C:Expr->Prop} (h:(xM x).any f=true) (k:∀ l u st p,f (l,u,st,p)=true->C (.Slice l u st p)):C x:=
 if hi:x.ctorIdx=26 then Expr.Slice.elim (motive_1:=fun x=>(xM x).any f=true->C x) x hi (fun l u st p h=>k l u st p h) h else by
  unfold xM at h; rw [dif_neg hi] at h; (injection h; done)
def sQ {f:Expr×List Expr×List Keyword×Pos->Bool} {C:Expr->Prop} (h:(g8 x).any f=true) (k:∀ u xs ks p,f (u,xs,ks,p)=true->C (.Call u xs ks p)):C x:=
 if hi:x.ctorIdx=16 then Expr.Call.elim (motive_1:=fun x=>(g8 x).any f=true->C x) x hi (fun u xs ks p h=>k u xs ks p h) h else by
  unfold g8 at h; rw [dif_neg hi] at h; (injection h; done)
def oC {f:Expr×Str×Pos->Bool} {C:Expr->Prop} (h:(g9 x).any f=true) (k:∀ o n q,f (o,n,q)=true->C (.Attribute o n q)):C x:=
 if hi:x.ctorIdx=20 then Expr.Attribute.elim (motive_1:=fun x=>(g9 x).any f=true->C x) x hi (fun o n q h=>k o n q h) h else by
  unfold g9 at h; rw [dif_neg hi] at h; (injection h; done)
def x8 {f:List (Option Expr)×List Expr×Pos->Bool} {C:Expr->Prop} (h:(oj x).any f=true) (k:∀ ks vs p,f (ks,vs,p)=true->C (.Dict ks vs p)):C x:=
 if hi:x.ctorIdx=6 then Expr.Dict.elim (motive_1:=fun x=>(oj x).any f=true->C x) x hi (fun ks vs p h=>k ks vs p h) h else by
  unfold oj at h; rw [dif_neg hi] at h; (injection h; done)
theorem Ev.evC (h:Ev Φ t d):EvC Φ false t d:=fun K s hd I E=>wpAny_mono (h K s hd I E) (fun U U p=>⟨p,nofun⟩) fun U U z=>z
theorem EvN.evC (h:EvN Φ t d):EvC Φ b t d:=fun K s hd I E=>wpAny_mono (h K s hd I E) (fun U U p=>⟨p.1,fun U=>p.2⟩) fun U U z=>z
@[elab_as_elim] theorem l1 {α:Type} {xs:List α} {f:α->Bool} {C:List α->Prop} (h:(gx xs).any f=true) (k:∀ y,f y=true->C [y]):C xs:=by
 match xs,h with
 | [],h=>(injection h; done)
 | [y],h=>exact k y h
 | _ :: _ :: _,h=>(injection h; done)
@[elab_as_elim] theorem l2 {α:Type} {xs:List α} {f:α×α->Bool} {C:List α->Prop} (h:(two? xs).any f=true) (k:∀ y z,f (y,z)=true->C [y,z]):C xs:=by
 match xs,h with
 | [],h=>(injection h; done)
 | [y],h=>(injection h; done)
 | [y,z],h=>exact k y z h
 | _ :: _ :: _ :: _,h=>(injection h; done)
@[elab_as_elim] theorem ln {α:Type} {xs:List α} {C:List α->Prop} (h:xs.isEmpty=true) (k:C []):C xs:=by
 cases xs with
 | nil=>exact k
 | cons=>(injection h; done)
def a2 (h:(a&&b)=true):a=true/\b=true:=zA2 h
def iQ (h:o.any f=true):∃ a,o=some a/\f a=true:=by
 cases o with
 | none=>(injection h; done)
 | some a=>exact ⟨a,rfl,h⟩
def tZ (h:x3 x y=true):y=x:=by
 cases x with
 | int i=>cases y with | int j=>rw [eq_of_beq h] | _=>(injection h; done)
 | str s=>cases y with | str t=>rw [eq_of_beq h] | _=>(injection h; done)
 | _=>(injection h; done)
def pF {f:Const×Nat×Pos->Bool} {C:Expr->Prop} (h:(gQ x).any f=true) (k:∀ c k p,f (c,k,p)=true->C (.Constant c k p)):C x:=
 if hi:x.ctorIdx=19 then Expr.Constant.elim (motive_1:=fun x=>(gQ x).any f=true->C x) x hi (fun c j p h=>k c j p h) h else by
  unfold gQ at h; rw [dif_neg hi] at h; (injection h; done)
def BS {f:Expr×Operator×Expr×Pos->Bool} {C:Expr->Prop} (h:(xP x).any f=true) (k:∀ l o r p,f (l,o,r,p)=true->C (.BinOp l o r p)):C x:=
 if hi:x.ctorIdx=2 then Expr.BinOp.elim (motive_1:=fun x=>(xP x).any f=true->C x) x hi (fun l o r p h=>k l o r p h) h else by
  unfold xP at h; rw [dif_neg hi] at h; (injection h; done)
def BD {f:Expr×List CmpOp×List Expr×Pos->Bool} {C:Expr->Prop} (h:(v8 x).any f=true) (k:∀ l o r p,f (l,o,r,p)=true->C (.Compare l o r p)):C x:=
 if hi:x.ctorIdx=15 then Expr.Compare.elim (motive_1:=fun x=>(v8 x).any f=true->C x) x hi (fun l o r p h=>k l o r p h) h else by
  unfold v8 at h; rw [dif_neg hi] at h; (injection h; done)
def x9 {f:BoolOp×List Expr×Pos->Bool} {C:Expr->Prop} (h:(om x).any f=true) (k:∀ o xs p,f (o,xs,p)=true->C (.BoolOp o xs p)):C x:=
 if hi:x.ctorIdx=0 then Expr.BoolOp.elim (motive_1:=fun x=>(om x).any f=true->C x) x hi (fun o xs p h=>k o xs p h) h else by
  unfold om at h; rw [dif_neg hi] at h; (injection h; done)
def lUn {f:UnaryOp×Expr×Pos->Bool} {C:Expr->Prop} (h:(vUn x).any f=true) (k:∀ o y p,f (o,y,p)=true->C (.UnaryOp o y p)):C x:=
 if hi:x.ctorIdx=3 then Expr.UnaryOp.elim (motive_1:=fun x=>(vUn x).any f=true->C x) x hi (fun o y p h=>k o y p h) h else by
  unfold vUn at h; rw [dif_neg hi] at h; (injection h; done)
def AR {f:Expr×List Comprehension×Scope×Pos->Bool} {C:Expr->Prop} (h:(sM x).any f=true) (k:∀ y gs sc p,f (y,gs,sc,p)=true->C (.ListComp y gs sc p)):C x:=
 if hi:x.ctorIdx=8 then Expr.ListComp.elim (motive_1:=fun x=>(sM x).any f=true->C x) x hi (fun y gs sc p h=>k y gs sc p h) h else by
  unfold sM at h; rw [dif_neg hi] at h; (injection h; done)
def pD {f:List Expr->Bool} {C:Expr->Prop} (h:nCall X nm x f=true) (k:∀ q xs p,bK X.sc nm=true->f xs=true->C (.Call (.Name nm q) xs [] p)):C x:=
 sQ (by unfold nCall at h; exact h) fun u xs ks p h=>bJ (C:=fun u=>C (.Call u xs ks p)) h fun n q h=>by
  have e:n=nm:=eq_of_beq (a2 h).1;subst e;exact ln (C:=fun ks=>C (.Call (.Name n q) xs ks p)) (a2 (a2 (a2 h).2).2).1 (k q xs p (a2 (a2 h).2).1 (a2 (a2 (a2 h).2).2).2)
def bS {f:Expr->Bool} {C:Expr->Prop} (h:dc X nm x f=true) (k:∀ q y p,bK X.sc nm=true->f y=true->C (.Call (.Name nm q) [y] [] p)):C x:=
 pD h fun q xs p hg h=>l1 (C:=fun xs=>C (.Call (.Name nm q) xs [] p)) h fun y h=>k q y p hg h
def cK {f:Expr->Str->List Expr->Bool} {C:Expr->Prop} (h:mCall x f=true) (k:∀ y nm q xs p,(q.endLine==p.line)=true->f y nm xs=true->C (.Call (.Attribute y nm q) xs [] p)):C x:=
 sQ (by unfold mCall at h; exact h) fun u xs ks p h=>oC (C:=fun u=>C (.Call u xs ks p)) h fun y nm q h=>ln (C:=fun ks=>C (.Call (.Attribute y nm q) xs ks p)) (a2 h).1 (k y nm q xs p (a2 (a2 h).2).1 (a2 (a2 h).2).2)
def wC {k:List Kid->Bool} {C:Expr->Prop} (h:vf X k nm x=true) (f:∀ y q e p,(q.endLine==p.line)=true->bt y=true->aj e=true->k [(X,.val,y),(X,.val,e)]=true->C (.Call (.Attribute y nm q) [e] [] p)):C x:=
 cK h fun y n q xs p hl h=>by
  have e:n=nm:=eq_of_beq (a2 h).1;subst e;exact l1 (C:=fun xs=>C (.Call (.Attribute y n q) xs [] p)) (a2 (a2 h).2).2 fun z hz=>f y q z p hl (a2 (a2 h).2).1 (a2 hz).1 (a2 hz).2
def qh (hk:fx.env.scope.kind=.function):bQ (aC fx scope C x x' Y)=(bQ fx).comp scope x x':=by
 unfold Sx.comp bQ;have:(aC fx scope C x x' Y).env.scope.names=gJ fx.env.scope.names scope.names:=cI hk;rw [this];rfl
def gq (ok:FxOk fx) (h:lz (bQ fx) scope x x'=true):CompOk fx scope x x':=by
 obtain ⟨h1,h⟩:=a2 h;obtain ⟨h2,h⟩:=a2 h;obtain ⟨h3,h⟩:=a2 h;obtain ⟨h5,h⟩:=a2 h;obtain ⟨h6,h⟩:=a2 h;obtain ⟨h7,h8⟩:=a2 h;have h5:=Jb.mp h5;have h6:=Jb.mp h6;have h7:=Jb.mp h7;have fr:∀ n,(n,NameKind.free)∈scope.names->(fx.env.kindOf n=some .cell\/fx.env.kindOf n=some .free)/\∃ k,fx.ρ.lookup n=some k:=fun n hn=>by
  rcases (or_eq_true _ _).mp (h7 _ hn) with q | q
  ·exact absurd rfl (bne_iff_ne.mp q)
  ·obtain ⟨q1,q2⟩:=a2 q;exact ⟨((or_eq_true _ _).mp q1).imp eq_of_beq eq_of_beq,isSome_iff_exists.mp q2⟩
 refine ⟨eq_of_beq h1,eq_of_beq h2,eq_of_beq h3,fun y hy=>bne_iff_ne.mp (h5 y hy),fun y hy hl=>((or_eq_true _ _).mp (h6 y hy)).elim (fun q=>absurd hl (bne_iff_ne.mp q)) eq_of_beq,fun n hn=>(fr n hn).1,fun n hn=>?_,of_decide_eq_true h8⟩;obtain ⟨q,k,hk⟩:=fr n hn;rcases ok.vis n k hk with ⟨z,_⟩ | ⟨_,c,hc,_⟩
 ·rcases q with q | q <;> rw [z] at q <;> cases q
 ·exact ⟨c,hc⟩
def lU {k:List Expr->Bool} {C:Expr->Prop} (h:cCall Z X f x k=true) (h':∀ n q xs p,Z.fns.lookup n=some f->bK X.sc n=true->k xs=true->C (.Call (.Name n q) xs [] p)):C x:=
 sQ (by unfold cCall at h; exact h) fun u xs ks p h=>bJ (C:=fun u=>C (.Call u xs ks p)) h fun n q h=>by
  obtain ⟨h1,h⟩:=a2 h;obtain ⟨h2,h⟩:=a2 h;exact ln (C:=fun ks=>C (.Call (.Name n q) xs ks p)) (a2 h).1 (h' n q xs p (eq_of_beq h1) h2 (a2 h).2)
structure GOk (g:Gl) (Z:Zx):Prop where
 fns:g.fns=Z.fns
 cons:g.cons=Z.cons
 newf:g.newf=Z.newf
 flds:∀ c l,Z.flds[c]?=some l->g.flds c=l/\ClsOk g c
 keep:∀ x f,Z.fns.lookup x=some f->keepIn g.K (.ref (g.fn f))=true
 meths:∀ c nm f,(c,nm,f)∈Z.meths->ClsOk g c/\MetOk g c nm f
theorem GOk.fld (H:GOk g Z) (h:oM Z c j nm=true):ClsOk g c/\(g.flds c)[j]?=some nm:=by
 obtain ⟨l,e1,e2⟩:=iQ h;obtain ⟨q1,q2⟩:=H.flds c l e1;exact ⟨q2,q1▸eq_of_beq e2⟩
theorem GOk.met (H:GOk g Z) (h:oA Z c f nm=true):ClsOk g c/\MetOk g c nm f:=by
 obtain ⟨⟨c',nm',f'⟩,m,q⟩:=any_eq_true.mp h;obtain ⟨q1,q⟩:=a2 q;obtain ⟨q2,q3⟩:=a2 q;obtain rfl:=eq_of_beq q1;obtain rfl:=eq_of_beq q2;obtain rfl:=eq_of_beq q3;exact H.meths _ _ _ m
section
variable {g:Gl} {n:Nat} {Z:Zx} {o:Op} {k:List Kid->Bool} {ds:List D} {fx:Fx} {x:Expr}
def a2e {a b:Bool} {C:Prop} (h:(a&&b)=true) (k:a=true->b=true->C):C:=k (a2 h).1 (a2 h).2
def wq {α β:Type} {o:Option α} {f:α->β} {K:β->Prop}:okK (o.map f) K=okK o fun a=>K (f a):=by cases o <;> rfl
def Bm (h:FxOk Φ.fx->Ev Φ t d):Ev Φ t d:=fun K s hd I=>h I.ok K s hd I
def oD (h:Kids fx.g fx.d (ifs.map fun x=>(bQ fx,.test,x)) ts):∀ oa G,EvT ⟨fx,oa,G⟩ (dH ifs fx.env) (cm true ts G):=fun oa G=>by
 obtain ⟨qs,h1,h2⟩:=h.tests rfl rfl;have q:=mL (Φ:=⟨fx,oa,G⟩) (h2 oa G);rw [(h1 G).1,(h1 G).2,<- gt] at q;exact q
theorem fe:∀ xs:List Expr,evalEach xs env=xs.map fun x=>eval x env
 | []=>rfl
 | x :: r=>congrArg (eval x env :: ·) (fe r)
def kj (Cr:(!xs.isEmpty)=true) (h:Kids fx.g fx.d (xs.map fun x=>(bQ fx,.val,x)) ds):∀ oa G,Ev ⟨fx,oa,G⟩ (eval (.BoolOp (bop b) xs p) fx.env) (fun K=>cm b ds G fun c=>K (.bool c)):=fun oa G=>by
 obtain ⟨qs,h1,h2⟩:=h.vals rfl rfl;have q:=nP (Φ:=⟨fx,oa,G⟩) (b:=b) (pos:=p) (fun q m=>(h2 oa G q m).2) fun e=>by have:=(h1 G).1; rw [e] at this; rw [<- this] at Cr; (injection Cr; done)
 rw [show (qs G).map (fun q=>eval q.1 fx.env)=xs.map fun x=>eval x fx.env by rw [<- (h1 G).1,map_map]; rfl,(h1 G).2,<- gt] at q;have e:eval (.BoolOp (bop b) xs p) fx.env=boolOp p (bop b) (xs.map fun x=>eval x fx.env):=by
  rw [arm_eval_BoolOp,fe]
 rw [e];exact q
def zU (h:FxOk fx->ExB fx t Y):ExB fx t Y:=fun oa G K s hd I=>h I.ok oa G K s hd I
def iM (h:Kids fx.g fx.d (xs.map fun x=>(bQ fx,.test,x)) ds):∀ oa G,EvT ⟨fx,oa,G⟩ (isTrue (.BoolOp (bop b) xs p) fx.env w) (cm b ds G):=fun oa G=>by
 obtain ⟨qs,h1,h2⟩:=h.tests rfl rfl;have q:=mM (Φ:=⟨fx,oa,G⟩) (b:=b) (h2 oa G);rw [(h1 G).1,(h1 G).2,<- gt] at q;exact q
def Vt (p:Pz):Prop:=p=.val\/p=.test
def gp (hp:Vt p) (h:ai fx .val x d) (e:isTrue x fx.env (eval x fx.env)=(do let v <- eval x fx.env; standAt x.pos; holding [v] (truthy v))):ai fx p x d:=by
 rcases hp with rfl | rfl
 ·exact h
 ·exact fun oa G=>xm (h oa G) e
def vY (fx:Fx) (b:Gs->V->Option Gs) (e:Expr) (ds:List D):Prop:=(∀ oa G,Ev ⟨fx,oa,G⟩ (eval e fx.env) (vT b ds G))/\∀ y py sp k,TgtOk fx.ρ fx.env y k->ExB fx (exec (.Assign [.Name y py] e sp) fx.env) (fun G K=>vT b ds G fun v=>K none (G.set k (.v v)))
def xC {b:Gs->V->Option Gs} {CF it T:Expr} {ifs:List Expr} {scope:Scope} {p:Pos} {m m':Str} (hT:FxOk fx->∀ oa G,o8 ⟨fx,oa,G⟩ scope T m m' b) (h1:lz (bQ fx) scope m m'=true) (h3:bH it=true) (hk:Kids fx.g fx.d ((bQ fx,.src false T,it) :: ((bQ fx).comp scope m m',.val,CF) :: ifs.map fun x=>((bQ fx).comp scope m m',.test,x)) ds) :
  vY fx b (.ListComp CF [⟨T,it,ifs,0⟩] scope p) ds:=by
 refine hk.nc (C:=fun ds=>vY fx b (.ListComp CF [⟨T,it,ifs,0⟩] scope p) ds) fun ds1 dr a b'=>b'.nc (C:=fun dr=>vY fx b (.ListComp CF [⟨T,it,ifs,0⟩] scope p) (ds1 :: dr)) fun de ts b' c=>?_;have he:FxOk fx->∀ C Y oa G,Ev ⟨aC fx scope C m m' Y,oa,G⟩ (eval CF (aC fx scope C m m' Y).env) (de G):=fun ok C Y oa G=>b' (aC fx scope C m m' Y) rfl rfl (qh ok.kind) oa G;have ht:FxOk fx->∀ C Y oa G,EvT ⟨aC fx scope C m m' Y,oa,G⟩ (dH ifs (aC fx scope C m m' Y).env) (cm true ts G):=fun ok C Y oa G=>oD (fx:=aC fx scope C m m' Y) (by rw [qh ok.kind]; exact c) oa G;exact ⟨fun oa G=>Bm fun ok=>rf (Φ:=⟨fx,oa,G⟩) (gq ok h1) (hT ok oa G) h3 (a fx rfl rfl rfl oa G) (he ok) (ht ok),fun y py sp k hy=>zU fun ok=>gY (py:=py) (gq ok h1) (hT ok) h3 (a fx rfl rfl rfl) (he ok) (ht ok) hy⟩
def rm {j:Nat} (hk:∀ ts,k ts=true->Kids fx.g fx.d ts ds) (h:nT Z (.comp j) k (bQ fx) .val x=true):(ai fx .val x (bF (ak fx.g.P fx.d) (.comp j) ds)/\isTrue x fx.env (eval x fx.env)=(do let v <- eval x fx.env; standAt x.pos; holding [v] (truthy v)))/\∀ y py sp,ai fx (.asg y py sp) x (bF (ak fx.g.P fx.d) (.comp j) ds):=by
 refine AR (C:=fun x=>(ai fx .val x _/\isTrue x fx.env (eval x fx.env)=(do let v <- eval x fx.env; standAt x.pos; holding [v] (truthy v)))/\∀ y py sp,ai fx (.asg y py sp) x _) h fun CF gs scope p h=>l1 (C:=fun gs=>(ai fx .val (.ListComp CF gs scope p) _/\isTrue (.ListComp CF gs scope p) fx.env _=_)/\∀ y py sp,ai fx (.asg y py sp) (.ListComp CF gs scope p) _) h fun c h=>?_;obtain ⟨T,it,ifs,asy⟩:=c;refine a2e h fun e h=>?_;obtain rfl:asy=0:=eq_of_beq e;refine bJ (C:=fun T=>(ai fx .val (.ListComp CF [⟨T,it,ifs,0⟩] scope p) _/\_=_)/\∀ y py sp,ai fx (.asg y py sp) (.ListComp CF [⟨T,it,ifs,0⟩] scope p) _) h fun m pm h=>a2e h fun h1 h=>a2e h fun e h=>a2e h fun h3 hh=>?_;obtain rfl:=eq_of_beq e;have q:=xC (b:=jm fx.nf) (p:=p) (fun ok oa G=>Ac (Φ:=⟨fx,oa,G⟩) (gq ok h1)) h1 h3 (hk _ hh);exact ⟨⟨q.1,rfl⟩,q.2⟩
def AL (hk:∀ ts,k ts=true->Kids fx.g fx.d ts ds) (hn:Bw o=true) (h:nT Z o k (bQ fx) .val x=true) :
  ai fx .new x (bF (ak fx.g.P fx.d) o ds):=by
 cases o with
 | listOf=>exact bS (C:=fun x=>ai fx .new x _) h fun q y r hx h=>(hk _ (a2 h).2).n1 (C:=fun ds=>ai fx .new _ (bF _ .listOf ds)) fun d a oa G=>kg (Φ:=⟨fx,oa,G⟩) (d:=d G) hx (a2 h).1 (a fx rfl rfl rfl oa G)
 | sortedT=>exact bS (C:=fun x=>ai fx .new x _) h fun q y r hx h=>(hk _ (a2 h).2).n1 (C:=fun ds=>ai fx .new _ (bF _ .sortedT ds)) fun d a oa G=>iC (Φ:=⟨fx,oa,G⟩) (d:=d G) hx (a2 h).1 (a fx rfl rfl rfl oa G)
 | _=>(injection hn; done)
def wI {C:Expr->Prop} (h:lT X i y=true) (k:∀ m p,X.ρ.lookup m=some i->aL m=true->C (.Name m p)):C y:=
 bJ (C:=C) h fun m p h=>k m p (eq_of_beq (a2 h).1) (a2 h).2
def few (h:ym xs=true):bX xs=true/\xs.length < 30:=⟨(a2 h).1,of_decide_eq_true (a2 h).2⟩
def sL {p:Pz} (H:GOk fx.g Z) (hp:Vt p) (hk:∀ ts,k ts=true->Kids fx.g fx.d ts ds) (h:nT Z o k (bQ fx) p x=true):ai fx p x (bF (ak fx.g.P fx.d) o ds):=by
 cases o with
 | lit v=>
  refine ((or_eq_true _ _).mp h).elim (fun h=>pF (C:=fun x=>ai fx p x _) h fun c j q h=>gp hp (fun oa G=>z6 (a2 h).1) rfl) fun h=>bJ (C:=fun x=>ai fx p x _) h fun m q h=>a2e h fun hx h=>a2e h fun e h=>?_;obtain ⟨y,e1,e2⟩:=iQ e;obtain rfl:=tZ e2;exact gp hp (fun oa G=>uF hx (H.cons▸e1)) rfl
 | var j=>exact bJ (C:=fun x=>ai fx p x _) h fun m q h=>a2e h fun e h=>gp hp (fun oa G=>zY (eq_of_beq e) (a2 h).1) rfl
 | bin op=>
  refine BS (C:=fun x=>ai fx p x _) h fun l op' r q h=>a2e h fun e hh=>?_;obtain rfl:=of_decide_eq_true e;exact gp hp ((hk _ hh).n2 (C:=fun ds=>ai fx .val _ (bF _ (.bin op) ds)) fun d e a b oa G=>z9 (d1:=d G) (d2:=e G) (a fx rfl rfl rfl oa G) (b fx rfl rfl rfl oa G)) rfl
 | cmp c=>
  refine BD (C:=fun x=>ai fx p x _) h fun l FD rs q h=>l1 (C:=fun FD=>ai fx p (.Compare l FD rs q) _) h fun c' h=>a2e h fun e hh=>?_;obtain rfl:=of_decide_eq_true e;refine l1 (C:=fun rs=>ai fx p (.Compare l _ rs q) _) hh fun r h=>a2e h fun hs h=>(hk _ h).n2 (C:=fun ds=>ai fx p _ (bF _ (.cmp c) ds)) fun d e a b=>?_;rcases hp with rfl | rfl
  ·exact fun oa G=>vy (d1:=d G) (d2:=e G) hs (a fx rfl rfl rfl oa G) (b fx rfl rfl rfl oa G)
  ·exact fun oa G=>tq (d1:=d G) (d2:=e G) hs (a fx rfl rfl rfl oa G) (b fx rfl rfl rfl oa G)
 | chain=>
  refine BD (C:=fun x=>ai fx p x _) h fun l FD rs q h=>l2 (C:=fun FD=>ai fx p (.Compare l FD rs q) _) h fun c c' h=>a2e h fun e h=>a2e h fun e' hh=>?_;obtain rfl:=of_decide_eq_true e;obtain rfl:=of_decide_eq_true e';refine l2 (C:=fun rs=>ai fx p (.Compare l _ rs q) _) hh fun r r' h=>a2e h fun hs h=>(hk _ h).n3 (C:=fun ds=>ai fx p _ (bF _ .chain ds)) fun d e f a b c=>?_;rcases hp with rfl | rfl
  ·exact fun oa G=>uG (d1:=d G) (d2:=e G) (d3:=f G) hs (a fx rfl rfl rfl oa G) (b fx rfl rfl rfl oa G) (c fx rfl rfl rfl oa G)
  ·exact fun oa G=>oq (d1:=d G) (d2:=e G) (d3:=f G) hs (a fx rfl rfl rfl oa G) (b fx rfl rfl rfl oa G) (c fx rfl rfl rfl oa G)
 | and=>
  refine x9 (C:=fun x=>ai fx p x _) h fun b xs q h=>a2e h fun e h=>a2e h fun hn hh=>?_;obtain rfl:=of_decide_eq_true e;rcases hp with rfl | rfl
  ·exact kj (b:=true) hn (hk _ hh)
  ·exact iM (b:=true) (hk _ hh)
 | or=>
  refine x9 (C:=fun x=>ai fx p x _) h fun b xs q h=>a2e h fun e h=>a2e h fun hn hh=>?_;obtain rfl:=of_decide_eq_true e;rcases hp with rfl | rfl
  ·exact kj (b:=false) hn (hk _ hh)
  ·exact iM (b:=false) (hk _ hh)
 | not=>
  refine lUn (C:=fun x=>ai fx p x _) h fun u y q h=>a2e h fun e hh=>?_;obtain rfl:=of_decide_eq_true e;refine (hk _ hh).n1 (C:=fun ds=>ai fx p _ (bF _ .not ds)) fun d a=>?_;rcases hp with rfl | rfl
  ·exact fun oa G=>z5 (d:=d G) (a fx rfl rfl rfl oa G)
  ·exact fun oa G=>tm (d:=d G) (a fx rfl rfl rfl oa G)
 | tuple=>exact x5 (C:=fun x=>ai fx p x _) h fun xs j q h=>a2e h fun hl h=>gp hp (fun oa G=>((hk _ h).node (nb:=_) (f:=fun xs=>.Tuple xs j q) (op:=fun xs K=>okK (opN .tuple xs) K) rfl rfl hl (fun oa G qs hq=>uC hq) oa G).ev) rfl
 | list=>exact Au (C:=fun x=>ai fx p x _) h fun xs q h=>a2e h fun hl h=>gp hp (fun oa G=>((hk _ h).node (nb:=false) (f:=fun xs=>.List xs q) (op:=fun xs K=>okK (opN .list xs) K) rfl rfl hl (fun oa G qs hq=>(xr hq).evC) oa G).ev) rfl
 | sub=>exact wH (C:=fun x=>ai fx p x _) h fun v s q h=>gp hp ((hk _ h).n2 (C:=fun ds=>ai fx .val _ (bF _ .sub ds)) fun d e a b oa G=>zZ (d1:=d G) (d2:=e G) (a fx rfl rfl rfl oa G) (b fx rfl rfl rfl oa G)) rfl
 | slice bl bh=>
  refine wH (C:=fun x=>ai fx p x _) h fun v s q h=>BP (C:=fun s=>ai fx p (.Subscript v s q) _) h fun lo hi st q' h=>a2e h fun e0 h=>a2e h fun e1 h=>a2e h fun e2 hh=>?_;obtain rfl:=eq_of_beq e1;obtain rfl:=eq_of_beq e2;obtain rfl:st=none:=isNone_iff_eq_none.mp e0;refine gp hp ?_ rfl;cases lo with
  | none=>cases hi with
   | none=>exact (hk _ hh).n1 (C:=fun ds=>ai fx .val _ (bF _ (.slice false false) ds)) fun d a oa G=>fK (d1:=d G) (a fx rfl rfl rfl oa G) iE iE
   | some e'=>exact (hk _ hh).n2 (C:=fun ds=>ai fx .val _ (bF _ (.slice false true) ds)) fun d e a b oa G=>fK (d1:=d G) (a fx rfl rfl rfl oa G) iE (iD (d:=e G) (b fx rfl rfl rfl oa G))
  | some e'=>cases hi with
   | none=>exact (hk _ hh).n2 (C:=fun ds=>ai fx .val _ (bF _ (.slice true false) ds)) fun d e a b oa G=>fK (d1:=d G) (a fx rfl rfl rfl oa G) (iD (d:=e G) (b fx rfl rfl rfl oa G)) iE
   | some e'=>exact (hk _ hh).n3 (C:=fun ds=>ai fx .val _ (bF _ (.slice true true) ds)) fun d e f a b c oa G=>fK (d1:=d G) (a fx rfl rfl rfl oa G) (iD (d:=e G) (b fx rfl rfl rfl oa G)) (iD (d:=f G) (c fx rfl rfl rfl oa G))
 | attr c j=>exact oC (C:=fun x=>ai fx p x _) h fun y nm q h=>a2e h fun hs h=>a2e h fun e h=>gp hp ((hk _ h).n1 (C:=fun ds=>ai fx .val _ (bF _ (.attr c j) ds)) fun d a oa G=>xv (Φ:=⟨fx,oa,G⟩) (d:=d G) (H.fld e).1 hs (H.fld e).2 (a fx rfl rfl rfl oa G)) rfl
 | comp j=>exact (rm (Z:=Z) hk h).1.elim fun a b=>gp hp a b
 | isinst t=>
  refine pD (C:=fun x=>ai fx p x _) h fun q xs r hx h=>l2 (C:=fun xs=>ai fx p (.Call _ xs [] r) _) h fun y z h=>a2e h fun hl h=>bJ (C:=fun z=>ai fx p (.Call _ [y,z] [] r) _) h fun T pT h=>a2e h fun hT h=>a2e h fun ht hh=>?_;obtain ⟨T',e1,e2⟩:=iQ ht;have e2:T=ofString T':=eq_of_beq e2;subst e2;refine gp hp ((hk _ hh).n1 (C:=fun ds=>ai fx .val _ (bF _ (.isinst t) ds)) fun d a oa G=>?_) rfl;have z:=z8 (Φ:=⟨fx,oa,G⟩) (fp:=q) (pos:=r) (pT:=pT) (q:=(y,d G)) e1 hx hT hl (a fx rfl rfl rfl oa G);have e:(fun K=>d G fun x=>okK (isT x t) fun b=>K (.bool b))=bF (ak fx.g.P fx.d) (.isinst t) [d] G:=funext fun K=>congrArg (d G) (funext fun x=>wq.symm);exact e▸z
 | len=>exact bS (C:=fun x=>ai fx p x _) h fun q y r hx h=>gp hp ((hk _ (a2 h).2).n1 (C:=fun ds=>ai fx .val _ (bF _ .len ds)) fun d a oa G=>z7 (q:=(y,d G)) hx ⟨(a2 h).1,a fx rfl rfl rfl oa G⟩) rfl
 | lenSet=>
  exact bS (C:=fun x=>ai fx p x _) h fun q y r hx h=>gp hp (bS (C:=fun y=>ai fx .val (.Call _ [y] [] r) _) h fun p1 z p2 hs h=>(hk _ (a2 h).2).n1 (C:=fun ds=>ai fx .val _ (bF _ .lenSet ds)) fun d a oa G=>sG (Φ:=⟨fx,oa,G⟩) (d:=d G) hx hs (a2 h).1 (a fx rfl rfl rfl oa G)) rfl
 | listOf=>exact bS (C:=fun x=>ai fx p x _) h fun q y r hx h=>gp hp ((hk _ (a2 h).2).n1 (C:=fun ds=>ai fx .val _ (bF _ .listOf ds)) fun d a oa G=>(kg (Φ:=⟨fx,oa,G⟩) (d:=d G) hx (a2 h).1 (a fx rfl rfl rfl oa G)).ev) rfl
 | sorted=>exact bS (C:=fun x=>ai fx p x _) h fun q y r hx h=>gp hp ((hk _ (a2 h).2).n1 (C:=fun ds=>ai fx .val _ (bF _ .sorted ds)) fun d a oa G=>(sF (Φ:=⟨fx,oa,G⟩) (d:=d G) hx (a2 h).1 (a fx rfl rfl rfl oa G)).ev) rfl
 | sortedT=>exact bS (C:=fun x=>ai fx p x _) h fun q y r hx h=>gp hp ((hk _ (a2 h).2).n1 (C:=fun ds=>ai fx .val _ (bF _ .sortedT ds)) fun d a oa G=>(iC (Φ:=⟨fx,oa,G⟩) (d:=d G) hx (a2 h).1 (a fx rfl rfl rfl oa G)).ev) rfl
 | sortedSet=>exact bS (C:=fun x=>ai fx p x _) h fun q y r hx h=>gp hp (bS (C:=fun y=>ai fx .val (.Call _ [y] [] r) _) h fun p1 z p2 hs h=>(hk _ (a2 h).2).n1 (C:=fun ds=>ai fx .val _ (bF _ .sortedSet ds)) fun d a oa G=>(kM (Φ:=⟨fx,oa,G⟩) (d:=d G) hx hs (a2 h).1 (a fx rfl rfl rfl oa G)).ev) rfl
 | call f=>exact lU (C:=fun x=>ai fx p x _) h fun n q xs r hf hx h=>gp hp (fun oa G=>((hk _ (a2 h).2).node (nb:=fx.g.newf f) (f:=fun xs=>.Call (.Name n q) xs [] r) (op:=fun xs K=>(ak fx.g.P fx.d).p f xs K) rfl rfl (a2 h).1 (fun oa G qs hq=>ev_call (Φ:=⟨fx,oa,G⟩) hx (H.fns▸hf) (H.keep _ _ hf) hq) oa G).ev) rfl
 | peek=>
  refine (hk _ h).n1 (C:=fun ds=>ai fx p x (bF _ .peek ds)) fun d a=>?_;rcases hp with rfl | rfl
  ·exact xn (a fx rfl rfl rfl)
  ·exact rK (a fx rfl rfl rfl)
 | peekN=>
  refine a2e h fun i h=>(hk _ h).n1 (C:=fun ds=>ai fx p x (bF _ .peekN ds)) fun d a=>?_;rcases hp with rfl | rfl
  ·exact uD (a fx rfl rfl rfl)
  ·(injection i; done)
 | getD=>
  refine cK (C:=fun x=>ai fx p x _) h fun y nm q xs r hl h=>a2e h fun e h=>a2e h fun hs h=>l2 (C:=fun xs=>ai fx p (.Call _ xs [] r) _) h fun e1 e2 h=>a2e h fun h1 h=>a2e h fun h2 hh=>?_;obtain rfl:nm="get":=eq_of_beq e;exact gp hp ((hk _ hh).n3 (C:=fun ds=>ai fx .val _ (bF _ .getD ds)) fun d e f a b c oa G=>xu (Φ:=⟨fx,oa,G⟩) (d1:=d G) (d2:=e G) (d3:=f G) hs h1 h2 hl (a fx rfl rfl rfl oa G) (b fx rfl rfl rfl oa G) (c fx rfl rfl rfl oa G)) rfl
 | vals=>
  refine bS (C:=fun x=>ai fx p x _) h fun q z r hx h=>gp hp (cK (C:=fun z=>ai fx .val (.Call _ [z] [] r) _) h fun y nm q' xs r' hl h=>a2e h fun e h=>a2e h fun hs h=>a2e h fun hn hh=>?_) rfl;obtain rfl:nm="values":=eq_of_beq e;exact ln (C:=fun xs=>ai fx .val (.Call _ [.Call _ xs [] r'] [] r) _) hn ((hk _ hh).n1 (C:=fun ds=>ai fx .val _ (bF _ .vals ds)) fun d a oa G=>xl (Φ:=⟨fx,oa,G⟩) (d:=d G) hx hs hl (a fx rfl rfl rfl oa G))
 | maxL=>
  refine sQ (C:=fun x=>ai fx p x _) h fun u xs ks r h=>bJ (C:=fun u=>ai fx p (.Call u xs ks r) _) h fun n q h=>a2e h fun e h=>a2e h fun hx h=>a2e h fun hd hh=>?_;obtain rfl:n="max":=eq_of_beq e;refine l1 (C:=fun ks=>ai fx p (.Call _ xs ks r) _) hd fun kw hw=>l1 (C:=fun xs=>ai fx p (.Call _ xs [kw] r) _) hh fun y hh=>?_;obtain ⟨ar,vl,kp⟩:=kw;refine a2e hw fun ha hw=>?_;obtain rfl:ar=some "default":=eq_of_beq ha;refine pF (C:=fun vl=>ai fx p (.Call _ [y] [⟨some "default",vl,kp⟩] r) _) hw fun c ck cp hc=>?_;obtain rfl:=eq_of_beq (hc:(c==.int 1)=true);exact gp hp ((hk _ (a2 hh).2).n1 (C:=fun ds=>ai fx .val _ (bF _ .maxL ds)) fun d a oa G=>xq (Φ:=⟨fx,oa,G⟩) (d:=d G) hx (a2 hh).1 (a fx rfl rfl rfl oa G)) rfl
 | meth c f=>
  refine cK (C:=fun x=>ai fx p x _) h fun y nm q xs r hl h=>a2e h fun hs h=>a2e h fun hm h=>a2e h fun hf h=>gp hp ((hk _ h).nc (C:=fun ds=>ai fx .val _ (bF _ (.meth c f) ds)) fun d ds' a b oa G=>?_) rfl;obtain ⟨qs,h1,h2⟩:=b.items rfl rfl (few hf).1;have z:=xo (Φ:=⟨fx,oa,G⟩) (pos:=r) (d:=d G) (H.met hm).1 (H.met hm).2 hs hl (h1 G).1 (few hf).2 (h2 oa G) (a fx rfl rfl rfl oa G);rw [(h1 G).2] at z;simp only [<- dg] at z;exact z
 | methJ i c f=>
  refine cK (C:=fun x=>ai fx p x _) h fun y nm q xs r hl h=>a2e h fun hy h=>a2e h fun hm h=>a2e h fun hf h=>wI (C:=fun y=>ai fx p (.Call (.Attribute y nm q) xs [] r) _) hy fun m pm hx hn=>gp hp (fun oa G=>?_) rfl;obtain ⟨qs,h1,h2⟩:=(hk _ h).items rfl rfl (few hf).1;have z:=uE (Φ:=⟨fx,oa,G⟩) (np:=pm) (pos:=r) (k:=i) (H.met hm).1 (H.met hm).2 hx hn hl (h1 G).1 (few hf).2 (h2 oa G);rw [(h1 G).2] at z;simp only [<- dg] at z;exact z
 | join=>exact wC (C:=fun x=>ai fx p x _) h fun y q e r hl hs he h=>gp hp ((hk _ h).n2 (C:=fun ds=>ai fx .val _ (bF _ .join ds)) fun d e a b oa G=>xt (d1:=d G) (d2:=e G) hs he hl (a fx rfl rfl rfl oa G) (b fx rfl rfl rfl oa G)) rfl
 | _=>(injection h; done)
end
section
variable {g:Gl} {n:Nat} {Z:Zx} {o:Op} {k:List Kid->Bool} {ds:List D} {fx:Fx} {x:Expr}
def rn {st:Bool} {op:List V->Option V} (h:AC k (bQ fx) f x=true) (hk:∀ ts,k ts=true->Kids fx.g fx.d ts ds)
  (hs:∀ oa G fp pos (qs:List (Expr×DV)),bK fx.env.scope.names f=true->(∀ q∈qs,aj q.1=true/\bi ⟨fx,oa,G⟩ q)->eX ⟨fx,oa,G⟩ T st (.Call (.Name f fp) (qs.map Prod.fst) [] pos) (fun K=>bn (qs.map Prod.snd) fun xs=>okK (op xs) fun z=>okK (bM z) K)) :
  ∀ oa G,eX ⟨fx,oa,G⟩ T st x (fun K=>be ds G fun xs=>okK (op xs) fun z=>okK (bM z) K):=by
 refine pD (C:=fun x=>∀ oa G,eX ⟨fx,oa,G⟩ T st x (fun K=>be ds G fun xs=>okK (op xs) fun z=>okK (bM z) K)) h fun q xs p hg h oa G=>?_;obtain ⟨qs,h1,h2⟩:=(hk _ (a2 h).2).items rfl rfl (a2 h).1;have z:=hs oa G q p (qs G) hg (h2 oa G);rw [(h1 G).1,(h1 G).2,<- dg] at z;exact z
def Ai (H:GOk fx.g Z) (hk:∀ ts,k ts=true->Kids fx.g fx.d ts ds) (h:yF Z o k (bQ fx) x=true):ai fx (.asg y py sp) x (bF (ak fx.g.P fx.d) o ds):=by
 refine ((or_eq_true _ _).mp h).elim (fun h=>a2e h fun hn h k hT=>kf (aP hn) hT (sL H (.inl rfl) hk h)) fun h=>a2e h fun hc h=>?_;cases o with
 | comp j=>exact (rm (Z:=Z) hk h).2 y py sp
 | _=>(injection hc; done)
def y7 {st:Bool} (H:GOk fx.g Z) (hk:∀ ts,k ts=true->Kids fx.g fx.d ts ds) (h:yE Z o k (bQ fx) (.src st T) x=true):ai fx (.src st T) x (bF (ak fx.g.P fx.d) o ds):=by
 have go:nT Z o k (bQ fx) .val x=true->ai fx (.src st T) x (bF (ak fx.g.P fx.d) o ds):=fun h oa G=>AH (Φ:=⟨fx,oa,G⟩) (sL H (.inl rfl) hk h oa G);cases o with
 | range=>exact rn (op:=opN .range) h hk fun oa G fp pos qs hg hq=>rN (Φ:=⟨fx,oa,G⟩) hg hq
 | zip=>exact x5 (C:=fun T=>ai fx (.src st T) x _) h fun es j p h=>rn (op:=opN .zip) h hk fun oa G fp pos qs hg hq=>wc (Φ:=⟨fx,oa,G⟩) hg hq
 | _=>exact go h
def wu (H:GOk g Z) (hk:∀ ts,k ts=true->Kids g n ts ds) (h:yE Z o k t.1 t.2.1 t.2.2=true):dJ g n t (bF (ak g.P n) o ds):=fun fx hg hn hX=>by
 subst hg hn;obtain ⟨X,p,x⟩:=t;subst hX;cases p with
 | val=>exact sL H (.inl rfl) hk h
 | test=>exact sL H (.inr rfl) hk h
 | new=>exact a2e h fun hn h=>AL hk hn h
 | src st T=>exact y7 H hk h
 | asg y py sp=>exact Ai H hk h
def jG (g:Gl) (n:Nat) (cs:List Ck) (ds:List D):Prop:=∀ ts,oE cs ts=true->Kids g n ts ds
theorem jG.nil:jG g n [] []:=fun ts h=>by
 cases ts with
 | nil=>exact .nil
 | cons=>(injection h; done)
theorem jG.cons (h1:∀ t,c t=true->dJ g n t d) (h2:jG g n cs ds):jG g n (c :: cs) (d :: ds):=fun ts h=>by
 cases ts with
 | nil=>(injection h; done)
 | cons t r=>exact .cons (h1 t (a2 h).1) (h2 r (a2 h).2)
def BL (H:GOk g Z) (e:E):∀ t,xG Z e t=true->dJ g n t (ev (ak g.P n) e):=
 E.rec (motive_1:=fun e=>∀ t,xG Z e t=true->dJ g n t (ev (ak g.P n) e)) (motive_2:=fun es=>jG g n (E.rec_1 (motive_1:=fun U=>Ck) (motive_2:=fun U=>List Ck) (fun o U ih t=>yE Z o (oE ih) t.1 t.2.1 t.2.2) [] (fun U U i is=>i :: is) es) (E.rec_1 (motive_1:=fun U=>D) (motive_2:=fun U=>List D) (fun o U ih=>bF (ak g.P n) o ih) [] (fun U U i is=>i :: is) es))
  (fun o es ih t h=>wu H ih h) .nil (fun e es i is=>.cons i is) e
theorem xW (H:GOk g Z):∀ es:List E,jG g n (es.map (xG Z)) (es.map (ev (ak g.P n)))
 | []=>.nil
 | e :: r=>.cons (BL H e) (xW H r)
end
def db (h:eP (bQ fx) m j=true):TgtOk fx.ρ fx.env m j:=
 ⟨eq_of_beq (a2 h).1,fun e=>by
  have h:=(a2 h).2;have e:(bQ fx).sc.lookup m=some .free:=e;replace h:=e▸h; (injection h; done)⟩
theorem kT:∀ {es:List Expr} {js:List Nat},lJ (bQ fx) es js=true->TgtsOk fx.ρ fx.env es js
 | [],js,h=>ln (C:=fun js=>TgtsOk fx.ρ fx.env [] js) h .nil
 | t :: r,js,h=>bJ (C:=fun t=>TgtsOk fx.ρ fx.env (t :: r) js) h fun m p h=>by
  cases js with
  | nil=>(injection h; done)
  | cons j q=>exact .cons (db (a2 h).1) (kT (a2 h).2)
def ir {f:Expr->Expr->Pos->Bool} {C:Stmt->Prop} (h:fQ x f=true) (k:∀ t v p,f t v p=true->C (.Assign [t] v p)):C x:=
 if hi:x.ctorIdx=5 then Stmt.Assign.elim (motive_2:=fun x=>fQ x f=true->C x) x hi (fun ts v p h=>l1 (C:=fun ts=>C (.Assign ts v p)) h fun t h=>k t v p h) h else by
  unfold fQ at h; replace h:=(dif_neg hi)▸h; (injection h; done)
def Av {f:Expr->Bool} {C:Stmt->Prop} (h:v7 x f=true) (k:∀ e p,f e=true->C (.Expr e p)):C x:=
 if hi:x.ctorIdx=24 then Stmt.Expr.elim (motive_2:=fun x=>v7 x f=true->C x) x hi (fun e p h=>k e p h) h else by
  unfold v7 at h; replace h:=(dif_neg hi)▸h; (injection h; done)
def BQ {f:Expr->Bool} {C:Stmt->Prop} (h:xN x f=true) (k:∀ e p,f e=true->C (.Return (some e) p)):C x:=
 if hi:x.ctorIdx=3 then Stmt.Return.elim (motive_2:=fun x=>xN x f=true->C x) x hi (fun e p h=>by
  cases e with
  | none=>(injection h; done)
  | some e=>exact k e p h) h else by
  unfold xN at h; replace h:=(dif_neg hi)▸h; (injection h; done)
def BR {f:Expr->List Stmt->List Stmt->Bool} {C:Stmt->Prop} (h:xO x f=true) (k:∀ c a b p,f c a b=true->C (.If c a b p)):C x:=
 if hi:x.ctorIdx=12 then Stmt.If.elim (motive_2:=fun x=>xO x f=true->C x) x hi (fun c a b p h=>k c a b p h) h else by
  unfold xO at h; replace h:=(dif_neg hi)▸h; (injection h; done)
def BB {f:Expr->Expr->List Stmt->Bool} {C:Stmt->Prop} (h:v6 x f=true) (k:∀ T it body p,f T it body=true->C (.For T it body [] p)):C x:=
 if hi:x.ctorIdx=9 then Stmt.For.elim (motive_2:=fun x=>v6 x f=true->C x) x hi (fun T it body el p h=>ln (C:=fun el=>C (.For T it body el p)) (a2 h).1 (k T it body p (a2 h).2)) h else by
  unfold v6 at h; replace h:=(dif_neg hi)▸h; (injection h; done)
def lWh {f:Expr->List Stmt->Bool} {C:Stmt->Prop} (h:vWh x f=true) (k:∀ c body p,f c body=true->C (.While c body [] p)):C x:=
 if hi:x.ctorIdx=11 then Stmt.While.elim (motive_2:=fun x=>vWh x f=true->C x) x hi (fun T body el p h=>ln (C:=fun el=>C (.While T body el p)) (a2 h).1 (k T body p (a2 h).2)) h else by
  unfold vWh at h; replace h:=(dif_neg hi)▸h; (injection h; done)
def x6 {f:Expr->Str->List Expr->Bool} {C:Stmt->Prop} (h:uS x f=true) (k:∀ y nm q xs r p,(q.endLine==r.line)=true->f y nm xs=true->C (.Expr (.Call (.Attribute y nm q) xs [] r) p)):C x:=
 Av (C:=C) h fun e p h=>cK (C:=fun e=>C (.Expr e p)) h fun y nm q xs r hl h=>k y nm q xs r p hl h
def x7 {C:Expr->Prop} (h:jx x=true) (k:∀ p,C (.Dict [] [] p)):C x:=
 x8 (C:=C) h fun ks vs p h=>ln (C:=fun ks=>C (.Dict ks vs p)) (a2 h).1 (ln (C:=fun vs=>C (.Dict [] vs p)) (a2 h).2 (k p))
def BC {C:Expr->Prop} (h:pK x=true) (k:∀ p,C (.List [] p)):C x:=
 Au (C:=C) h fun xs p h=>ln (C:=fun xs=>C (.List xs p)) h (k p)
def vh {C:Expr->Prop} (H:GOk g Z) (h:jF Z X i c j x=true) (k:∀ m p nm q,ClsOk g c->(g.flds c)[j]?=some nm->X.ρ.lookup m=some i->aL m=true->C (.Attribute (.Name m p) nm q)):C x:=
 oC (C:=C) h fun o nm q h=>wI (C:=fun o=>C (.Attribute o nm q)) (a2 h).2 fun m p h1 h2=>k m p nm q (H.fld (a2 h).1).1 (H.fld (a2 h).1).2 h1 h2
section
variable {g:Gl} {n:Nat} {Z:Zx} {o:SOp} {k:List Kid->Bool} {ds:List D} {fx:Fx} {ca cb:CkS} {YA YB:B}
def SOk (g:Gl) (n:Nat) (c:CkS) (Y:B):Prop:=∀ fx Cn,fx.g=g->fx.d=n->c (bQ fx) Cn=true->ExB fx (execs Cn fx.env) Y
noncomputable abbrev vK (W Y:B):B:=fun G K=>W G fun fl G'=>match fl with | none=>Y G' K | some x=>K (some x) G'
def MOk (g:Gl) (n:Nat) (c:CkM) (W:B):Prop:=∀ fx Cn rest Y,fx.g=g->fx.d=n->(∀ r,rest r=true->ExB fx (execs r fx.env) Y)->c (bQ fx) Cn rest=true->ExB fx (execs Cn fx.env) (vK W Y)
def iP (h:(bX xs&&k (xs.map fun x=>(bQ fx,.val,x)))=true) (hk:∀ ts,k ts=true->Kids fx.g fx.d ts ds) {C:B->Prop} {W:List V->Gs->(Option V->Gs->Prop)->Prop}
  (f:∀ qs:Gs->List (Expr×DV),(∀ G,(qs G).map Prod.fst=xs)->(∀ oa G,∀ q∈qs G,aj q.1=true/\bi ⟨fx,oa,G⟩ q)->C (fun G K=>bn ((qs G).map Prod.snd) fun ys=>W ys G K)):C (fun G K=>be ds G fun ys=>W ys G K):=by
 obtain ⟨qs,e1,e2⟩:=(hk _ (a2 h).2).items rfl rfl (a2 h).1;have z:=f qs (fun G=>(e1 G).1) e2;rwa [show (fun (G:Gs) (K:Option V->Gs->Prop)=>bn ((qs G).map Prod.snd) fun ys=>W ys G K)=fun G K=>be ds G fun ys=>W ys G K from funext fun G=>funext fun K=>by rw [(e1 G).2,dg]] at z
def wb (H:GOk fx.g Z) (hk:∀ ts,k ts=true->Kids fx.g fx.d ts ds) (ha:SOk fx.g fx.d ca YA) (hb:SOk fx.g fx.d cb YB) (h:vV Z o k ca cb (bQ fx) x=true):ExB fx (exec x fx.env) (c8 (ak fx.g.P fx.d) o ds YA YB):=by
 cases o with
 | assign j=>exact ir (C:=fun x=>ExB fx (exec x fx.env) _) h fun t v p h=>bJ (C:=fun t=>ExB fx (exec (.Assign [t] v p) fx.env) _) h fun m q h=>(hk _ (a2 h).2).n1 (C:=fun ds=>ExB fx _ (c8 _ (.assign j) ds YA YB)) fun d a=>a fx rfl rfl rfl j (db (a2 h).1)
 | assignM js=>
  exact ir (C:=fun x=>ExB fx (exec x fx.env) _) h fun t v p h=>x5 (C:=fun t=>ExB fx (exec (.Assign [t] v p) fx.env) _) h fun es j q h=>a2e h fun h1 h=>(hk _ (a2 h).2).n1 (C:=fun ds=>ExB fx _ (c8 _ (.assignM js) ds YA YB)) fun d a=>oU (a2 h).1 (kT h1) (a fx rfl rfl rfl)
 | ownL j=>exact ir (C:=fun x=>ExB fx (exec x fx.env) _) h fun t v p h=>bJ (C:=fun t=>ExB fx (exec (.Assign [t] v p) fx.env) _) h fun m q h=>a2e h fun h1 h=>Au (C:=fun v=>ExB fx (exec (.Assign [_] v p) fx.env) _) h fun xs q' h=>iP (C:=fun Y=>ExB fx _ Y) (W:=fun xs G K=>xs.length<=ac/\K none (G.set j (.ownL xs))) h hk fun qs e1 e2=>xc (db h1) e1 e2
 | setAttr i c j=>exact ir (C:=fun x=>ExB fx (exec x fx.env) _) h fun t v p h=>oC (C:=fun t=>ExB fx (exec (.Assign [t] v p) fx.env) _) h fun u nm q h=>bJ (C:=fun u=>ExB fx (exec (.Assign [.Attribute u nm q] v p) fx.env) _) h fun m q' h=>a2e h fun h1 h=>a2e h fun h2 h=>a2e h fun h3 h=>a2e h fun h4 h=>(hk _ h).n1 (C:=fun ds=>ExB fx _ (c8 _ (.setAttr i c j) ds YA YB)) fun d a=>oQ (H.fld h3).1 (eq_of_beq h1) h2 (H.fld h3).2 h4 (a fx rfl rfl rfl)
 | setAttrO i c j f=>exact ir (C:=fun x=>ExB fx (exec x fx.env) _) h fun t v p h=>oC (C:=fun t=>ExB fx (exec (.Assign [t] v p) fx.env) _) h fun u nm q h=>bJ (C:=fun u=>ExB fx (exec (.Assign [.Attribute u nm q] v p) fx.env) _) h fun m q' h=>a2e h fun h1 h=>a2e h fun h2 h=>a2e h fun h3 h=>a2e h fun h4 h=>a2e h fun h5 h=>mD (H.fld h3).1 (eq_of_beq h1) h2 (H.fld h3).2 h4 (fun e=>by rw [if_pos e] at h5; exact x7 (C:=fun v=>∃ p,v=.Dict [] [] p) h5 fun p=>⟨p,rfl⟩) fun e=>by rw [if_neg (by rw [e]; exact Bool.false_ne_true)] at h5; exact BC (C:=fun v=>∃ p,v=.List [] p) h5 fun p=>⟨p,rfl⟩
 | call f=>exact Av (C:=fun x=>ExB fx (exec x fx.env) _) h fun e p h=>lU (C:=fun e=>ExB fx (exec (.Expr e p) fx.env) _) h fun n q xs r hf hx h=>iP (C:=fun Y=>ExB fx _ Y) (W:=fun xs G K=>(ak fx.g.P fx.d).p f xs fun y=>isNone y=true/\K none G) h hk fun qs e1 e2=>xi e1 hx (H.fns▸hf) (H.keep _ _ hf) e2
 | append j=>
  refine Av (C:=fun x=>ExB fx (exec x fx.env) _) h fun e p h=>cK (C:=fun e=>ExB fx (exec (.Expr e p) fx.env) _) h fun y nm q xs r hl h=>a2e h fun e h=>a2e h fun h1 hh=>?_;have e:nm="append":=eq_of_beq e;subst e;exact bJ (C:=fun y=>ExB fx (exec (.Expr (.Call (.Attribute y _ q) xs [] r) p) fx.env) _) hh fun m pm h2=>l1 (C:=fun xs=>ExB fx (exec (.Expr (.Call _ xs [] r) p) fx.env) _) h1 fun y h=>(hk _ (a2 h).2).n1 (C:=fun ds=>ExB fx _ (c8 _ (.append j) ds YA YB)) fun d a=>sD (eq_of_beq (a2 h2).1) (a2 h2).2 (a2 h).1 hl (a fx rfl rfl rfl)
 | ret=>
  refine BQ (C:=fun x=>ExB fx (exec x fx.env) _) h fun e p h=>?_;cases hnw:fx.nw with
  | true=>rw [show (bQ fx).nw=true from hnw] at h; exact (hk _ h).n1 (C:=fun ds=>ExB fx _ (c8 _ .ret ds YA YB)) fun d a=>w9 (a fx rfl rfl rfl)
  | false=>rw [show (bQ fx).nw=false from hnw] at h; exact (hk _ h).n1 (C:=fun ds=>ExB fx _ (c8 _ .ret ds YA YB)) fun d a=>zV hnw (a fx rfl rfl rfl)
 | ownD j=>exact ir (C:=fun x=>ExB fx (exec x fx.env) _) h fun t v p h=>bJ (C:=fun t=>ExB fx (exec (.Assign [t] v p) fx.env) _) h fun m q h=>a2e h fun h1 h=>x7 (C:=fun v=>ExB fx (exec (.Assign [_] v p) fx.env) _) (a2 h).1 fun q'=>xd (db h1)
 | ownD1 j=>
  refine ir (C:=fun x=>ExB fx (exec x fx.env) _) h fun t v p h=>bJ (C:=fun t=>ExB fx (exec (.Assign [t] v p) fx.env) _) h fun m q h=>a2e h fun h1 h=>x8 (C:=fun v=>ExB fx (exec (.Assign [_] v p) fx.env) _) h fun ks vs q' h=>l1 (C:=fun ks=>ExB fx (exec (.Assign [_] (.Dict ks vs q') p) fx.env) _) h fun a h=>?_;obtain ⟨a,rfl,h⟩:=iQ h;exact l1 (C:=fun vs=>ExB fx (exec (.Assign [_] (.Dict [some a] vs q') p) fx.env) _) h fun b h=>(hk _ h).n2 (C:=fun ds=>ExB fx _ (c8 _ (.ownD1 j) ds YA YB)) fun d e a b=>uz (db h1) (fun X=>a (fx.mo X) rfl rfl rfl) (fun X=>b (fx.mo X) rfl rfl rfl)
 | ownC j f=>exact ir (C:=fun x=>ExB fx (exec x fx.env) _) h fun t v p h=>bJ (C:=fun t=>ExB fx (exec (.Assign [t] v p) fx.env) _) h fun m q h=>a2e h fun h1 h=>a2e h fun h2 h=>lU (C:=fun v=>ExB fx (exec (.Assign [_] v p) fx.env) _) h fun n q xs r hf hx h=>iP (C:=fun Y=>ExB fx _ Y) (W:=fun xs G K=>(ak fx.g.P fx.d).p f xs fun y=>eU y=true/\okK (bz y some) fun l=>K none (G.set j (.ownL l))) h hk fun qs e1 e2=>xe (db h1) (by rw [H.newf]; exact h2) e1 hx (H.fns▸hf) (H.keep _ _ hf) e2
 | setD j=>exact ir (C:=fun x=>ExB fx (exec x fx.env) _) h fun t v p h=>wH (C:=fun t=>ExB fx (exec (.Assign [t] v p) fx.env) _) h fun u i sp h=>bJ (C:=fun u=>ExB fx (exec (.Assign [.Subscript u i sp] v p) fx.env) _) h fun m q h=>a2e h fun h1 h=>a2e h fun h2 h=>a2e h fun h3 h=>(hk _ h).n2 (C:=fun ds=>ExB fx _ (c8 _ (.setD j) ds YA YB)) fun d e a b=>w8 (eq_of_beq h1) h2 h3 (a fx rfl rfl rfl) (b fx rfl rfl rfl)
 | ite=>exact BR (C:=fun x=>ExB fx (exec x fx.env) _) h fun c a b p h=>a2e h fun h1 h=>(hk _ h1).n1 (C:=fun ds=>ExB fx _ (c8 _ .ite ds YA YB)) fun d q=>Bk (q fx rfl rfl rfl) (ha fx _ rfl rfl (a2 h).1) (hb fx _ rfl rfl (a2 h).2)
 | «while»=>exact lWh (C:=fun x=>ExB fx (exec x fx.env) _) h fun c a p h=>a2e h fun h1 h=>(hk _ h1).n1 (C:=fun ds=>ExB fx _ (c8 _ .while ds YA YB)) fun d q=>ux (q fx rfl rfl rfl) (ha fx _ rfl rfl h)
 | forS j=>
  exact BB (C:=fun x=>ExB fx (exec x fx.env) _) h fun T it body p h=>a2e h fun h2 h=>a2e h fun h3 h=>bJ (C:=fun T=>ExB fx (exec (.For T it body [] p) fx.env) _) h fun m q h=>(hk _ (a2 h).2).n1 (C:=fun ds=>ExB fx _ (c8 _ (.forS j) ds YA YB)) fun d a=>vr h2 (tz (db (a2 h).1)) (a fx rfl rfl rfl) fun X=>ha (fx.mo X) _ rfl rfl h3
 | forM js=>
  exact BB (C:=fun x=>ExB fx (exec x fx.env) _) h fun T it body p h=>a2e h fun h2 h=>a2e h fun h3 h=>x5 (C:=fun T=>ExB fx (exec (.For T it body [] p) fx.env) _) h fun es j q h=>(hk _ (a2 h).2).n1 (C:=fun ds=>ExB fx _ (c8 _ (.forM js) ds YA YB)) fun d a=>vr h2 (ty (kT (a2 h).1)) (a fx rfl rfl rfl) fun X=>ha (fx.mo X) _ rfl rfl h3
 | raise=>exact uy
 | mkO j f=>exact ir (C:=fun x=>ExB fx (exec x fx.env) _) h fun t v p h=>bJ (C:=fun t=>ExB fx (exec (.Assign [t] v p) fx.env) _) h fun m q h=>a2e h fun h1 h=>lU (C:=fun v=>ExB fx (exec (.Assign [_] v p) fx.env) _) h fun n q xs r hf hx h=>iP (C:=fun Y=>ExB fx _ (fun G K=>(G.all gL=true/\getSlot G j=.unset)/\Y G K)) (W:=fun xs G K=>(ak fx.g.P fx.d).m f xs fun o=>K none (G.set j (.obj o))) h hk fun qs e1 e2=>zX (db h1) e1 hx (H.fns▸hf) (H.keep _ _ hf) e2
 | oCall i c f=>
  refine x6 (C:=fun x=>ExB fx (exec x fx.env) _) h fun y nm q xs r p hl h=>a2e h fun hy h=>a2e h fun hm h=>a2e h fun hf h=>wI (C:=fun y=>ExB fx (exec (.Expr (.Call (.Attribute y nm q) xs [] r) p) fx.env) _) hy fun m pm hx hn=>?_;obtain ⟨qs,e1,e2⟩:=(hk _ h).items rfl rfl (few hf).1;have z:=uB (fx:=fx) (k:=i) (np:=pm) (spos:=p) (H.met hm).1 (H.met hm).2 hx hn hl (fun G=>(e1 G).1) (few hf).2 e2;simp only [(e1 _).2,<- dg] at z;exact z
 | oPopC i c j f=>
  refine x6 (C:=fun x=>ExB fx (exec x fx.env) _) h fun y nm q xs r p hl h=>a2e h fun hy h=>a2e h fun hm h=>wI (C:=fun y=>ExB fx (exec (.Expr (.Call (.Attribute y nm q) xs [] r) p) fx.env) _) hy fun m pm hx hn=>l1 (C:=fun xs=>ExB fx (exec (.Expr (.Call _ xs [] r) p) fx.env) _) h fun z h=>a2e h fun h0 h=>cK (C:=fun z=>ExB fx (exec (.Expr (.Call _ [z] [] r) p) fx.env) _) h fun u n' q' zs r' CP h=>a2e h fun e h=>a2e h fun ht hh=>?_;obtain rfl:n'="pop":=eq_of_beq e;refine vh (C:=fun u=>ExB fx (exec (.Expr (.Call _ [.Call (.Attribute u _ q') zs [] r'] [] r) p) fx.env) _) H ht fun m' pm' fm qf Cg Co EA Dr=>l1 (C:=fun zs=>ExB fx (exec (.Expr (.Call _ [.Call _ zs [] r'] [] r) p) fx.env) _) hh fun w h=>pF (C:=fun w=>ExB fx (exec (.Expr (.Call _ [.Call _ [w] [] r'] [] r) p) fx.env) _) h fun G6 kd lp hc=>?_;exact uA (H.met hm).1 (H.met hm).2 hx hn EA Dr hl CP Co hc
 | oApp i c j=>
  refine x6 (C:=fun x=>ExB fx (exec x fx.env) _) h fun y nm q xs r p hl h=>a2e h fun e h=>a2e h fun ht hh=>?_;obtain rfl:nm="append":=eq_of_beq e;exact vh (C:=fun y=>ExB fx (exec (.Expr (.Call (.Attribute y _ q) xs [] r) p) fx.env) _) H ht fun m pm fm qf Cg Co hx hn=>l1 (C:=fun xs=>ExB fx (exec (.Expr (.Call _ xs [] r) p) fx.env) _) hh fun z h=>(hk _ (a2 h).2).n1 (C:=fun ds=>ExB fx _ (c8 _ (.oApp i c j) ds YA YB)) fun d a=>xg Cg hx hn Co (a2 h).1 hl (a fx rfl rfl rfl)
 | oSet i c j=>exact ir (C:=fun x=>ExB fx (exec x fx.env) _) h fun t v p h=>wH (C:=fun t=>ExB fx (exec (.Assign [t] v p) fx.env) _) h fun u e sp h=>a2e h fun ht h=>a2e h fun hs h=>vh (C:=fun u=>ExB fx (exec (.Assign [.Subscript u e sp] v p) fx.env) _) H ht fun m pm fm qf Cg Co hx hn=>(hk _ h).n2 (C:=fun ds=>ExB fx _ (c8 _ (.oSet i c j) ds YA YB)) fun d e a b=>xf Cg hx hn Co hs (a fx rfl rfl rfl) (b fx rfl rfl rfl)
 | oDefApp i c j=>
  refine x6 (C:=fun x=>ExB fx (exec x fx.env) _) h fun y nm q xs r p hl h=>a2e h fun e h=>l1 (C:=fun xs=>ExB fx (exec (.Expr (.Call _ xs [] r) p) fx.env) _) h fun w h=>a2e h fun hp h=>cK (C:=fun y=>ExB fx (exec (.Expr (.Call (.Attribute y _ q) [w] [] r) p) fx.env) _) h fun u n' q' zs r' CP h=>a2e h fun e' h=>a2e h fun ht hh=>?_;obtain rfl:nm="append":=eq_of_beq e;obtain rfl:n'="setdefault":=eq_of_beq e';refine vh (C:=fun u=>ExB fx (exec (.Expr (.Call (.Attribute (.Call (.Attribute u _ q') zs [] r') _ q) [w] [] r) p) fx.env) _) H ht fun m pm fm qf Cg Co hx hn=>l2 (C:=fun zs=>ExB fx (exec (.Expr (.Call (.Attribute (.Call _ zs [] r') _ q) [w] [] r) p) fx.env) _) hh fun z1 z2 h=>a2e h fun h1 h=>a2e h fun h2 h=>BC (C:=fun z2=>ExB fx (exec (.Expr (.Call (.Attribute (.Call _ [z1,z2] [] r') _ q) [w] [] r) p) fx.env) _) h2 fun lp=>(hk _ h).n2 (C:=fun ds=>ExB fx _ (c8 _ (.oDefApp i c j) ds YA YB)) fun d e a b=>?_;exact oR Cg hx hn Co h1 hp CP hl (a fx rfl rfl rfl) (b fx rfl rfl rfl)
 | aliS m i c j=>
  refine ir (C:=fun x=>ExB fx (exec x fx.env) _) h fun t v p h=>bJ (C:=fun t=>ExB fx (exec (.Assign [t] v p) fx.env) _) h fun n q h=>a2e h fun hT h=>cK (C:=fun v=>ExB fx (exec (.Assign [_] v p) fx.env) _) h fun u n' q' zs r' hl h=>a2e h fun e h=>a2e h fun ht hh=>?_;obtain rfl:n'="setdefault":=eq_of_beq e;exact vh (C:=fun u=>ExB fx (exec (.Assign [_] (.Call (.Attribute u _ q') zs [] r') p) fx.env) _) H ht fun m' pm fm qf Cg Co hx hn=>l2 (C:=fun zs=>ExB fx (exec (.Assign [_] (.Call _ zs [] r') p) fx.env) _) hh fun z1 z2 h=>a2e h fun h1 h=>a2e h fun h2 h=>x7 (C:=fun z2=>ExB fx (exec (.Assign [_] (.Call _ [z1,z2] [] r') p) fx.env) _) h2 fun lp=>(hk _ h).n1 (C:=fun ds=>ExB fx _ (c8 _ (.aliS m i c j) ds YA YB)) fun d a=>xj (db hT) Cg hx hn Co h1 hl (a fx rfl rfl rfl)
 | aliG m i c j=>
  refine ir (C:=fun x=>ExB fx (exec x fx.env) _) h fun t v p h=>bJ (C:=fun t=>ExB fx (exec (.Assign [t] v p) fx.env) _) h fun n q h=>a2e h fun hT h=>cK (C:=fun v=>ExB fx (exec (.Assign [_] v p) fx.env) _) h fun u n' q' zs r' hl h=>a2e h fun e h=>a2e h fun ht hh=>?_;obtain rfl:n'="get":=eq_of_beq e;exact vh (C:=fun u=>ExB fx (exec (.Assign [_] (.Call (.Attribute u _ q') zs [] r') p) fx.env) _) H ht fun m' pm fm qf Cg Co hx hn=>l2 (C:=fun zs=>ExB fx (exec (.Assign [_] (.Call _ zs [] r') p) fx.env) _) hh fun z1 z2 h=>a2e h fun h1 h=>a2e h fun h2 h=>x7 (C:=fun z2=>ExB fx (exec (.Assign [_] (.Call _ [z1,z2] [] r') p) fx.env) _) h2 fun lp=>(hk _ h).n1 (C:=fun ds=>ExB fx _ (c8 _ (.aliG m i c j) ds YA YB)) fun d a=>xk (db hT) Cg hx hn Co h1 hl (a fx rfl rfl rfl)
 | aliSet m=>exact ir (C:=fun x=>ExB fx (exec x fx.env) _) h fun t v p h=>wH (C:=fun t=>ExB fx (exec (.Assign [t] v p) fx.env) _) h fun u e sp h=>a2e h fun ht h=>a2e h fun hs h=>wI (C:=fun u=>ExB fx (exec (.Assign [.Subscript u e sp] v p) fx.env) _) ht fun m' pm hx hn=>(hk _ h).n2 (C:=fun ds=>ExB fx _ (c8 _ (.aliSet m) ds YA YB)) fun d e a b=>sE hx hn hs (a fx rfl rfl rfl) (b fx rfl rfl rfl)
 | _=>(injection h; done)
def wz (H:GOk g Z) (hk:∀ ts,k ts=true->Kids g n ts ds) (ha:SOk g n ca YA) (hb:SOk g n cb YB):MOk g n (vX Z o k ca cb) (c8 (ak g.P n) o ds YA YB):=fun fx Cn rest Y hg hn hr h=>by
 subst hg hn;have go:∀ {o:SOp},Bv (vV Z o k ca cb (bQ fx)) rest Cn=true->ExB fx (execs Cn fx.env) (vK (c8 (ak fx.g.P fx.d) o ds YA YB) Y):=fun {o} h=>by
  cases Cn with
  | nil=>(injection h; done)
  | cons x r=>exact xh (wb H hk ha hb (a2 h).1) (hr r (a2 h).2)
 cases o with
 | freeze j=>exact sC (hr Cn h)
 | freezeD j=>exact oT (hr Cn h)
 | freezeO j=>exact oS (hr Cn h)
 | _=>exact go h
def u9:SOk g n (fun U Cn=>Cn.isEmpty) (fun G K=>K none G):=fun fx Cn U U h=>ln (C:=fun Cn=>ExB fx (execs Cn fx.env) _) h zW
def uX (h1:MOk g n c W) (h2:SOk g n is Y):SOk g n (fun X Cn=>c X Cn (is X)) (vK W Y):=fun fx Cn hg hn h=>h1 fx Cn (is (bQ fx)) Y hg hn (fun r q=>h2 fx r hg hn q) h
def BK (H:GOk g Z) (s:S):MOk g n (AB Z s) (ex (ak g.P n) s):=
 S.rec (motive_1:=fun s=>MOk g n (AB Z s) (ex (ak g.P n) s))
  (motive_2:=fun l=>SOk g n (S.rec_1 (motive_1:=fun U=>CkM) (motive_2:=fun U=>CkS) (fun o es U U a b X Cn rest=>vX Z o (oE (es.map (xG Z))) a b X Cn rest) (fun U Cn=>Cn.isEmpty) (fun U U i is X Cn=>i X Cn (is X)) l)
   (S.rec_1 (motive_1:=fun U=>B) (motive_2:=fun U=>B) (fun o es U U x y=>c8 (ak g.P n) o (es.map (ev (ak g.P n))) x y) (fun G K=>K none G) (fun U U i is G K=>i G fun fl G'=>match fl with | none=>is G' K | some x=>K (some x) G') l))
  (fun o es a b ha hb=>wz H (xW H es) ha hb) u9 (fun s l i is=>uX i is) s
theorem xV (H:GOk g Z):∀ l:List S,SOk g n (vW Z l) (exs (ak g.P n) l)
 | []=>u9
 | s :: r=>uX (BK H s) (xV H r)
end
theorem dE:∀ (names:List (Str×NameKind)) (n:Nat) (acc:List (Str×Addr)) (x:Str),((x,NameKind.cell)∈names\/(acc.lookup x).isSome=true)->((cellsFrom n names acc).lookup x).isSome=true
 | [],_,_,_,h=>by
  rcases h with h | h
  ·cases h
  ·exact h
 | (y,k) :: r,n,acc,x,h=>by
  unfold cellsFrom;have more:∀ q:Str×Addr,(acc.lookup x).isSome=true->((q :: acc).lookup x).isSome=true:=fun q e=>by
   rw [lookup_cons]; split
   ·rfl
   ·exact e
  split
  ·refine dE r _ _ x ?_;rcases h with h | h
   ·rcases mem_cons.mp h with e | e
    ·(injection e with e; subst e); right; rw [lookup_cons]; simp
    ·exact .inl e
   ·exact .inr (more _ h)
  ·rename_i hk;refine dE r _ _ x ?_;rcases h with h | h
   ·rcases mem_cons.mp h with e | e
    ·cases e; exact absurd rfl hk
    ·exact .inl e
   ·exact .inr h
theorem kq {kindOf:Str->Option NameKind} (hx:kindOf x=some .local):∀ (ps:List Str) (vs:List Value) (m:Str->Option Value),ps.Nodup->ps.length=vs.length ->
  (∀ i:Nat,ps[i]?=some x->bindL kindOf (ps.zip vs) m x=vs[i]?)/\(x∉ps->bindL kindOf (ps.zip vs) m x=m x)
 | [],_,m,_,_=>⟨fun i e=>by simp at e,fun U=>by simp [bindL]⟩
 | p :: ps,[],m,_,e=>by simp at e
 | p :: ps,v :: vs,m,hn,e=>by
  obtain ⟨hp,Dr⟩:=nodup_cons.mp hn;have ih:=fun m=>kq hx ps vs m Dr (Nat.succ.inj e);refine ⟨fun i ei=>?_,fun nx=>?_⟩
  ·refine (?_:bindL kindOf (ps.zip vs) _ x=_);cases i with
   | zero=>
    (injection ei with ei; subst ei);rw [(ih _).2 hp,if_pos hx]; exact if_pos rfl
   | succ i=>exact (ih _).1 i ei
  ·refine (?_:bindL kindOf (ps.zip vs) _ x=_);rw [(ih _).2 fun q=>nx (.tail _ q)];split
   ·exact if_neg fun q:x=p=>nx (q▸.head _)
   ·rfl
theorem ku {kindOf:Str->Option NameKind} (hx:kindOf x≠some .local):∀ (ps:List Str) (vs:List Value) (m:Str->Option Value),ps.Nodup->ps.length=vs.length ->
  (∀ i:Nat,ps[i]?=some x->bindC kindOf (ps.zip vs) m x=vs[i]?)/\(x∉ps->bindC kindOf (ps.zip vs) m x=m x)
 | [],_,m,_,_=>⟨fun i e=>by simp at e,fun U=>by simp [bindC]⟩
 | p :: ps,[],m,_,e=>by simp at e
 | p :: ps,v :: vs,m,hn,e=>by
  obtain ⟨hp,Dr⟩:=nodup_cons.mp hn;have ih:=fun m=>ku hx ps vs m Dr (Nat.succ.inj e);refine ⟨fun i ei=>?_,fun nx=>?_⟩
  ·refine (?_:bindC kindOf (ps.zip vs) _ x=_);cases i with
   | zero=>
    (injection ei with ei; subst ei);rw [(ih _).2 hp,if_neg hx]; exact if_pos rfl
   | succ i=>exact (ih _).1 i ei
  ·refine (?_:bindC kindOf (ps.zip vs) _ x=_);rw [(ih _).2 fun q=>nx (.tail _ q)];split
   ·rfl
   ·exact if_neg fun q:x=p=>nx (q▸.head _)
theorem eA:∀ (l:List Str) (n:Nat) (x:Str) (k:Nat),(l.zipIdx n).lookup x=some k->∃ j,k=n+j/\l[j]?=some x
 | [],_,_,_,e=>nN e.symm
 | y :: r,n,x,k,e=>by
  rw [List.zipIdx_cons,lookup_cons] at e;cases hb:x==y with
  | true=>replace e:=hb▸e; (injection e with e; subst e); rw [beq_iff_eq.mp hb]; exact ⟨0,rfl,rfl⟩
  | false=>
   rw [hb] at e;obtain ⟨j,h1,h2⟩:=eA r (n+1) x k e;exact ⟨j+1,by rw [h1,add_assoc,add_comm 1],h2⟩
structure FnAt (g:Gl) (a:Addr) (fn:Fn) (fd:FuncData) (body:List Stmt) (nms:List Str):Prop where
 at':∃ o:Obj,g.h0.get? a=some o/\o.data=.func fd
 bd:fd.body=.stmts body
 code:g.h0.CodeRec fd.code fd.qualname
 glo:fd.globals=mainGlobals
 blt:fd.builtins=builtinsNs
 clo:fd.closure=[]
 co:fd.scope.isCoroutine=false
 gen:fd.scope.isGenerator=false
 kind:fd.scope.kind=.function
 bind:∀ vals:List Value,vals.length=fn.npar->bindArgs fd ⟨vals,[]⟩=pure ((nms.take fn.npar).zip vals)
 nodup:nms.Nodup
 npar:fn.npar<=nms.length
 nslots:nms.length<=fn.nslots
 kinds:∀ x∈nms,fd.scope.names.lookup x=some .local\/fd.scope.names.lookup x=some .cell
noncomputable def jr (nms:List Str) (sc:List (Str×NameKind)) (L:Addr) (cs:List (Str×Addr)) (k:Nat):Pl:=match nms[k]? with
 | none=>.off
 | some x=>if sc.lookup x=some .local then .ns L x else match cs.lookup x with | some c=>.cell c | none=>.off
noncomputable def w3 (g:Gl) (A:Around) (fd:FuncData) (nms:List Str) (ns:Nat) (a L:Addr) (bad:Addr->Prop) (d:Nat) (nw:Bool):Fx:=
 { g:=g,A:=A.deeper (callEnvC fd L a),env:=callEnvC fd L a,ρ:=nms.zipIdx,pl:=jr nms fd.scope.names L (cellsFrom (L+1) fd.scope.names []),Mo:=bad,nf:=nms.length,ns:=ns,d:=d,nw:=nw }
section
variable {g:Gl} {a:Addr} {fn:Fn} {fd:FuncData} {body:List Stmt} {nms:List Str}
def pl_cases (F:FnAt g a fn fd body nms) (L n:Nat) (k:Nat):(nms[k]?=none/\jr nms fd.scope.names L (cellsFrom n fd.scope.names []) k=.off)\/∃ x,nms[k]?=some x/\((fd.scope.names.lookup x=some .local/\jr nms fd.scope.names L (cellsFrom n fd.scope.names []) k=.ns L x) \/
  (fd.scope.names.lookup x=some .cell/\∃ c,(cellsFrom n fd.scope.names []).lookup x=some c/\jr nms fd.scope.names L (cellsFrom n fd.scope.names []) k=.cell c)):=by
 unfold jr;cases hk:nms[k]? with
 | none=>exact .inl ⟨rfl,rfl⟩
 | some x=>
  refine .inr ⟨x,rfl,(F.kinds x (J8 hk)).imp (fun h=>⟨h,if_pos h⟩) fun h=>⟨h,?_⟩⟩;obtain ⟨c,hc⟩:=isSome_iff_exists.mp (dE fd.scope.names n [] x (.inl (mem_of_lookup h)));refine ⟨c,hc,(if_neg fun q=>?_).trans ?_⟩
  ·replace q:=h▸q; cases q
  ·rw [hc]
def AW (F:FnAt g a fn fd body nms) (gr:Ground g) (ih:CallOk g (ak g.P d) d) (hand:A.handled=none) (CV:A.depth+(1+2 * d) < 990) (CL:A.units+(3+4 * d)+100 < cLine)
  (Dt:∀ x c,(cellsFrom (L+1) fd.scope.names []).lookup x=some c->L < c) (apart:(cellsFrom (L+1) fd.scope.names []).Pairwise fun x y=>x.2≠y.2) (Gh:∀ b,bad b->g.h0.get? b=none) :
  FxOk (w3 g A fd nms fn.nslots a L bad d nw) where
 gr:=gr
 hand:=hand
 kind:=F.kind
 globals:=F.glo
 builtins:=F.blt
 vis:=fun x k hx=>by
  obtain ⟨j,rfl,hj⟩:=eA nms 0 x k hx;rw [zero_add];rcases pl_cases F L (L+1) j with ⟨q,_⟩ | ⟨y,q,z⟩ <;> rw [hj] at q <;> cases q
  exact z.imp (fun z=>⟨z.1,z.2⟩) fun ⟨z,c,hc,zp⟩=>⟨.inl z,c,hc,zp⟩
 inj:=fun k j e Cr=>by
  rcases pl_cases F L (L+1) k with ⟨_,q⟩ | ⟨x,qk,zk⟩
  ·exact absurd q Cr
  rcases pl_cases F L (L+1) j with ⟨_,q⟩ | ⟨y,qj,zj⟩
  ·exact absurd (e.trans q) Cr
  have e:jr nms fd.scope.names L (cellsFrom (L+1) fd.scope.names []) k=jr nms fd.scope.names L (cellsFrom (L+1) fd.scope.names []) j:=e;have:x=y:=by
   rcases zk with ⟨_,q⟩ | ⟨_,c,q1,q⟩ <;> rcases zj with ⟨_,q'⟩ | ⟨_,c',q1',q'⟩ <;> rw [q,q'] at e <;> cases e
   ·rfl
   ·exact name_of_addr apart (mem_of_lookup q1) (mem_of_lookup q1')
  subst this;exact (getElem?_inj (List.getElem?_eq_some_iff.mp qk).1 F.nodup).mp (qk.trans qj.symm)
 apart:=fun k j b x c e1 e2=>by
  have e1:jr nms fd.scope.names L (cellsFrom (L+1) fd.scope.names []) k=.ns b x:=e1;have e2:jr nms fd.scope.names L (cellsFrom (L+1) fd.scope.names []) j=.cell c:=e2;rcases pl_cases F L (L+1) k with ⟨_,q⟩ | ⟨y,_,⟨_,q⟩ | ⟨_,_,_,q⟩⟩ <;> rw [q] at e1 <;> cases e1
  rcases pl_cases F L (L+1) j with ⟨_,q⟩ | ⟨y,_,⟨_,q⟩ | ⟨_,c',q1,q⟩⟩ <;> rw [q] at e2 <;> cases e2
  exact ne_of_lt (Dt y _ q1)
 offs:=fun k hk=>by
  rcases pl_cases F L (L+1) k with ⟨_,q⟩ | ⟨y,q,_⟩
  ·exact q
  ·exact absurd (List.getElem?_eq_some_iff.mp q).1 (not_lt.mpr hk)
 nfs:=F.nslots
 room:=by refine (?_:A.depth+1+2 * d < 990); rw [add_assoc]; exact CV
 units:=by refine (?_:A.units+3+4 * d+100 < cLine); rw [add_assoc A.units]; exact CL
 call:=ih
 mo0:=Gh
end
section
variable {g:Gl} {a:Addr} {fn:Fn} {fd:FuncData} {body:List Stmt} {nms:List Str}
structure Ran (g:Gl) (bad:Addr->Prop) (nw:Bool) (oa0:Nat->List (List Addr)) (G0:Gs) (vals:List Value) (s:Shared) (Φ':Ct) (s':Shared):Prop where
 inv:Inv Φ' s'
 hg:Φ'.fx.g=g
 mo:Φ'.fx.Mo=bad
 hnw:Φ'.fx.nw=nw
 keep:∀ b o,s.heap.get? b=some o->b∉(oa0 0).flatten->s'.heap.get? b=some o
 inst:∀ a F,Φ'.oa 0=[a] :: F->isI (getSlot Φ'.G 0)->∃ CS,oa0 0=[a] :: CS
 objs:∀ o' u,getSlot Φ'.G 0=.obj o'->getSlot G0 0≠.unset->vals[0]?=some u->dF (oa0 0) (Φ'.oa 0)/\aw s'.heap (Φ'.fx.pl 0) (some u)
 news:∀ a∈(Φ'.oa 0).flatten,a∈(oa0 0).flatten\/s.heap.get? a=none
def zd {bad:Addr->Prop} {oa0:Nat->List (List Addr)} {K:Option V->Gs->Prop} {R:Result->Shared->Prop} (F:FnAt g a fn fd body nms) (gr:Ground g) (ih:CallOk g (ak g.P d) d)
  (hand:A.handled=none) (CV:A.depth+(1+2 * d) < 990) (CL:A.units+(3+4 * d)+100 < cLine) (B:Base g s) (Ei:∀ b,bad b->aI s.heap b) (Gh:∀ b,bad b->g.h0.get? b=none) (Cj:vals.length=fn.npar) (hG:G0.length=fn.nslots)
  (Eh:∀ k b,b∈(oa0 k).flatten->k=0/\aI s.heap b/\g.h0.get? b=none/\¬ bad b)
  (hsl:∀ k,k < fn.npar->aV g (fun b=>bad b\/b∈(oa0 0).flatten) s.heap (fun U U U U=>False) (oa0 k) vals[k]? (getSlot G0 k)) (hun:∀ k,¬ k < fn.npar->getSlot G0 k=.unset/\oa0 k=[]) (Fz:∀ L,ExB (w3 g A fd nms fn.nslots a L bad d nw) (execs body (callEnvC fd L a)) (exs (ak g.P d) fn.body)) (hb:exs (ak g.P d) fn.body G0 K)
  (hR:∀ s' (Φ':Ct) f fl,Ran g bad nw oa0 G0 vals s Φ' s'->vH Φ' s s'.heap f fl->K fl Φ'.G->R (.ok (.ret (match f with | .ret v=>v | _=>.none))) s'):codeAny (model g.prog g.w) A (.call (.ref a) ⟨vals,[]⟩) R s:=by
 obtain ⟨o,ho,hd⟩:=F.at';have Gw:∀ a,s.heap.objs.size<=a->s.heap.get? a=none:=fun a ha=>by
  cases e:s.heap.get? a with
  | none=>rfl
  | some o=>exact absurd (lt_size e) (not_lt.mpr ha)
 have H7:=cellsFrom_ok fd.scope.names (s.heap.push { cls:=.type "frame",data:=.dict #[] }) (s.heap.objs.size+1) [] ⟨fun U U hm=>(nM hm),Pairwise.nil⟩ (by rw [size_push]; exact le_refl _);rw [size_push] at H7;have Dt:∀ x c,(cellsFrom (s.heap.objs.size+1) fd.scope.names []).lookup x=some c->s.heap.objs.size < c:=fun x c hx=>(H7.empty x c (mem_of_lookup hx)).2;have ok:=AW (bad:=bad) (nw:=nw) F gr ih hand CV CL Dt H7.apart Gh;have hkc:∀ x∈nms,fd.scope.names.lookup x=some .local\/(fd.scope.names.lookup x=some .cell/\((cellsFrom (s.heap.objs.size+1) fd.scope.names []).lookup x).isSome=true):=fun x hx=>(F.kinds x hx).imp id fun h=>⟨h,dE _ _ _ _ (.inl (mem_of_lookup h))⟩;refine codeAny_call_cells (o:=o) (fd:=fd) (body:=body) (binds:=(nms.take fn.npar).zip vals) (show A.depth < 1000 from lt_trans (J5 (le_add_right _ _) CV) (by decide)) (B.stays _ _ ho) hd (gr.nolim.keeps fun b o e=>B.stays b o e) (F.code.keeps fun b o e=>B.stays b o e) F.bd (F.bind vals Cj) F.clo
  (fun x hx=>hkc x.1 (mem_of_mem_take (List.of_mem_zip hx).1)) (fun s₁ ic=>?_) F.co F.gen F.kind
 let fx:Fx:=w3 g A fd nms fn.nslots a s.heap.objs.size bad d nw
 have Fz:ExB fx (execs body fx.env) (exs (ak g.P d) fn.body):=Fz s.heap.objs.size;have Dc:∀ k b,(fx.pl k).addr=some b->s.heap.get? b=none:=fun k b e=>by
  have e:(jr nms fd.scope.names s.heap.objs.size (cellsFrom (s.heap.objs.size+1) fd.scope.names []) k).addr=some b:=e;rcases pl_cases F s.heap.objs.size (s.heap.objs.size+1) k with ⟨_,q⟩ | ⟨y,_,⟨_,q⟩ | ⟨_,c,q1,q⟩⟩ <;> rw [q] at e <;> (first | (injection e; done) | (injection e with e; subst e))
  ·exact Gw _ (le_refl _)
  ·exact Gw _ (le_of_lt (Dt y _ q1))
 have kp:ah s.heap s₁.heap:=ic.toInCall.keep;obtain ⟨Cu,Ft,EL⟩:=ic.toInCall.same;have Dd:∀ b,aI s.heap b->b∉(oa0 0).flatten->¬ (Ct.mk fx oa0 G0).own b:=fun b l n q=>by
  rcases q with ⟨k,q⟩ | ⟨k,q⟩
  ·obtain ⟨o,e⟩:=l; exact af (Dc k b q) e
  ·obtain rfl:=(Eh k b q).1; exact n q
 have mk:a7 (fun b=>bad b\/b∈(oa0 0).flatten) (Ct.mk fx oa0 G0).bad s.heap s₁.heap:=fun b o e n=>⟨fun q=>q.elim (fun q=>n (.inl q)) (Dd b ⟨o,e⟩ fun q=>n (.inr q)),kp b o e⟩;have F2:(nms.take fn.npar).length=vals.length:=by rw [length_take,Cj]; exact min_eq_left F.npar
 have FZ:(nms.take fn.npar).Nodup:=F.nodup.sublist (List.take_sublist _ _);have Ew:∀ k x,nms[k]?=some x->k < fn.npar->(nms.take fn.npar)[k]?=some x:=fun k x hk Cm=>by rw [List.getElem?_take_of_lt Cm]; exact hk
 have DR:∀ k x,nms[k]?=some x->¬ k < fn.npar->x∉nms.take fn.npar:=fun k x hk Gb hm=>by
  obtain ⟨j,hj⟩:=getElem?_of_mem hm;have hjl:j < fn.npar:=J6 (List.getElem?_eq_some_iff.mp hj).1 (List.length_take_le _ _);rw [List.getElem?_take_of_lt hjl] at hj;exact Gb ((getElem?_inj (List.getElem?_eq_some_iff.mp hj).1 F.nodup).mp (hj.trans hk.symm)▸hjl)
 have slot:∀ k,∃ v,aw s₁.heap (fx.pl k) v/\(k < fn.npar->v=vals[k]?)/\(¬ k < fn.npar->v=none):=fun k=>by
  rcases pl_cases F s.heap.objs.size (s.heap.objs.size+1) k with ⟨e,q⟩ | ⟨x,hk,⟨h1,q⟩ | ⟨h1,c,h2,q⟩⟩
  ·exact ⟨none,by refine (?_:aw _ (jr _ _ _ _ _) _); rw [q]; rfl,fun Cm=>absurd Cm (not_lt.mpr (zB1 F.npar (List.getElem?_eq_none_iff.mp e))),fun U=>rfl⟩
  ·have bl:=kq (kindOf:=(callEnvC fd s.heap.objs.size a).kindOf) (x:=x) h1 (nms.take fn.npar) vals (fun U=>none) FZ F2;exact ⟨_,by refine (?_:aw _ (jr _ _ _ _ _) _); rw [q]; exact ⟨_,ic.toInCall.ns,rfl⟩,fun Cm=>bl.1 k (Ew k x hk Cm),fun Gb=>bl.2 (DR k x hk Gb)⟩
  ·have bc:=ku (kindOf:=(callEnvC fd s.heap.objs.size a).kindOf) (x:=x) (fun z=>by have z:fd.scope.names.lookup x=some .local:=z; rw [h1] at z; cases z) (nms.take fn.npar) vals (fun U=>none) FZ F2;exact ⟨_,by refine (?_:aw _ (jr _ _ _ _ _) _); rw [q]; exact ic.cell x c h2,fun Cm=>bc.1 k (Ew k x hk Cm),fun Gb=>bc.2 (DR k x hk Gb)⟩
 have g':Inv ⟨fx,oa0,G0⟩ s₁:=by
  refine ⟨ok,⟨fun b o e=>kp b o (B.stays b o e),by rw [EL]; exact B.os,by rw [EL]; exact B.gens⟩,fun k=>?_,fun b q=>?_,fun k j b e1 e2=>(Eh k b e1).1.trans (Eh j b e2).1.symm,fun k b e j q=>?_,hG,fun b q=>kp.live (Ei b q)⟩
  ·obtain ⟨v,r,h1,h2⟩:=slot k;refine ⟨v,r,?_⟩;by_cases Cm:k < fn.npar
   ·rw [h1 Cm]; exact (hsl k Cm).map mk (fun U U U U q=>q.elim) fun b U o e=>kp b o e
   ·rw [h2 Cm,(hun k Cm).1]; exact ⟨(hun k Cm).2,rfl⟩
  ·rcases q with ⟨k,q⟩ | ⟨k,q⟩
   ·have hn:=Dc k b q;refine ⟨?_,aH (fun l=>B.stays.live l) hn,fun z=>(Ei b z).elim fun o e=>af hn e⟩;obtain ⟨v,r,_⟩:=slot k;have q:(fx.pl k).addr=some b:=q;generalize fx.pl k=pl at r q;cases pl with
    | ns a' x=>(injection q with q; subst q); obtain ⟨m,⟨o',_,_,CA,_⟩,_⟩:=r; exact ⟨o',CA⟩
    | cell c=>(injection q with q; subst q); obtain ⟨o',CA,_⟩:=r; exact ⟨o',CA⟩
    | off=>(injection q; done)
   ·obtain ⟨_,l,h0,nb⟩:=Eh k b q;exact ⟨kp.live l,h0,nb⟩
  ·obtain ⟨o,e⟩:=(Eh k b e).2.1;exact af (Dc j b q) e
 refine wpAny_mono (Fz oa0 G0 K s₁ hb g' _) (fun f s' ⟨Cc,G',fl,I',t,hf,hk⟩=>hR s' ⟨fx,Cc,G'⟩ f fl ⟨I',rfl,rfl,rfl,fun b o e n=>t.keep b o (kp b o e) (Dd b ⟨o,e⟩ n),fun a F e q=>((t.sl 0).inst a F e q).elim fun CS z=>⟨CS,z.1⟩,fun o' u e n hu=>?_,fun b m=>?_⟩ (hf.lift fun b l=>kp.live l) hk) fun U U z=>z
 ·obtain ⟨o,_,gw,p⟩:=(t.sl 0).objs o' e n;obtain ⟨v,r,h1,_⟩:=slot 0;have h0:0 < fn.npar:=by rw [<- Cj]; exact (List.getElem?_eq_some_iff.mp hu).1
  rw [h1 h0,hu] at r;exact ⟨gw,p u r⟩
 ·cases e:s.heap.get? b with
  | none=>exact .inr rfl
  | some o=>
   refine .inl (byContradiction fun n=>Dd b ⟨o,e⟩ n (t.grow b (kp.live ⟨o,e⟩) (.inr ⟨0,m⟩)))
end
section
variable {g:Gl}
def yl {fn:Fn} {hd:List Slot} {args:List V} {k:Nat} {sl:Slot} (h:hd[k]?=some sl):getSlot (fr0 fn hd args) k=sl:=by
 have hl:=(List.getElem?_eq_some_iff.mp h).1;unfold getSlot fr0;rw [getD_eq_getElem?_getD,append_assoc,getElem?_append_left hl,h]; rfl
def zT {fn:Fn} {hd:List Slot} {args:List V} {k:Nat} {x:V} (h:args[k]?=some x):getSlot (fr0 fn hd args) (hd.length+k)=.v x:=by
 have hl:=(List.getElem?_eq_some_iff.mp h).1;unfold getSlot fr0;rw [getD_eq_getElem?_getD,append_assoc,getElem?_append_right (le_add_right _ _),Nat.add_sub_cancel_left,getElem?_append_left (by rw [zA4]; exact hl),Jc,h]; rfl
def AX {fn:Fn} {hd:List Slot} {args:List V} {k:Nat} (h:¬ k < hd.length+args.length):getSlot (fr0 fn hd args) k=.unset:=by
 unfold getSlot fr0;rw [getD_eq_getElem?_getD,getElem?_append_right (by rw [zB5,zA4]; exact not_lt.mp h),List.getElem?_replicate]; split <;> rfl
def vE (g:Gl) (d:Nat) (a:Addr) (fn:Fn) (fd:FuncData) (body:List Stmt) (nms:List Str) (nw:Bool):Prop:=∀ A L bad,ExB (w3 g A fd nms fn.nslots a L bad d nw) (execs body (callEnvC fd L a)) (exs (ak g.P d) fn.body)
structure FnOk (g:Gl) (d:Nat) (fn:Fn) (a:Addr) (nw:Bool):Prop where
 it:∃ fd body nms,FnAt g a fn fd body nms/\vE g d a fn fd body nms nw
structure InitAt (g:Gl) (d c:Nat) (fn:Fn):Prop where
 c3:c < 3
 it:∃ fI,findIn g.K (.ref (g.C c)) "__init__"=some (some (.ref fI))/\typeIn g.K (.ref fI)=some (.type "function")/\FnOk g d fn fI false
def fu (g:Gl) (d f:Nat) (fn:Fn):Prop:=match fn.kind with
 | .cls c n=>g.fn f=g.C c/\n≠0/\InitAt g d c fn
 | .ocls c=>g.fn f=g.C c/\InitAt g d c fn
 | _=>FnOk g d fn (g.fn f) (g.newf f)
def pn {a d:Nat} (h:a+2 * (d+1) < 990):a+(1+2 * d) < 990:=add_comm (2 * d) 1▸Nat.lt_of_succ_lt h
def zf {a d:Nat} (h:a+2 * (d+1) < 990):a+1+(1+2 * d) < 990:=add_comm (2 * d) 1▸(add_right_comm a (2 * d) 1▸h:a+1+2 * d+1 < 990)
def pj {a d c:Nat} (h:a+4 * (d+1)+100 < c):a+(3+4 * d)+100 < c:=add_comm (4 * d) 3▸Nat.lt_of_succ_lt (h:a+4 * d+103+1 < c)
def ze {a d c:Nat} (h:a+4 * (d+1)+100 < c):a+1+(3+4 * d)+100 < c:=add_comm (4 * d) 3▸(add_right_comm a (4 * d) 1▸h:a+1+4 * d+3+100 < c)
noncomputable def oaF (F:List (List Addr)) (k:Nat):List (List Addr):=if k=0 then F else []
def qG {F:List (List Addr)} (m:b∈(oaF F k).flatten):k=0/\b∈F.flatten:=by
 unfold oaF at m;by_cases q:k=0
 ·rw [if_pos q] at m; exact ⟨q,m⟩
 ·rw [if_neg q] at m; exact nM m
def lM {fn:Fn} {a:Addr} {bad:Addr->Prop} {F:List (List Addr)} {hd:List Slot} {hv:List Value} {K:Option V->Gs->Prop} {R:Result->Shared->Prop} (ok:FnOk g d fn a nw) (gr:Ground g) (ih:CallOk g (ak g.P d) d)
  (hand:A.handled=none) (CV:A.depth+(1+2 * d) < 990) (CL:A.units+(3+4 * d)+100 < cLine) (B:Base g s) (Ei:∀ b,bad b->aI s.heap b) (Gh:∀ b,bad b->g.h0.get? b=none) (hh:hd.length=hv.length) (Cj:hd.length+args.length=fn.npar) (h1:hd=[]->F=[])
  (hF:∀ b∈F.flatten,aI s.heap b/\g.h0.get? b=none/\¬ bad b)
  (hs:∀ k sl,hd[k]?=some sl->aV g (fun b=>bad b\/b∈F.flatten) s.heap (fun U U U U=>False) (oaF F k) hv[k]? sl) (rs:RpAll g (fun b=>bad b\/b∈F.flatten) s.heap vals args) (hb:exs (ak g.P d) fn.body (fr0 fn hd args) K)
  (hR:∀ s' (Φ':Ct) f fl,Ran g bad nw (oaF F) (fr0 fn hd args) (hv++vals) s Φ' s'->vH Φ' s s'.heap f fl->K fl Φ'.G->R (.ok (.ret (match f with | .ret v=>v | _=>.none))) s'):codeAny (model g.prog g.w) A (.call (.ref a) ⟨hv++vals,[]⟩) R s:=by
 obtain ⟨fd,body,nms,Fn,Fz⟩:=ok.it;have hva:=rs.length;refine zd (oa0:=oaF F) (nw:=nw) Fn gr ih hand CV CL B Ei Gh (by rw [zB5,<- hh,hva]; exact Cj) ?_ (fun k b m=>⟨(qG m).1,hF b (qG m).2⟩) (fun k hk=>?_) (fun k hk=>⟨?_,?_⟩) (fun L=>Fz A L bad) hb hR
 ·unfold fr0;rw [zB5,zB5,zA4,List.length_replicate,Cj]; exact add_sub_cancel' (zB1 Fn.npar Fn.nslots)
 ·refine (?_:aV g (fun b=>bad b\/b∈F.flatten) _ _ _ _ _);by_cases q:k < hd.length
  ·rw [yl (J9 q),getElem?_append_left (hh▸q)];exact hs k _ (J9 q)
  ·obtain ⟨j,rfl⟩:=Nat.exists_eq_add_of_le (not_lt.mp q);have hj:j < args.length:=by rw [<- Cj] at hk; exact Nat.lt_of_add_lt_add_left hk
   obtain ⟨v,Hy,rv⟩:=rs.get (J9 hj);rw [zT (J9 hj),getElem?_append_right (by rw [<- hh]; exact le_add_right _ _),<- hh,Nat.add_sub_cancel_left,Hy];refine ⟨?_,v,rfl,rv⟩;unfold oaF;by_cases z:hd.length+j=0
   ·rw [if_pos z]; exact h1 (length_eq_zero_iff.mp (Nat.eq_zero_of_add_eq_zero_right z))
   ·rw [if_neg z]
 ·exact AX (by rw [Cj]; exact hk)
 ·unfold oaF;by_cases z:k=0
  ·rw [if_pos z];subst z;have:hd.length+args.length=0:=by rw [Cj]; exact le_zero.mp (not_lt.mp hk)
   exact h1 (length_eq_zero_iff.mp (Nat.eq_zero_of_add_eq_zero_right this))
  ·rw [if_neg z]
theorem Ran.rp (r:Ran g bad nw oa0 G0 vals s Φ' s') (x:Φ'.rp s'.heap v y):Rp g (kA bad (Φ'.oa 0)) s'.heap v y:=by
 have hg:=r.hg;subst hg;exact x.map fun b o e n=>⟨fun q=>q.elim (fun q=>n (.inl (r.mo▸q))) fun q=>n (.inr (.inr ⟨0,q⟩)),e⟩
theorem FldsAt.vals {h:Heap}:∀ {l:List V} {ws:List Value} {F:List (List Addr)},FldsAt g bad h ws (l.map .val) F->RpAll g bad h ws l
 | [],_,_,r=>by cases r; exact .nil
 | x :: l,_,_,r=>by
  cases r with
  | cons a b=>cases a with
   | val a=>exact .cons a (FldsAt.vals b)
def mS {bad:Addr->Prop} {K:Option V->Gs->Prop} {Q:Value->Shared->Prop} {E:Value->Shared->Prop} {fn:Fn} (hC:g.fn f=g.C c) (it:InitAt g d c fn) (gr:Ground g) (ih:CallOk g (ak g.P d) d) (cc:CallC g (d+1) bad A s) (rs:RpAll g bad s.heap vals args) (Cj:args.length+1=fn.npar) (hb:exs (ak g.P d) fn.body (fr0 fn [.ownI ⟨c,[]⟩] args) K)
  (hk:∀ fl G,K fl G->fl=none/\∃ o,getSlot G 0=.ownI o/\o.c=c)
  (hQ:∀ s' (Φ':Ct) o F D X od ws,K none Φ'.G->getSlot Φ'.G 0=.ownI o->o.c=c->Φ'.fx.g=g->Φ'.fx.Mo=bad->Base g s'->ah s.heap s'.heap->s.heap.get? D=none->s.heap.get? X=none->jC s.heap (.ref X)->D≠X->s'.heap.get? X=some (instObj (g.C c) D)->s'.heap.get? D=some od->b6 g c od ws->FldsAt g Φ'.bad s'.heap ws o.fs F->(D :: F.flatten).Nodup->Φ'.oa 0=[D] :: F->(∀ a∈F.flatten,s.heap.get? a=none/\a≠X/\aI s'.heap a)->Q (.ref X) s') :
  wpAny (model g.prog g.w) A (call (.ref (g.fn f)) vals) Q E s:=by
 obtain ⟨c3,fI,h1,h2,ok⟩:=it;rw [hC];have X:=gr.frag.keeps cc.base.stays;have kp:ah s.heap ((s.heap.push emptyDict).push (instObj (g.C c) s.heap.objs.size)):=(ae _ _).trans (ae _ _);have hD:((s.heap.push emptyDict).push (instObj (g.C c) s.heap.objs.size)).get? s.heap.objs.size=some emptyDict:=J7 _ (J0 _ rfl);have hX:((s.heap.push emptyDict).push (instObj (g.C c) s.heap.objs.size)).get? (s.heap.objs.size+1)=some (instObj (g.C c) s.heap.objs.size):=by rw [<- size_push s.heap emptyDict]; exact J0 _ rfl
 have nb:∀ b,bad b->b < s.heap.objs.size:=fun b q=>(cc.live b q).elim fun o e=>lt_size e;have nd:¬ bad s.heap.objs.size:=fun q=>lt_irrefl _ (nb _ q);have nx:¬ bad (s.heap.objs.size+1):=fun q=>not_lt.mpr (le_succ _) (nb _ q);have x0:s.heap.get? (s.heap.objs.size+1)=none:=by
  cases e:s.heap.get? (s.heap.objs.size+1) with
  | none=>rfl
  | some o=>exact absurd (lt_size e) (not_lt.mpr (le_succ _))
 refine wpAny_call (make_core (makes_of X (gr.cls c c3).makes) (looks_findIn X h1) (fun self=>bind_fn X self h2) (.inl rfl) ?_);refine lM (F:=[[s.heap.objs.size]]) (hd:=[.ownI ⟨c,[]⟩]) (hv:=[.ref (s.heap.objs.size+1)]) (nw:=false) ok gr ih cc.hand (zf cc.room) (ze cc.units) ⟨cc.base.stays.trans kp,cc.base.os,cc.base.gens⟩ (fun b q=>kp.live (cc.live b q)) cc.zero rfl (by rw [add_comm]; exact Cj) nofun (fun b m=>?_) (fun k sl e=>?_) (rs.map fun b o e n=>⟨fun q=>q.elim n fun q=>?_,kp b o e⟩) hb fun s' Φ' f' fl R CQ hkk=>?_
 ·obtain rfl:=zA6 m;exact ⟨⟨_,hD⟩,aH (fun l=>cc.base.stays.live l) (ag s.heap),nd⟩
 ·cases k with
  | zero=>
   obtain rfl:=Option.some.inj e;exact ⟨_,[],.ref (s.heap.objs.size+1),rfl,rfl,_,_,[],rfl,(fun q=>q.elim nx fun q=>succ_ne_self _ (zA6 q)),hX,hD,⟨⟨rfl,rfl,rfl⟩,#[],0,rfl,rfl,fun j e h=>by simp at h⟩,.nil,List.pairwise_singleton _ _⟩
  | succ k=>exact nN e.symm
 ·exact ne_of_lt (lt_size e) (zA6 q)
 ·obtain ⟨rfl,o,sl,ec⟩:=hk _ _ hkk;subst CQ;refine ⟨rfl,?_⟩;obtain ⟨v,pr,so⟩:=R.inv.slot 0;rw [sl] at so;obtain ⟨a',F,u,ha,rfl,b,od,ws,hu,hnb,hbo,ho,hF,hl,F6⟩:=so;obtain ⟨CS,e0⟩:=R.inst a' F ha (by rw [sl]; trivial);obtain rfl:s.heap.objs.size=a':=(zA5 (zA5 e0).1).1;have hg:=R.hg;subst hg;have FK:ah s.heap s'.heap:=fun b o e=>R.keep b o (kp b o e) fun q=>ne_of_lt (lt_size e) (zA6 q);refine hQ s' Φ' o F s.heap.objs.size (s.heap.objs.size+1) od ws hkk sl ec rfl R.mo R.inv.base FK (ag _) x0 (d7 (le_succ _)) (succ_ne_self _).symm (R.keep _ _ hX fun q=>succ_ne_self _ (zA6 q)) ho (ec▸hF) hl F6 ha fun b m=>?_;have mb:b∈(Φ'.oa 0).flatten:=by rw [ha]; exact .tail _ m
  have nD:b≠s.heap.objs.size:=fun q=>(nodup_cons.mp F6).1 (q▸m);have n0:((s.heap.push emptyDict).push (instObj (Φ'.fx.g.C c) s.heap.objs.size)).get? b=none:=(R.news b mb).elim (fun q=>absurd (zA6 q) nD) id;exact ⟨aH kp.live n0,fun q=>af n0 (q▸hX),(R.inv.new b (.inr ⟨0,mb⟩)).1⟩
def wR {c:Nat} {l:List V} (h:l.length≠0):ikO (l.map fun x=>(PyData.int c,x))=some c:=by
 cases l with
 | nil=>exact absurd rfl h
 | cons=>rfl
def mG {d:Nat} (gr:Ground g) (CW:∀ f fn,g.P.fns[f]?=some fn->fu g d f fn) (ih:CallOk g (ak g.P d) d):CallOk g (ak g.P (d+1)) (d+1) where
 p:=fun f args K A s bad vals E hc cc rs=>by
  refine ab (hc:yG g.P (ak g.P d) f args K) fun fn hf hb=>?_;have ko:=CW f fn hf;unfold fu at ko;cases hkd:fn.kind with
  | fn=>
   rw [hkd] at hb ko;refine wpAny_call (lM (F:=[]) (hd:=[]) (hv:=[]) (nw:=g.newf f) ko gr ih cc.hand (pn cc.room) (pj cc.units) cc.base cc.live cc.zero rfl (by rw [List.length_nil,zero_add]; exact hb.1) (fun U=>rfl) (fun b m=>nM m) (fun k sl e=>nN e.symm) (rs.map fun b o e n=>⟨fun q=>q.elim n fun q=>nM q,e⟩) hb.2 fun s' Φ' f' fl R CQ hk=>?_);have kk:ah s.heap s'.heap:=fun b o e=>R.keep b o e fun q=>nM q;cases fl with
   | none=>subst CQ; exact ⟨R.hg▸R.inv.base,kk,_,hk,.none,fun U a b q=>nomatch q⟩
   | some y=>obtain ⟨v,rfl,r,nv⟩:=CQ; exact ⟨R.hg▸R.inv.base,kk,_,hk,(R.rp r).map fun b o e n=>⟨fun q=>n (.inl q),e⟩,fun q=>nv (R.hnw▸q)⟩
  | cls c n=>
   rw [hkd] at hb ko;obtain ⟨hC,n0,it⟩:=ko;refine mS (bad:=bad) hC it gr ih cc rs hb.1 hb.2 (fun fl G hk=>⟨hk.1,ab hk.2 fun o eo h=>⟨o,cZ eo,h.1⟩⟩) fun s' Φ' o F D X od ws hk sl ec hg HH B' kk hD hX nv nDX gX gD fo fl nd eoa nw=>?_;refine ab hk.2 fun o' eo h=>?_;obtain rfl:o'=o:=by have:=cZ eo; rw [sl] at this; injection this with z; exact z.symm
   obtain ⟨_,l,el,ll,kl⟩:=h;rw [el] at fl;subst hg;have FF:∀ b,s.heap.get? b=none->¬ bad b:=fun b e q=>(cc.live b q).elim fun o z=>af e z;exact ⟨B',kk,_,kl,.inst (FF X hX) (FF D hD) gX gD fo (wR (by rw [ll]; exact n0)) (by rw [map_map]; exact map_id l) (fl.vals.map fun b o e n=>⟨fun q=>n (.inl (HH▸q)),e⟩),fun U=>nv⟩
  | _=>rw [hkd] at hb; exact hb.elim
 j:=fun f args K A s bad vals u E hc cc rs=>by
  refine ab (hc:yJ g.P (ak g.P d) f args K) fun fn hf hb=>?_;have ko:=CW f fn hf;unfold fu at ko;cases hkd:fn.kind with
  | jun=>
   rw [hkd] at hb ko;refine wpAny_call (lM (F:=[]) (hd:=[.junk]) (hv:=[u]) (nw:=g.newf f) ko gr ih cc.hand (pn cc.room) (pj cc.units) cc.base cc.live cc.zero rfl (by rw [add_comm]; exact hb.1) (fun U=>rfl) (fun b m=>nM m) (fun k sl e=>?_) (rs.map fun b o e n=>⟨fun q=>q.elim n fun q=>nM q,e⟩) hb.2 fun s' Φ' f' fl R CQ hk=>?_)
   ·cases k with
    | zero=>obtain rfl:=Option.some.inj e; exact ⟨rfl,u,rfl⟩
    | succ k=>exact nN e.symm
   ·have kk:ah s.heap s'.heap:=fun b o e=>R.keep b o e fun q=>nM q;cases fl with
    | none=>subst CQ; exact ⟨R.hg▸R.inv.base,kk,_,hk,.none,fun U a b q=>nomatch q⟩
    | some y=>obtain ⟨v,rfl,r,nv⟩:=CQ; exact ⟨R.hg▸R.inv.base,kk,_,hk,(R.rp r).map fun b o e n=>⟨fun q=>n (.inl q),e⟩,fun q=>nv (R.hnw▸q)⟩
  | _=>rw [hkd] at hb; exact hb.elim
 m:=fun f args K A s bad vals E hc cc rs=>by
  refine ab (hc:yI g.P (ak g.P d) f args K) fun fn hf hb=>?_;have ko:=CW f fn hf;unfold fu at ko;cases hkd:fn.kind with
  | ocls c=>
   rw [hkd] at hb ko;obtain ⟨hC,it⟩:=ko;refine mS (bad:=bad) hC it gr ih cc rs hb.1 hb.2 (fun fl G hk=>⟨hk.1,ab hk.2 fun o eo h=>⟨o,cZ eo,h.1⟩⟩) fun s' Φ' o F D X od ws hk sl ec hg HH B' kk hD hX nv nDX gX gD fo fl nd eoa nw=>?_;refine ab hk.2 fun o' eo h=>?_;obtain rfl:o'=o:=by have:=cZ eo; rw [sl] at this; injection this with z; exact z.symm
   subst hg;subst ec;have FF:∀ b,s.heap.get? b=none->¬ bad b:=fun b e q=>(cc.live b q).elim fun o z=>af e z;have nd:=nodup_cons.mp nd;refine ⟨B',kk,o',F,h.2,⟨X,D,od,ws,rfl,fun q=>q.elim (FF X hX) fun q=>(nw X q).2.1 rfl,fun q=>q.elim (FF D hD) nd.1,gX,gD,fo,fl.map (fun b o e n=>⟨fun q=>q.elim (fun q=>n (.inl (HH▸q))) fun q=>n (.inr (.inr ⟨0,by rw [eoa]; exact .tail _ q⟩)),e⟩) fun U U U e=>e,nd.2⟩,fun b m=>⟨(nw b m).1,(nw b m).2.2⟩⟩
  | _=>rw [hkd] at hb; exact hb.elim
 o:=fun f o args K A s bad F vals u E hc cc nF ob rs=>by
  refine ab (hc:yH g.P (ak g.P d) f o args K) fun fn hf hb=>?_;have ko:=CW f fn hf;unfold fu at ko;cases hkd:fn.kind with
  | met=>
   rw [hkd] at hb ko;refine wpAny_call (lM (bad:=bad) (F:=F) (hd:=[.obj o]) (hv:=[u]) (nw:=g.newf f) ko gr ih cc.hand (pn cc.room) (pj cc.units) cc.base (fun b q=>cc.live b (.inl q)) (fun b q=>cc.zero b (.inl q)) rfl (by rw [add_comm]; exact hb.1) nofun (fun b m=>⟨cc.live b (.inr m),cc.zero b (.inr m),nF b m⟩) (fun k sl e=>?_) rs hb.2 fun s' Φ' f' fl R CQ hk=>?_)
   ·cases k with
    | zero=>obtain rfl:=Option.some.inj e; exact ⟨u,rfl,ob⟩
    | succ k=>exact nN e.symm
   ·refine ab hk fun o' eo hk=>?_;have sl:=fD eo;obtain ⟨gw,pr⟩:=R.objs o' u sl (by rw [yl (sl:=.obj o) rfl]; nofun) rfl;obtain ⟨u',Ff,FE⟩:=bY R.inv sl;obtain rfl:=Option.some.inj (hY Ff pr);have hg:=R.hg;have mk:a7 Φ'.bad (kA bad (Φ'.oa 0)) s'.heap s'.heap:=fun b o e n=>⟨fun q=>q.elim (fun q=>n (.inl (R.mo▸q))) fun q=>n (.inr (.inr ⟨0,q⟩)),e⟩;have fin:∀ v,Rp g (kA bad (Φ'.oa 0)) s'.heap v (fl.getD .none)->CallO g bad F u' s K v s':=fun v r=>⟨hg▸R.inv.base,fun b o e n=>R.keep b o e n,fl.getD .none,o',Φ'.oa 0,hk,r,hg▸FE.map mk fun U U U e=>e,gw,fun b m=>⟨(R.inv.new b (.inr ⟨0,m⟩)).1,R.news b m⟩⟩;cases fl with
    | none=>subst CQ; exact fin _ .none
    | some y=>obtain ⟨v,rfl,r,nv⟩:=CQ; exact fin v (R.rp r)
  | _=>rw [hkd] at hb; exact hb.elim
end
set_option tactic.hygienic true in
def lg {K:Frag} {h:Heap} {a:Addr} {m:Str->Option Value} {x:Str} {r:Option Value} (X:K.In h) (n:h.Ns a m) (e:nsIn K a x=some r):m x=r:=by
 unfold nsIn at e;split at e
 ·rename_i c d es p sl ho;obtain ⟨o,Ds,ep,CA,hd,hs,hf⟩:=n;rw [X _ _ ho] at CA;(injection CA with CA; subst CA);(injection hd with hd; subst hd);refine (hf x)▸?_;unfold nsFind findBy;refine (Array.find?_toList)▸?_;split at e
  ·rename_i en he; (injection e with e; subst e); rw [he]; rfl
  ·rename_i he;split at e
   ·(injection e; done)
   ·(injection e with e; subst e); rw [he]; rfl
 ·(injection e; done)
def nY {ps:List Str}:∀ {vals:List Value},ps.length=vals.length->∀ n∈ps,((ps.zip vals).lookup n).isSome=true:=by
 induction ps with
 | nil=>intro vals _ n hn; cases hn
 | cons p ps ih=>
  intro vals h n hn;cases vals with
  | nil=>(injection h; done)
  | cons v vals=>
   rw [List.zip_cons_cons,lookup_cons];cases hb:n==p with
   | true=>rfl
   | false=>
    rcases mem_cons.mp hn with rfl | hn
    ·simp at hb
    ·exact ih (Nat.succ.inj h) n hn
theorem nK:∀ {l:List α},(∀ x∈l,f x=g x)->l.filterMap f=l.filterMap g
 | [],_=>rfl
 | a :: l,h=>by rw [filterMap_cons,filterMap_cons,h a (.head _),nK fun x hx=>h x (.tail _ hx)]
def nZ {ps:List Str}:∀ {vals:List Value},ps.Nodup->ps.length=vals.length->ps.filterMap (fun n=>((ps.zip vals).lookup n).map (n,·))=ps.zip vals:=by
 induction ps with
 | nil=>intro vals _ _; rfl
 | cons p ps ih=>
  intro vals hn h;cases vals with
  | nil=>(injection h; done)
  | cons v vals=>
   obtain ⟨h1,h2⟩:=nodup_cons.mp hn;refine List.zip_cons_cons.symm▸filterMap_cons.symm▸?_;simp only [lookup_cons,beq_self_eq_true,map_some]
   congr 1
   refine Eq.trans (nK fun n Co=>?_) (ih h2 (Nat.succ.inj h));have:(n==p)=false:=beq_false_of_ne fun e=>h1 (e▸Co);rw [this]
def nU {α β γ:Type} {l:List α} {b:β} {f:α->β->Sem (ForInStep β)} {g:β->Sem γ} {r:Sem γ} (h:l=[]) (k:g b=r):(forIn l b f >>= g)=r:=by subst h; exact k
def mH {fd:FuncData} {ps:List Str} {vals:List Value} (h1:fd.params.posonlyargs=[]) (h2:fd.params.args.map (·.arg)=ps) (h3:fd.params.kwonlyargs=[]) (h4:fd.params.vararg=none) (h5:fd.params.kwarg=none)
  (h6:fd.defaults=.none) (hn:ps.Nodup) (hl:vals.length=ps.length):bindArgs fd ⟨vals,[]⟩=pure (ps.zip vals):=by
 have hm:(filter (fun n=>(lookup n (ps.zip vals)).isNone) ps)=[]:=by
  rw [List.filter_eq_nil_iff];intro n hn;rw [isNone_iff_eq_none];exact Option.isSome_iff_ne_none.mp (nY hl.symm n hn)
 obtain ⟨nm,qn,⟨po,as,va,ko,kd,kw,df⟩,body,sc,gl,cl,dfs,kdf,doc,pm,an,cd,ct,bl⟩:=fd;obtain rfl:po=[]:=h1;obtain rfl:ko=[]:=h3;obtain rfl:va=none:=h4;obtain rfl:kw=none:=h5;obtain rfl:dfs=.none:=h6;have h2:as.map Arg.arg=ps:=h2;have e1:(decide (vals.length > ([]++as.map Arg.arg).length)&&true)=false:=by rw [nil_append,h2,hl,Bool.and_true]; exact decide_eq_false (lt_irrefl _)
 have e2:(!(filter (fun n=>(lookup n (([]++as.map Arg.arg).zip vals)).isNone) (([]++as.map Arg.arg).take (([]++as.map Arg.arg).length - (([]:List Value).drop (([]:List Value).length - ([]++as.map Arg.arg).length)).length))).isEmpty)=false:=by
  rw [nil_append,h2,drop_nil,List.length_nil,sub_zero,take_length,hm]; rfl
 have e4:(([]++as.map Arg.arg).drop (([]++as.map Arg.arg).length - (([]:List Value).drop (([]:List Value).length - ([]++as.map Arg.arg).length)).length)).zip (([]:List Value).drop (([]:List Value).length - ([]++as.map Arg.arg).length))=[]:=by rw [drop_nil,List.zip_nil_right]
 have e3:(([]++as.map Arg.arg)++[]).filterMap (fun n=>(lookup n (([]++as.map Arg.arg).zip vals)).map (n,·))=ps.zip vals:=by
  rw [append_nil,nil_append,h2,nZ hn hl.symm]
 exact (if_neg (eq_false_iff.mp e1)).trans ((if_neg (eq_false_iff.mp e2)).trans (nU e4 (nU rfl (congrArg pure e3))))
def xD {K:Frag} {h:Heap} {cd:Value} {q:Str} (X:K.In h) (e:lA K cd q=true):h.CodeRec cd q:=by
 unfold lA at e;split at e
 ·split at e
  ·rename_i ho;split at e
   ·rename_i hv;have:=eq_of_beq e;subst this;exact ⟨_,_,_,_,rfl,X _ _ ho,rfl,hv⟩
   ·(injection e; done)
  ·(injection e; done)
 ·(injection e; done)
def y9 (H:GOk g Z) (h1:vW Z fn.body ⟨fd.scope.names,nms.zipIdx,nms.length,fn.nslots,nw⟩ body=true) :
  vE g d a fn fd body nms nw:=fun A L bad=>xV (n:=d) H fn.body (w3 g A fd nms fn.nslots a L bad d nw) body rfl rfl h1
set_option tactic.hygienic true in
def w4 {g:Gl} {K:Frag} {Z:Zx} {a:Addr} {fn:Fn} {nms:List Str} {nw:Bool} (H:GOk g Z) (X:K.In g.h0) (e0:pJ K a=true) (e:iN Z fn nms nw (eJ K a)=true):∀ d,FnOk g d fn a nw:=by
 unfold pJ at e0;unfold eJ at e;split at e0
 ·rename_i c d fd sl ho;replace e:=ho▸e;dsimp only at e;split at e
  ·rename_i body hb;obtain ⟨h1,e0⟩:=a2 e0;obtain ⟨h2,e0⟩:=a2 e0;obtain ⟨h3,e0⟩:=a2 e0;obtain ⟨h4,GV⟩:=a2 e0;obtain ⟨h5,e⟩:=a2 e;obtain ⟨h6,e⟩:=a2 e;obtain ⟨h7,e⟩:=a2 e;obtain ⟨h8,e⟩:=a2 e;obtain ⟨h9,e⟩:=a2 e;obtain ⟨Db,e⟩:=a2 e;obtain ⟨GW,e⟩:=a2 e;obtain ⟨HZ,e⟩:=a2 e;obtain ⟨Fp,e⟩:=a2 e;obtain ⟨GU,e⟩:=a2 e;obtain ⟨h16,e⟩:=a2 e;obtain ⟨h17,h18⟩:=a2 e;have Fp:=ng Fp;have GU:=of_decide_eq_true GU;refine fun d=>⟨fd,body,nms,⟨⟨_,X _ _ ho,rfl⟩,hb,xD X h1,eq_of_beq h2,eq_of_beq h3,isEmpty_iff.mp h4,not_eq_true' _▸h5,not_eq_true' _▸h6,eq_of_beq h7,fun vals hv=>?_,Fp,GU,of_decide_eq_true h16,fun x m=>((or_eq_true _ _).mp (Jb.mp h17 x m)).imp eq_of_beq eq_of_beq⟩,y9 H h18⟩;refine mH (isEmpty_iff.mp h8) (eq_of_beq h9) (isEmpty_iff.mp Db) (isNone_iff_eq_none.mp GW) (isNone_iff_eq_none.mp HZ) ?_ (Fp.sublist (List.take_sublist _ _)) (by rw [length_take,hv]; exact (min_eq_left GU).symm);cases hd:fd.defaults <;> rw [hd] at GV <;> first | rfl | (injection GV; done)
  ·(injection e; done)
 ·(injection e0; done)
def uJ (X:g.K.In g.h0) (e:nS g.K u v=true):∀ (bad:Addr->Prop) h,ah g.h0 h->(∀ a,bad a->g.h0.get? a=none)->Rp g bad h u v:=fun bad h st hb=>by
 cases v with
 | int j=>obtain ⟨t,rfl⟩:=Value.isInt_shape e; exact .int _ _
 | str l=>obtain ⟨t,rfl⟩:=Value.isStrOf_shape e; exact .str _ _
 | _=>(injection e; done)
def Bs:bC.all (fun p=>bootBuiltins p.1==some p.2&&p.1 != ("__name__" : Str))=true:=by decide +kernel
def Ad (e:pP g.K (g.C c) (g.flds c)=true):ClsOk g c:=by
 refine (a2 e).elim fun h1 e=>?_;obtain ⟨h2,e⟩:=a2 e;obtain ⟨h3,e⟩:=a2 e;obtain ⟨h4,e⟩:=a2 e;obtain ⟨h5,e⟩:=a2 e;obtain ⟨h6,e⟩:=a2 e;obtain ⟨h7,e⟩:=a2 e;exact ⟨eq_of_beq h1,eq_of_beq h2,eq_of_beq h3,h4,h5,fun x m=>eq_of_beq (Jb.mp h6 x m),h7,of_decide_eq_true (a2 e).1,of_decide_eq_true (a2 e).2⟩
def zR (gr:Ground g) (e1:g.fns=Z.fns) (e2:g.cons=Z.cons) (e3:∀ c,g.flds c=Z.flds.getD c []) (e4:Z.flds.length=3) (e8:g.newf=Z.newf) (h1:Z.fns.all (fun p=>keepIn g.K (.ref (g.fn p.2)))=true) (h2:Z.meths.all (fun m=>decide (m.1 < 3)&&vd g.K (g.C m.1) (g.flds m.1) g.fn m.2)=true):GOk g Z where
 fns:=e1
 cons:=e2
 newf:=e8
 flds:=fun c l e=>⟨by rw [e3,getD_eq_getElem?_getD,e]; rfl,gr.cls c (by rw [<- e4]; exact (List.getElem?_eq_some_iff.mp e).1)⟩
 keep:=fun x f e=>Jb.mp h1 _ (PySem.mem_of_lookup e)
 meths:=fun c nm f m=>by
  obtain ⟨q0,q⟩:=a2 (Jb.mp h2 _ m);obtain ⟨q1,q⟩:=a2 q;obtain ⟨q2,q⟩:=a2 q;exact ⟨gr.cls c (of_decide_eq_true q0),⟨fun m=>by have q1:(!(g.flds c).elem nm)=true:=q1; rw [elem_iff.mpr m] at q1; exact (nB q1),eq_of_beq q2,eq_of_beq (a2 q).1,(a2 q).2⟩⟩
set_option tactic.hygienic true in
def su (X:g.K.In g.h0) (hm:g.h0.Ns mainGlobals g.mg) (hb:g.h0.Ns builtinsNs g.mb) (hl:g.h0.NoLimit) (HQ:∀ x:Str,x≠"__name__"->g.mb x=bootBuiltins x) (h0:(g.K.lookup sysModules).isSome=true) (hc:∀ c,c < 3->pP g.K (g.C c) (g.flds c)=true)
  (h1:g.fns.all (fun p=>nsIn g.K mainGlobals p.1==some (some (.ref (g.fn p.2))))=true) (h3:g.cons.all (pM g.K)=true) (h4:bC.all (fun p=>nsIn g.K mainGlobals p.1==some none)=true):Ground g where
 main:=hm
 blt:=hb
 nolim:=hl
 sysm:=(isSome_iff_exists.mp h0).elim fun o e=>⟨o,X _ _ e⟩
 frag:=X
 cls:=fun c h=>Ad (hc c h)
 fns:=fun x f e=>lg X hm (eq_of_beq (Jb.mp h1 _ (PySem.mem_of_lookup e)))
 cons:=fun x v e=>by
  have q:=Jb.mp h3 _ (PySem.mem_of_lookup e);unfold pM at q;split at q
  ·rename_i u hu; exact ⟨u,lg X hm ((u8 ..).symm.trans hu),uJ X q⟩
  ·(injection q; done)
 blts:=fun x v e=>by
  have q:=a2 (Jb.mp Bs _ (PySem.mem_of_lookup e));exact ⟨lg X hm (eq_of_beq (Jb.mp h4 _ (PySem.mem_of_lookup e))),(HQ x (bne_iff_ne.mp q.2)).trans (eq_of_beq q.1)⟩
theorem iL (gr:Ground g) (CW:∀ f fn,g.P.fns[f]?=some fn->∀ d,fu g d f fn):∀ d,CallOk g (ak g.P d) d
 | 0=>⟨fun U U U U U U U U h=>h.elim,fun U U U U U U U U U h=>h.elim,fun U U U U U U U U h=>h.elim,fun U U U U U U U U U U U h=>h.elim⟩
 | d+1=>mG gr (fun f fn h=>CW f fn h d) (iL gr CW d)
def oH (xs:List WData):WShape.hasItems [] xs .int=true->∃ is:List Int,xs=is.map .int:=by
 induction xs with
 | nil=>exact fun U=>⟨[],rfl⟩
 | cons x xs ih=>
  intro h;have h:=a2 (b:=WShape.hasItems [] xs .int) h;have h1:=h.1;cases x with
  | int i=>exact (ih h.2).elim fun is e=>⟨i :: is,congrArg _ e⟩
  | _=>(injection h1; done)
noncomputable def Aa (v:Option WData):Bool:=match (match (match v with | some (.bool b)=>some (WData.bool (!b)) | _=>none) with | some (.bool false)=>some (WData.bool false) | some (.bool true)=>some (WData.bool true) | _=>none) with | some (.bool true)=>true | _=>false
noncomputable def Bn (b:Bool):Bool:=match some (WData.bool b) with | some (.bool true)=>true | _=>false
def rU:same (.bool true) (.bool true)=true:=by simp only [same,beq_self_eq_true]
def zH (h:(WTm.and (.not (.lt (.lit (.int (63:Nat))) (.len (.arg 0)))) (.lit (.bool true))).holds [] { args:=[.list xs] }=true):xs.length<=63:=by
 have h:Aa (some (.bool (decide (((63:Nat):Int) < (xs.length:Int)))))=true:=h;by_cases hq:((63:Nat):Int) < (xs.length:Int)
 ·rw [decide_eq_true hq] at h; (injection h; done)
 ·lia
def zi {l:OpenLaw} (hm:l.most=some 63) (hb:l.bound=none):l.pre=.and (.not (.lt (.lit (.int (63:Nat))) (.len (.arg 0)))) (.lit (.bool true)):=by
 unfold OpenLaw.pre; rw [hm,hb]
def rS {l:OpenLaw} (hm:l.most=some 63) (hb:l.bound=none) {args:List WData} (h:l.row.claim.pre args=true):∃ is:List Int,args=[.list (is.map .int)]/\is.length<=63:=by
 have h:=a2 (a:=WShape.hasAll [] args [.list .int]) (b:=l.pre.holds [] { args:=args }) h;rw [zi hm hb] at h;cases args with
 | nil=>(injection h.1; done)
 | cons x r=>
  have h1:=a2 (a:=WShape.has [] x (.list .int)) h.1;cases r with
  | cons y r=>(injection h1.2; done)
  | nil=>
   have h2:=h1.1;cases x with
   | list xs=>
    have h2:(WShape.hasItems [] xs .int||false)=true:=h2;rw [Bool.or_false] at h2;refine (oH xs h2).elim fun is e=>⟨is,congrArg (fun xs=>[WData.list xs]) e,?_⟩;have:=zH h.2;rw [e,zA4] at this;exact this
   | _=>(injection h2; done)
set_option tactic.hygienic true in
def rV (is:List Int):∀ vs:List Value,WellAll P g.h0 vs (is.map .int)->RpAll g (fun U=>False) g.h0 vs (is.map .int):=by
 induction is with
 | nil=>intro vs w; cases w; exact .nil
 | cons i is ih=>
  intro vs w;cases w with
  | cons w ws=>cases w with
   | int _ t=>exact .cons (.int i t) (ih _ ws)
set_option tactic.hygienic true in
def uc {l:OpenLaw} (hm:l.most=some 63) (hb:l.bound=none) {g:Gl} {f d:Nat} {cl:Str->Option Addr} {EU:ExcName->Option Value} {s₁:Shared} {args:List WData} {vals:List Value} {Pm:Params}
  (call:CallOk g (ak g.P d) d) (hg:g.prog=l.row.prog) (h0:g.h0=s₁.heap) (ho:g.os=s₁.os) (hgn:s₁.gens=#[]) (hd:d<=40)
  (EY:l.row.claim.pre args=true) (Hx:WellAll Pm s₁.heap vals args)
  (plain:∀ scr:List Int,scr.length<=63->(ak g.P d).p f [.list (scr.map .int)] fun y=>y=.bool true) :
  wpAny (model l.row.prog g.w) callerA (PySem.call (.ref (g.fn f)) vals) (fun v s'=>GoodWG l.row.claim cl EU args s₁ (.ok (.ret v)) s') (fun e s'=>GoodWG l.row.claim cl EU args s₁ (.error e) s') s₁:=by
 obtain ⟨is,rfl,Cj⟩:=rS hm hb EY;cases Hx with
 | cons w ws=>
 cases ws
 cases w with
 | list ha hws=>
 rename_i a vs;have rp:RpAll g (fun U=>False) s₁.heap [.ref a] [.list (is.map .int)]:=by
  rw [<- h0] at hws ha ⊢;exact .cons (.list id ha ⟨rfl,rfl⟩ rfl (by rw [List.toList_toArray]; exact rV _ _ hws)) .nil
 have B:Base g s₁:=⟨by rw [h0]; exact fun b o e=>e,ho.symm,hgn⟩;have w:=call.p f [.list (is.map .int)] _ callerA s₁ (fun U=>False) [.ref a] (fun e s'=>GoodWG l.row.claim cl EU [.list (is.map .int)] s₁ (.error e) s') (plain is Cj) ⟨rfl,(by refine (?_:1+claimMargin+2 * d < 990); exact J5 (add_le_add_left (mul_le_mul_left 2 hd) _) (by decide)),
  (by refine (?_:4+4 * d+100 < cLine); have:(1000:Nat)<=cLine:=(by decide +kernel); exact J6 (J5 (add_le_add_right (add_le_add_left (mul_le_mul_left 4 hd) 4) 100) (by decide)) this),B,fun a q=>q.elim,fun a q=>q.elim⟩ rp
 rw [hg] at w;refine wpAny_mono w (fun v s' p=>?_) fun U U z=>z;obtain ⟨B',_,y,rfl,r,_⟩:=p;refine r.bool_elim ?_;refine GoodW.toG ⟨.inl ⟨_,.bool true,[],rfl,fun cls=>rfl,ReadsW.bool true,(by
  refine (?_:(WShape.has [] (.bool true) .bool&&(WTm.eq .res (.lit (.bool true))).holds [] _)=true);refine zA3 ⟨rfl,?_⟩;exact congrArg Bn rU),fun U=>⟨nodup_nil,fun a ha=>(nM ha)⟩⟩,?_,B'.os.trans ho,B'.gens⟩
 have:=B'.stays;rw [h0] at this;exact fun b o e=>this b o e
end Mine
end
noncomputable section
namespace Mine.L10
open PySem PySem.Calls PyProof.Rows PySem.W
def sI:@iO lr 0 fns nms v4=true:=by kernel_rfl
def BZ:iO 0 fns nms v4=true:=q9▸sI
theorem vq {K:Frag}:∀ {i:Nat} {fns:List Fn} {n:List (List Str)} {A:List Addr} {b:List (Option fO)},iO i fns n b=true->A.map (eJ K)=b->∀ {f:Nat} {fn:Fn},fns[f]?=some fn->A.getD f 0∈A/\∃ m,iN Z fn m (newf (i+f)) (eJ K (A.getD f 0))=true
 | _,[],_,_,_,_,_,_,_,h=>nN h.symm
 | _,_ :: _,[],_,_,e,_,_,_,_=>nB e
 | _,_ :: _,_ :: _,_,[],e,_,_,_,_=>nB e
 | _,_ :: _,_ :: _,[],_ :: _,_,q,_,_,_=>nomatch q
 | i,fn :: r,n :: m,a :: A,b :: B,e,q,0,_,h=>by
  (injection h with h; subst h);obtain ⟨q1,q2⟩:=zA5 q;refine ⟨.head _,n,?_⟩;refine (?_:iN Z fn n _ (eJ K a)=true);rw [q1]; exact (a2 e).1
 | i,fn :: r,n :: m,a :: A,b :: B,e,q,f+1,_,h=>by
  obtain ⟨q1,q2⟩:=zA5 q;rw [show i+(f+1)=i+1+f from (succ_add i f).symm];exact (vq (a2 e).2 q2 (f:=f) h).imp (.tail _) id
noncomputable def Ax (f c:Nat):Bool:=fnA.getD f 0==vA.getD c 0&&(fnB.getD f 0==yh.getD c 0&&(decide (c < 3)&&newf f==false))
noncomputable def vQ (f:Nat) (fn:Fn):Bool:=match fn.kind with
 | .cls c n=>n != 0&&Ax f c
 | .ocls c=>Ax f c
 | _=>fnB.getD f 0==fnA.getD f 0
def wL:(List.range 37).all (fun f=>(fns[f]?).all (vQ f))=true:=rfl
def wN (h:fns[f]?=some fn):vQ f fn=true:=by
 have:=Jb.mp wL f (mem_range.mpr (List.getElem?_eq_some_iff.mp h).1);rw [h] at this;exact this
def xH (KX:g.K.In g.h0) (e:chk g.K=true) (HR:fnB.map (eJ g.K)=v4) (hf:g.fn=fun f=>fnA.getD f 0) (hC:g.C=fun c=>vA.getD c 0) (CQ:g.flds=fun c=>fldN.getD c []) (CW:g.fns=fnN) (hcn:g.cons=conN) (hP:g.P=prog) (hnw:g.newf=newf) (hm:g.h0.Ns mainGlobals g.mg) (hb:g.h0.Ns builtinsNs g.mb) (hl:g.h0.NoLimit) (HQ:∀ x:Str,x≠"__name__"->g.mb x=bootBuiltins x) (d:Nat):Ground g/\CallOk g (ak g.P d) d:=by
 obtain ⟨e1,e⟩:=a2 e;obtain ⟨c0,e⟩:=a2 e;obtain ⟨c1,e⟩:=a2 e;obtain ⟨c2,e⟩:=a2 e;obtain ⟨e3,e⟩:=a2 e;obtain ⟨e4,e⟩:=a2 e;obtain ⟨e5,e⟩:=a2 e;obtain ⟨e6,e⟩:=a2 e;obtain ⟨e7,e10⟩:=a2 e;simp only [u8] at e3 e5;have cls:∀ c,c < 3->l8 g.K c=true:=fun c h=>match c,h with
  | 0,_=>c0
  | 1,_=>c1
  | 2,_=>c2
  | _+3,h=>absurd h (not_lt.mpr (Nat.le_add_left _ _))
 have gr:Mine.Ground g:=su KX hm hb hl HQ e1 (fun c h=>by rw [hC,CQ]; exact (a2 (cls c h)).1) (by rw [CW,hf]; exact e3) (by rw [hcn]; exact e4) e5;have ok:GOk g Z:=zR gr CW hcn (fun c=>by rw [CQ]; rfl) rfl hnw (by rw [hf]; exact e6) (by rw [hC,CQ,hf]; exact e7);refine ⟨gr,iL gr (fun f fn h d=>?_) d⟩;rw [hP] at h;obtain ⟨mb,m,q⟩:=vq BZ HR h;have mb:=Jb.mp e10 _ mb;rw [zero_add] at q;have i:=wN h;have fo:=fun d=>w4 (g:=g) ok KX mb q d;have Hv:∀ c,Ax f c=true->g.fn f=g.C c/\InitAt g d c fn:=fun c i=>by
  obtain ⟨i1,i⟩:=a2 i;obtain ⟨i2,i⟩:=a2 i;obtain ⟨i3,i4⟩:=a2 i;have i3:=of_decide_eq_true i3;obtain ⟨_,k⟩:=a2 (cls c i3);have fo:=fo d;rw [eq_of_beq i4,eq_of_beq i2] at fo;exact ⟨by rw [hf,hC]; exact eq_of_beq i1,⟨i3,yh.getD c 0,by rw [hC]; exact eq_of_beq (a2 k).1,eq_of_beq (a2 k).2,fo⟩⟩
 unfold vQ at i;unfold fu;cases hk:fn.kind with
 | cls c n=>rw [hk] at i; exact ⟨(Hv c (a2 i).2).1,bne_iff_ne.mp (a2 i).1,(Hv c (a2 i).2).2⟩
 | ocls c=>rw [hk] at i; exact Hv c i
 | _=>rw [hk] at i; have fo:=fo d; rw [eq_of_beq i] at fo; rw [hf,hnw]; exact fo
end Mine.L10
end
noncomputable section
namespace Mine
open PySem
noncomputable def evs (cf:CallF) (es:List E):List D:=E.rec_1 (motive_1:=fun U=>D) (motive_2:=fun U=>List D) (fun o U ih=>bF cf o ih) [] (fun U U i is=>i :: is) es
noncomputable def exi (cf:CallF) (l:List S):B:=S.rec_1 (motive_1:=fun U=>B) (motive_2:=fun U=>B) (fun o es U U x y=>c8 cf o (es.map (ev cf)) x y) (fun G K=>K none G) (fun U U i is G K=>i G fun fl G'=>match fl with | none=>is G' K | some x=>K (some x) G') l
section
variable {cf:CallF} {G:Gs} {K:Option V->Gs->Prop} {e a b c:E} {es:List E} {r:List S} {v x y z:V} {o:Op} {k:Nat} {t u:Bool}
def Val (cf:CallF) (G:Gs) (e:E) (v:V):Prop:=∀ K,K v->ev cf e G K
def eK (cf:CallF) (G:Gs) (es:List E) (vs:List V):Prop:=∀ K,K vs->be (evs cf es) G K
def bA (cf:CallF) (b:Bool) (G:Gs) (es:List E) (t:Bool):Prop:=∀ K,K t->cm b (evs cf es) G K
def ad {α:Type} {o:Option α} {z:α} {K:α->Prop} (e:o=some z) (h:K z):okK o K:=by rw [e]; exact h
def ix {α:Type} {v:α} (K:α->Prop) (h:K v):K v:=h
theorem eK.nil:eK cf G [] []:=ix
noncomputable def pO (o:Op):Bool:=match o with
 | .bin _ | .tuple | .list | .sub | .slice _ _ | .attr _ _ | .isinst _ | .len | .listOf | .lenSet | .vals | .range | .zip=>true
 | _=>false
def Bl (h:pO o=true) {K:V->Prop} (q:be ds G fun xs=>okK (opN o xs) K):bF cf o ds G K:=by
 cases o <;> first | exact q | exact nB h
theorem eK.cons (h:Val cf G e v) (hs:eK cf G es vs):eK cf G (e :: es) (v :: vs):=fun K k=>h _ (hs _ k)
theorem eK.one (h:Val cf G e v):eK cf G [e] [v]:=.cons h .nil
theorem eK.two (h:Val cf G a x) (h':Val cf G b y):eK cf G [a,b] [x,y]:=.cons h (.cons h' .nil)
def aa {vs:List V} (hv:eK cf G es vs) (e:opN o vs=some z) (ho:pO o=true:=by exact rfl):Val cf G (.nd o es) z:=fun K k=>Bl ho (hv _ (ad e k))
def ao {o:CmpOp} (h:Val cf G a x) (h':Val cf G b y) (e:bo o x y=some t):Val cf G (.nd (.cmp o) [a,b]) (.bool t):=fun K k=>h _ (h' _ (ad e k))
def aD (hv:eK cf G es vs) (h:∀ K,K v->cf.p f vs K):Val cf G (.nd (.call f) es) v:=fun K k=>hv _ (h _ k)
def ch {c:Nat} (hv:Val cf G e x) (hi:lY c x=true) (hs:eK cf G es vs) (h:∀ K,K v->cf.p f (x :: vs) K):Val cf G (.nd (.meth c f) (e :: es)) v:=fun K k=>hv _ ⟨hi,hs _ (h _ k)⟩
def jJ {c:Nat} (ho:dI G k c=some ob) (hs:eK cf G es vs) (h:∀ K,K v->cf.j f vs K):Val cf G (.nd (.methJ k c f) es) v:=fun K n=>ad ho (hs _ (h _ n))
def tg (hv:Val cf G e x) (hi:pG x=true) (hs:eK cf G es vs) (h:opN .getD (x :: vs)=some v):Val cf G (.nd .getD (e :: es)) v:=fun K k=>hv _ ⟨hi,hs _ (ad h k)⟩
def aF (h:Val cf (eF G) a v) (hf:fJ v=true):Val cf G (.nd .peek [a]) v:=fun K k=>h _ ⟨hf,k⟩
def d0 (h:Val cf (eF G) a v) (hf:eU v=true):Val cf G (.nd .peekN [a]) v:=fun K k=>h _ ⟨hf,k⟩
def ay (h:Val cf G a (.bool t)):Val cf G (.nd .not [a]) (.bool (!t)):=fun K k=>h _ k
theorem bA.nil {b:Bool}:bA cf b G [] b:=fun U h=>h
theorem bA.go {b:Bool} (h:Val cf G a (.bool b)) (hs:bA cf b G es t):bA cf b G (a :: es) t:=fun K k=>h _ (by refine (?_:if b=b then _ else _); rw [if_pos rfl]; exact hs _ k)
theorem bA.stop {b:Bool} (h:Val cf G a (.bool (!b))):bA cf b G (a :: es) (!b):=fun K k=>h _ (by refine (?_:if (!b)=b then _ else _); rw [if_neg (by cases b <;> decide)]; exact k)
theorem bA.and {t u:Bool} (h:Val cf G a (.bool t)) (hs:t=true->bA cf true G es u):bA cf true G (a :: es) (t&&u):=by
 cases t
 ·exact .stop (b:=true) h
 ·exact .go h (hs rfl)
theorem bA.or {t u:Bool} (h:Val cf G a (.bool t)) (hs:t=false->bA cf false G es u):bA cf false G (a :: es) (t||u):=by
 cases t
 ·exact .go h (hs rfl)
 ·exact .stop (b:=false) h
theorem bA.one (h:Val cf G a (.bool t)):bA cf true G [a] t:=by
 have:=bA.and (es:=[]) h fun U=>.nil;rwa [Bool.and_true] at this
theorem bA.one' (h:Val cf G a (.bool t)):bA cf false G [a] t:=by
 have:=bA.or (es:=[]) h fun U=>.nil;rwa [Bool.or_false] at this
def fP (h:bA cf true G es t):Val cf G (.nd .and es) (.bool t):=fun K k=>h _ k
def br (h:bA cf false G es t):Val cf G (.nd .or es) (.bool t):=fun K k=>h _ k
def uK {α:Type} {e:E} {ts:List E} {b:Gs->V->Option Gs} {g:α->V} {H:α->Gs} {p:α->Bool} {f:α->V} {ws:List α}:∀ (ys:List V),(∀ w∈ws,b G (g w)=some (H w))->(∀ w∈ws,bA cf true (H w) ts (p w))->(∀ w∈ws,p w=true->Val cf (H w) e (f w))->∀ K:List V->Prop,K (ys++(ws.filter p).map f)->iH (ev cf e) (evs cf ts) b G (ws.map g) fun zs=>K (ys++zs):=by
 induction ws with
 | nil=>exact fun ys U U U K h=>h
 | cons x xs ih=>
  intro ys hb ht he K h;refine ad (hb x (.head _)) (ht x (.head _) _ ?_);have ih:=fun ys=>ih ys (fun x m=>hb x (.tail _ m)) (fun x m=>ht x (.tail _ m)) fun x m=>he x (.tail _ m);cases hp:p x with
  | false=>
   rw [List.filter_cons_of_neg (by rw [hp]; exact Bool.false_ne_true)] at h;exact ih ys K h
  | true=>
   rw [List.filter_cons_of_pos hp] at h;refine he x (.head _) hp _ ?_;have e1:(fun zs=>K (ys++(f x :: zs)))=fun zs=>K ((ys++[f x])++zs):=funext fun zs=>by rw [append_assoc]; rfl
   refine (?_:iH (ev cf e) (evs cf ts) b G (xs.map g) fun zs=>K (ys++(f x :: zs)));rw [e1];exact ih (ys++[f x]) K (by rw [append_assoc]; exact h)
def iU {α:Type} {s e:E} {ts:List E} {g:α->V} {p:α->Bool} {f:α->V} {ws:List α} (hs:Val cf G s x) (hq:bM x=some (ws.map g)) (ht:∀ w∈ws,bA cf true (G.set k (.v (g w))) ts (p w)) (he:∀ w∈ws,p w=true->Val cf (G.set k (.v (g w))) e (f w)) :
  Val cf G (.nd (.comp k) (s :: e :: ts)) (.list ((ws.filter p).map f)):=fun K h=>hs _ (ad hq (uK [] (fun U U=>rfl) ht he (fun ys=>K (.list ys)) h))
def Ak (ws:List α):ws.filter (fun U=>true)=ws:=List.filter_eq_self.mpr fun U U=>rfl
def d4 {α:Type} {g f:α->V} {ws:List α} (hs:Val cf G s x) (hq:bM x=some (ws.map g)) (he:∀ w∈ws,Val cf (G.set k (.v (g w))) e (f w)) :
  Val cf G (.nd (.comp k) [s,e]) (.list (ws.map f)):=by
 have q:=iU (ts:=[]) (p:=fun U=>true) (f:=f) hs hq (fun U U=>.nil) fun x m U=>he x m;rw [Ak] at q;exact q
theorem exi_eq:∀ l:List S,exi cf l=exs cf l
 | []=>rfl
 | s :: r=>funext fun G=>funext fun K=>by
  refine (?_:ex cf s G (fun fl G'=>match fl with | none=>exi cf r G' K | some x=>K (some x) G')=_);rw [exi_eq r]; rfl
theorem ls:∀ l:List S,exs cf (l++r)=fun G K=>exs cf l G (fun fl G'=>match fl with | none=>exs cf r G' K | some x=>K (some x) G')
 | []=>rfl
 | s :: l=>by
  funext G K
  refine (?_:ex cf s G (fun fl G'=>match fl with | none=>exs cf (l++r) G' K | some x=>K (some x) G')=_);rw [ls l]; rfl
def aM (h:K none G):exs cf [] G K:=h
def am (h:Val cf G e v) (n:exs cf r (G.set k (.v v)) K):exs cf (.mk (.assign k) [e] [] [] :: r) G K:=h _ n
def cV {ks:List Nat} {G':Gs} (h:Val cf G e v) (hs:bu ks G v=some G') (n:exs cf r G' K):exs cf (.mk (.assignM ks) [e] [] [] :: r) G K:=h _ (ad hs n)
def aX (h:Val cf G e v) (n:K (some v) G):exs cf (.mk .ret [e] [] [] :: r) G K:=h _ n
def gT {A B:List S} (h:Val cf G c (.bool t)) (h1:t=true->exs cf (A++r) G K) (h2:t=false->exs cf (B++r) G K):exs cf (.mk .ite [c] A B :: r) G K:=h _ (by
 refine (?_:if t=true then exi cf A G _ else exi cf B G _);rw [exi_eq,exi_eq];cases t
 ·have:=h2 rfl; rw [ls] at this; exact this
 ·have:=h1 rfl; rw [ls] at this; exact this)
def lF {A B:List S} (h:Val cf G c (.bool true)) (h1:exs cf (A++r) G K):exs cf (.mk .ite [c] A B :: r) G K:=gT h (fun U=>h1) fun q=>nB q.symm
def aW (h:Val cf G c (.bool false)) (h1:exs cf r G K):exs cf (.mk .ite [c] A [] :: r) G K:=gT h (fun q=>nB q) fun U=>h1
def pb (n:exs cf r (G.set k (.ownL [])) K):exs cf (.mk (.ownL k) [] [] [] :: r) G K:=⟨zero_le _,n⟩
def da {l:List V} (hl:gK G k=some l) (h:Val cf G e v) (hz:l.length < ac) (n:exs cf r (G.set k (.ownL (l++[v]))) K):exs cf (.mk (.append k) [e] [] [] :: r) G K:=ad hl (h _ ⟨hz,n⟩)
def dL {l:List V} (hl:gK G k=some l) (n:exs cf r (G.set k (.v (.list l))) K):exs cf (.mk (.freeze k) [] [] [] :: r) G K:=ad hl n
theorem fY:∀ es:List E,es.map (ev cf)=evs cf es
 | []=>rfl
 | e :: es=>congrArg (ev cf e :: ·) (fY es)
def pZ (hv:eK cf G es vs) (h:cf.p f vs fun y=>isNone y=true/\exs cf r G K):exs cf (.mk (.call f) es [] [] :: r) G K:=by
 refine (?_:be (es.map (ev cf)) G fun xs=>cf.p f xs fun y=>isNone y=true/\exs cf r G K);rw [fY];exact hv _ h
def o9 (n:exs cf r (G.set k (.ownD [])) K):exs cf (.mk (.ownD k) [] [] [] :: r) G K:=n
def eB {l:List (V×V)} (hl:ib G k=some l) (h:Val cf G a v) (h':Val cf G b x) (hk:aJ x=true) (hz:l.length < ac) (n:exs cf r (G.set k (.ownD (cE l x v))) K):exs cf (.mk (.setD k) [a,b] [] [] :: r) G K:=
 ad hl (h _ (h' _ (ad (if_pos (zA3 ⟨hk,decide_eq_true hz⟩)) n)))
def dY {l:List (V×V)} (hl:ib G k=some l) (n:exs cf r (G.set k (.v (.dict l))) K):exs cf (.mk (.freezeD k) [] [] [] :: r) G K:=ad hl n
def rF {ob:Ob} (ho:lf G k=some ob) (n:exs cf r (G.set k ob.sl) K):exs cf (.mk (.freezeO k) [] [] [] :: r) G K:=ad ho n
def vZ (h:Val cf G a x) (h':Val cf G b v) (hk:aJ x=true) (n:exs cf r (G.set k (.ownD [(x,v)])) K):exs cf (.mk (.ownD1 k) [a,b] [] [] :: r) G K:=h _ (h' _ (ad (if_pos hk) n))
def yO (hv:eK cf G es vs) (h:cf.p f vs fun y=>eU y=true/\okK (bz y some) fun l=>exs cf r (G.set k (.ownL l)) K):exs cf (.mk (.ownC k f) es [] [] :: r) G K:=by
 refine (?_:be (es.map (ev cf)) G fun xs=>cf.p f xs fun y=>eU y=true/\okK (bz y some) fun l=>exs cf r (G.set k (.ownL l)) K);rw [fY];exact hv _ h
def cU {c j:Nat} {ob:Ob} (h:Val cf G e v) (ho:dI G k c=some ob) (hj:ob.fs.length=j) (n:exs cf r (G.set k (.ownI ⟨ob.c,ob.fs++[.val v]⟩)) K):exs cf (.mk (.setAttr k c j) [e] [] [] :: r) G K:=h _ (ad ho ⟨hj,n⟩)
def dy {c j:Nat} {ob:Ob} {fd:Fld} (ho:dI G k c=some ob) (hj:ob.fs.length=j) (n:exs cf r (G.set k (.ownI ⟨ob.c,ob.fs++[fd]⟩)) K):exs cf (.mk (.setAttrO k c j fd) [] [] [] :: r) G K:=ad ho ⟨hj,n⟩
def AF (hv:eK cf G es vs) (ha:G.all gL=true) (hu:getSlot G k=.unset) (h:cf.m f vs fun o=>exs cf r (G.set k (.obj o)) K):exs cf (.mk (.mkO k f) es [] [] :: r) G K:=by
 refine (?_:(G.all gL=true/\getSlot G k=.unset)/\be (es.map (ev cf)) G fun xs=>cf.m f xs fun o=>exs cf r (G.set k (.obj o)) K);rw [fY];exact ⟨⟨ha,hu⟩,hv _ h⟩
def eC {c:Nat} {ob:Ob} (ho:dC G k c=some ob) (hv:eK cf G es vs) (h:cf.o f ob vs fun y o'=>isNone y=true/\exs cf r (G.set k (.obj o')) K):exs cf (.mk (.oCall k c f) es [] [] :: r) G K:=by
 refine (?_:okK (dC G k c) fun o=>be (es.map (ev cf)) G fun xs=>cf.o f o xs fun y o'=>isNone y=true/\exs cf r (G.set k (.obj o')) K);rw [fY];exact ad ho (hv _ h)
def v3 {c j:Nat} {ob:Ob} {l:List V} (ho:dC G k c=some ob) (hl:qZ ob j=some (y :: l)) (hz:l.length < ac) (h:cf.o f (ob.set j (.L l)) [y] fun z o'=>isNone z=true/\exs cf r (G.set k (.obj o')) K):exs cf (.mk (.oPopC k c j f) [] [] [] :: r) G K:=ad ho (ad hl ⟨hz,ad (z:=y) rfl h⟩)
def yQ {c j:Nat} {ob:Ob} {l:List V} (ho:dC G k c=some ob) (hl:qZ ob j=some l) (h:Val cf G e v) (hz:l.length < ac) (n:exs cf r (G.set k (.obj (ob.set j (.L (l++[v]))))) K):exs cf (.mk (.oApp k c j) [e] [] [] :: r) G K:=ad ho (ad hl (h _ ⟨hz,n⟩))
def yP {c j:Nat} {ob:Ob} {l:List (V×V)} (ho:dC G k c=some ob) (hl:w5 ob j=some l) (h:Val cf G a v) (h':Val cf G b x) (hk:aJ x=true) (hz:l.length < ac) (n:exs cf r (G.set k (.obj (ob.set j (.D (cE l x v))))) K):exs cf (.mk (.oSet k c j) [a,b] [] [] :: r) G K:=
 ad ho (ad hl (h _ (h' _ (ad (if_pos (zA3 ⟨hk,decide_eq_true hz⟩)) n))))
def rE {c j:Nat} {ob:Ob} {l:List (V×V)} (ho:dC G k c=some ob) (hl:fldN ob j=some l) (hz:l.length<=ac) (h:Val cf G a y) (hk:aJ y=true)
  (n:kh ob j l y (.list []) fun o' i=>okK (fldN o' j) fun l'=>okK (l'[i]?) fun p=>okK (bz p.2 some) fun m=>∃ x,Val cf (G.set k (.obj o')) b x/\m.length < ac/\exs cf r (G.set k (.obj (o'.set j (.N (l'.set i (p.1,.list (m++[x]))))))) K):exs cf (.mk (.oDefApp k c j) [a,b] [] [] :: r) G K:=by
 refine ad ho (ad hl ⟨hz,h _ ⟨hk,?_⟩⟩);have up:∀ (o':Ob) (i:Nat),(okK (fldN o' j) fun l'=>okK (l'[i]?) fun p=>okK (bz p.2 some) fun m=>∃ x,Val cf (G.set k (.obj o')) b x/\m.length < ac/\exs cf r (G.set k (.obj (o'.set j (.N (l'.set i (p.1,.list (m++[x]))))))) K)->okK (fldN o' j) fun l'=>okK (l'[i]?) fun p=>okK (bz p.2 some) fun m=>ev cf b (G.set k (.obj o')) fun x=>m.length < ac/\exs cf r (G.set k (.obj (o'.set j (.N (l'.set i (p.1,.list (m++[x]))))))) K:=fun o' i q=>by
  cases e1:fldN o' j with
  | none=>rw [e1] at q; exact q.elim
  | some l'=>
   rw [e1] at q;have q:okK (l'[i]?) _:=q;refine (?_:okK (l'[i]?) _);cases e2:l'[i]? with
   | none=>rw [e2] at q; exact q.elim
   | some p=>
    rw [e2] at q;have q:okK (bz p.2 some) _:=q;refine (?_:okK (bz p.2 some) _);cases e3:bz p.2 some with
    | none=>rw [e3] at q; exact q.elim
    | some m=>rw [e3] at q; obtain ⟨x,h1,h2⟩:=q; exact h1 _ h2
 unfold kh at n ⊢;cases e:idxD l y with
 | none=>rw [e] at n; exact up _ _ n
 | some i=>rw [e] at n; exact up _ _ n
def yU {m c j:Nat} {ob:Ob} {l:List (V×V)} (ho:dC G k c=some ob) (hl:fldN ob j=some l) (hz:l.length<=ac) (h:Val cf G a y) (hk:aJ y=true) (n:kh ob j l y (.dict []) fun o' i=>exs cf r ((G.set k (.obj o')).set m (.ali k j i)) K):exs cf (.mk (.aliS m k c j) [a] [] [] :: r) G K:=ad ho (ad hl ⟨hz,h _ ⟨hk,n⟩⟩)
def yV {m c j:Nat} {ob:Ob} {l:List (V×V)} (ho:dC G k c=some ob) (hl:fldN ob j=some l) (hz:l.length<=ac) (h:Val cf G a y) (hk:aJ y=true) (n1:∀ i,idxD l y=some i->exs cf r (G.set m (.ali k j i)) K) (n0:idxD l y=none->exs cf r (G.set m (.v (.dict []))) K):exs cf (.mk (.aliG m k c j) [a] [] [] :: r) G K:=
 ad ho (ad hl ⟨hz,h _ ⟨hk,by
  cases e:idxD l y with
  | none=>exact n0 e
  | some i=>exact n1 i e⟩⟩)
def mJ {m j i:Nat} {ob:Ob} {l d:List (V×V)} {q:V} (ho:lC G m=some (k,j,i,ob,l,q,.dict d)) (h:Val cf G a v) (h':Val cf G b x) (hk:aJ x=true) (hz:d.length < ac) (n:exs cf r (G.set k (.obj (ob.set j (.N (l.set i (q,.dict (cE d x v))))))) K):exs cf (.mk (.aliSet m) [a,b] [] [] :: r) G K:=
 ad ho (h _ (h' _ (ad (if_pos (zA3 ⟨hk,decide_eq_true hz⟩)) n)))
def pX {A:List S} (P:Nat->Gs->Prop) (h0:P m G) (turn:∀ n G,P n G->∃ t,Val cf G c (.bool t)/\(t=true->∀ Kt:Option V->Gs->Prop,(∀ G' m,m < n->P m G'->Kt none G')->(∀ y G',K (some y) G'->Kt (some y) G')->exs cf A G Kt)/\(t=false->exs cf r G K)):exs cf (.mk .while [c] A [] :: r) G K:=by
 refine ⟨P,⟨m,h0⟩,fun n G hP=>?_⟩;obtain ⟨t,ht,h1,h2⟩:=turn n G hP;refine ht _ ?_;refine (?_:if t=true then exi cf A G _ else _);rw [exi_eq];cases t with
 | true=>exact h1 rfl _ (fun G' m lt p=>⟨m,lt,p⟩) fun y G' k=>k
 | false=>exact h2 rfl
theorem qY {b:Gs->V->Option Gs} {P:List V->Gs->Prop} (done:∀ G,P [] G->K none G) (turn:∀ x l G,P (x :: l) G->(∀ G',P l G'->jv b A l G' K)->okK (b G x) fun G'=>A G' fun fl EO=>match fl with | none=>jv b A l EO K | some y=>K (some y) EO):∀ xs G,P xs G->jv b A xs G K
 | [],G,h=>done G h
 | x :: l,G,h=>turn x l G h (qY done turn l)
def uO {op:SOp} {b:Gs->V->Option Gs} {s:E} {body:List S} {xs:List V} {P:List V->Gs->Prop} (F4:∀ ds X Y G K,(eR ds G fun x=>okK (bM x) fun xs=>jv b X xs G K)->c8 cf op ds X Y G K) (hs:Val cf G s v) (hq:bM v=some xs) (h0:P xs G) (done:∀ G,P [] G->exs cf r G K)
  (turn:∀ x l G Kt,P (x :: l) G->(∀ G',P l G'->Kt none G')->(∀ y G',K (some y) G'->Kt (some y) G')->okK (b G x) fun G'=>exs cf body G' Kt):exs cf (.mk op [s] body [] :: r) G K:=by
 have q:=F4 [ev cf s] (exi cf body) (exi cf []) G (fun fl G'=>match fl with | none=>exs cf r G' K | some x=>K (some x) G') (hs _ (ad hq (by
  rw [exi_eq];exact qY (P:=P) (K:=fun fl G'=>match fl with | none=>exs cf r G' K | some x=>K (some x) G') done (fun x l G h n=>turn x l G (fun fl EO=>match fl with | none=>jv b (exs cf body) l EO (fun fl G'=>match fl with | none=>exs cf r G' K | some x=>K (some x) G') | some y=>K (some y) EO) h n fun U U h=>h) xs G h0)))
 exact q
def lG {P:List V->Gs->Prop} (hs:Val cf G s v) (hq:bM v=some xs) (h0:P xs G) (done:∀ G,P [] G->exs cf r G K)
  (turn:∀ x l G Kt,P (x :: l) G->(∀ G',P l G'->Kt none G')->(∀ y G',K (some y) G'->Kt (some y) G')->exs cf body (G.set k (.v x)) Kt):exs cf (.mk (.forS k) [s] body [] :: r) G K:=uO (P:=P) (fun U U U U U h=>h) hs hq h0 done turn
def yS {P:List V->Gs->Prop} (hs:Val cf G s v) (hq:bM v=some xs) (h0:P xs G) (done:∀ G,P [] G->exs cf r G K)
  (turn:∀ x l G Kt,P (x :: l) G->(∀ G',P l G'->Kt none G')->(∀ y G',K (some y) G'->Kt (some y) G')->okK (bu ks G x) fun G'=>exs cf body G' Kt):exs cf (.mk (.forM ks) [s] body [] :: r) G K:=uO (P:=P) (fun U U U U U h=>h) hs hq h0 done turn
end
end Mine
end
noncomputable section
namespace Mine.L10
open PySem
noncomputable abbrev step (cf:CallF):CallF:=xT prog cf
def run (hf:fns[f]?=some fn) (hi:fn.kind=.fn) (hl:args.length=fn.npar) (h:exs cf fn.body (args.map .v++replicate (fn.nslots - fn.npar) .unset) fun fl U=>K (fl.getD .none)):(step cf).p f args K:=by
 refine ad (o:=fns[f]?) hf ?_;rw [hi];exact ⟨hl,h⟩
def bU (h:n<=5000):n<=ac:=zB1 h (by decide)
def aY (h:l.length<=5000):bM (.list l)=some l:=if_pos (bU h)
def iW (h:l.length<=5000):bM (text l)=some (bL l):=if_pos (bU h)
def lR (h:l.length<=5000):opN .len [.list l]=some (.int l.length):=by
 refine (?_:(bM (.list l)).map _=_); rw [aY h]; rfl
def zz (h:s.cps.toList.length<=5000):opN .len [.str s]=some (.int s.cps.toList.length):=by
 refine (?_:(bN s.cps.toList (bL s.cps.toList)).map _=_);rw [show bN s.cps.toList (bL s.cps.toList)=some (bL s.cps.toList) from if_pos (bU h)];refine (?_:some (PyData.int ((s.cps.toList.map _).length:Nat))=_); rw [zA4]
def BX (h:a < b):bo .Lt (.int a) (.int b)=some true:=congrArg some (decide_eq_true h)
def yK (h:¬ a < b):bo .Lt (.int a) (.int b)=some false:=congrArg some (decide_eq_false h)
def yL (h:¬ b < a):bo .Gt (.int a) (.int b)=some false:=congrArg some (decide_eq_false h)
def BG:bo .Eq (.int a) (.int b)=some (a==b):=rfl
def qQ (hz:l.length<=5000) (h0:0<=i) (e:l[i.toNat]?=some x):lW l f (.int i)=some (f x):=by
 refine (?_:(if l.length<=ac then _ else none)=_);rw [if_pos (bU hz),if_pos h0,e]; rfl
def gR (hz:l.length<=5000) (h0:0<=i) (e:l[i.toNat]?=some x):opN .sub [.list l,.int i]=some x:=qQ hz h0 e
def cB (a:Int) (h:0 < b):0<=a.fmod b:=Int.fmod_nonneg_of_pos a h
def fV (a:Int) (h:0 < b):a.fmod b < b:=Int.fmod_lt_of_pos a h
def dD (h:0 < b):opN (.bin .Mod) [.int a,.int b]=some (.int (a.fmod b)):=if_neg (Int.ne_of_gt h)
def lS (h:0 < b) (h':b<=1000000):opN (.bin .FloorDiv) [.int a,.int b]=some (.int (a.fdiv b)):=if_neg fun z=>z.elim (fun e=>absurd h (e▸Int.lt_irrefl 0)) fun e=>absurd e (not_lt.mpr (ofNat_le.mp ((Int.natAbs_of_nonneg (Int.le_of_lt h)).symm▸h')))
def lQ (h:b.natAbs<=1000000\/a.natAbs<=1000000):opN (.bin .Mult) [.int a,.int b]=some (.int (a * b)):=if_pos h
noncomputable def mR (scr:List Int):V:=.list (scr.map .int)
noncomputable def bp (scr:List Int) (k:Int):Int:=if k < scr.length then scr.getD k.toNat 0 else 0
def S20 (cf:CallF):Prop:=∀ scr k K,scr.length<=63->0<=k->K (.int (bp scr k))->cf.p 20 [mR scr,.int k] K
def p20 (cf:CallF):S20 (step cf):=fun scr k K hs h0 h=>by
 refine run (fn:=f20) rfl rfl rfl ?_;have hl:(scr.map PyData.int).length<=5000:=by exact zB1 (zB2 (length_map _)) (zB1 hs (by decide))
 have hv:Val cf [.v (mR scr),.v (.int k)] (lnE (vv 0)) (.int scr.length):=aa (.one ix) (by exact (length_map (f:=PyData.int) (as:=scr))▸lR hl);by_cases hk:k < scr.length
 ·refine lF (ao ix hv (BX hk)) (aX (aa (.two ix ix) (gR (x:=.int (bp scr k)) hl h0 ?_)) h);have Di:k.toNat < scr.length:=by exact (toNat_lt ‹_›).mpr hk
  rw [Jc,J9 Di];unfold bp;rw [if_pos hk,getD_eq_getElem?_getD,J9 Di]; rfl
 ·refine aW (ao ix hv (yK hk)) (aX (v:=.int (bp scr k)) ?_ h);unfold bp;exact (if_neg hk).symm▸ix
noncomputable def Ap (c k:Int):Int:=(c * 48271+7919 * k).fmod 1000003
def S21 (cf:CallF):Prop:=∀ c k K,K (.int (Ap c k))->cf.p 21 [.int c,.int k] K
def p21 (cf:CallF):S21 (step cf):=fun c k K h=>run (fn:=f21) rfl rfl rfl (aX (aa (.two (aa (.two (aa (.two ix ix) (lQ (.inl (by decide)))) (aa (.two ix ix) (lQ (.inr (by decide))))) rfl) ix) (dD (by decide))) h)
noncomputable def low (c:Nat):Bool:=abc.cps.toList.elem c
def pC (h:l.length<=5000):opN .len [text l]=some (.int l.length):=zz (s:=⟨l.toArray⟩) h
def sS (h:a=b):bo .Eq (.int a) (.int b)=some true:=h▸congrArg some (beq_self_eq_true a)
def lH {K:Option V->Gs->Prop} {I:Gs->Prop} (hs:Val cf G s v) (hq:bM v=some xs) (h0:I G) (hI:∀ G x,I G->I (G.set k (.v x))) (hc:∀ x∈xs,∀ G,I G->Val cf (G.set k (.v x)) c (.bool false)) (n:∀ G,I G->exs cf r G K):exs cf (.mk (.forS k) [s] [.mk .ite [c] A []] [] :: r) G K:=
 lG (P:=fun l G=>I G/\∀ x∈l,x∈xs) hs hq ⟨h0,fun U m=>m⟩ (fun G h=>n G h.1) fun x l G Kt h nx rt=>aW (hc x (h.2 x (.head _)) G h.1) (aM (nx _ ⟨hI G x h.1,fun y z=>h.2 y (.tail _ z)⟩))
structure SgOk (a b c:List Nat):Prop where
 la:a.length<=4
 lb:b.length<=4
 lc:c.length<=4
 lows:∀ x∈a++b++c,low x=true
 nodup:(a++b++c).Nodup
section
variable {a b c:List Nat} {x:Nat} (ok:SgOk a b c)
include ok
theorem SgOk.inC (h:x∈c):x∉a/\x∉b:=by
 have:=(nodup_append.mp ok.nodup).2.2;exact ⟨fun q=>this x (mem_append_left _ q) x h rfl,fun q=>this x (mem_append_right _ q) x h rfl⟩
theorem SgOk.inB (h:x∈b):x∉a:=fun q=>(nodup_append.mp (nodup_append.mp ok.nodup).1).2.2 x q x h rfl
theorem SgOk.lowA (h:x∈a):low x=true:=ok.lows x (mem_append_left _ (mem_append_left _ h))
theorem SgOk.lowB (h:x∈b):low x=true:=ok.lows x (mem_append_left _ (mem_append_right _ h))
theorem SgOk.lowC (h:x∈c):low x=true:=ok.lows x (mem_append_right _ h)
end
noncomputable def sg (a b c:List Nat):V:=.tuple [text a,text b,text c]
def S0 (cf:CallF):Prop:=∀ l K,l.length<=4->(∀ c∈l,low c=true)->K (.bool true)->cf.p 0 [text l] K
def p0 (cf:CallF):S0 (step cf):=fun l K hl lo h=>run (fn:=f0) rfl rfl rfl (aW (br (.go (b:=false) (ay (t:=true) ix) (.one' (ao (aa (.one ix) (pC (zB1 hl (by decide)))) ix (yL (Int.not_lt.mpr (ofNat_le.mpr hl))))))) (lH (xs:=bL l) (v:=text l) (I:=fun G=>∃ t,G=[.v (text l),t]) ix (iW (zB1 hl (by decide))) ⟨_,rfl⟩ (fun G x h=>h.elim fun U e=>⟨.v x,e▸rfl⟩) (fun x m G h=>by
 obtain ⟨t,rfl⟩:=h;obtain ⟨c,mc,rfl⟩:=zA7 m;exact ao ix ix (congrArg (fun b=>some (!b)) (lo c mc))) fun G U=>aX (v:=.bool true) ix h))
def zy (nd:l.Nodup) (hz:l.length<=1000):opN .lenSet [text l]=some (.int l.length):=by
 refine (?_:(if l.Nodup/\l.toArray.size < 4000 then some l.toArray.size else none).map _=_);rw [if_pos ⟨nd,J5 hz (by decide)⟩]; rfl
def zA (h:(a.cps.toList++b.cps.toList).length<=5000):opN (.bin .Add) [.str a,.str b]=some (text (a.cps.toList++b.cps.toList)):=if_pos (bU h)
def gS (h:(l++m).length<=5000):opN (.bin .Add) [text l,text m]=some (text (l++m)):=zA (a:=⟨l.toArray⟩) (b:=⟨m.toArray⟩) h
def S1 (cf:CallF):Prop:=∀ a b c K,SgOk a b c->K (.bool true)->cf.p 1 [sg a b c] K
def p1 (cf:CallF) (h0:S0 cf):S1 (step cf):=fun a b c K sk h=>by
 refine run (fn:=f1) rfl rfl rfl (aW (br (.go (b:=false) (ay (t:=true) ix) (.one' (ao (x:=.int 3) ix ix rfl)))) ?_);have go:∀ {l:List Nat},l.length<=4->(∀ c∈l,low c=true)->∀ G,(∃ t,G=[.v (sg a b c),t,.unset])->Val cf (G.set 1 (.v (text l))) (.nd .not [.nd (.call 0) [vv 1]]) (.bool false):=fun hl lo G h=>by
  obtain ⟨t,rfl⟩:=h;exact ay (t:=true) (aD (.one ix) fun K h=>h0 _ K hl lo h)
 refine lH (xs:=[text a,text b,text c]) (v:=sg a b c) (I:=fun G=>∃ t,G=[.v (sg a b c),t,.unset]) ix rfl ⟨_,rfl⟩ (fun G x h=>h.elim fun U e=>⟨.v x,e▸rfl⟩) (zA1 ⟨go sk.la fun U m=>sk.lowA m,zA1 ⟨go sk.lb fun U m=>sk.lowB m,forall_mem_singleton.mpr (go sk.lc fun U m=>sk.lowC m)⟩⟩) fun G hG=>?_;obtain ⟨t,rfl⟩:=hG;have e1:(a++b).length<=8:=by rw [zB5]; exact add_le_add sk.la sk.lb
 have e2:(a++b++c).length<=12:=by rw [zB5]; exact add_le_add e1 sk.lc
 refine am (v:=text (a++b++c)) (aa (vs:=[text (a++b),text c]) (.two (aa (vs:=[text a,text b]) (.two ix ix) (gS (zB1 e1 (by decide)))) ix) (gS (zB1 e2 (by decide)))) ?_;exact aX (ao (aa (.one ix) (zy sk.nodup (zB1 e2 (by decide)))) (aa (.one ix) (pC (zB1 e2 (by decide)))) (sS rfl)) h
def S2 (cf:CallF):Prop:=∀ a b c K,SgOk a b c->K .none->cf.p 2 [sg a b c] K
def p2 (cf:CallF) (h1:S1 cf):S2 (step cf):=fun a b c K sk h=>run (fn:=f2) rfl rfl rfl (aW (ay (t:=true) (aD (.one ix) fun K h=>h1 a b c K sk h)) (aM h))
def fy (x:Str):strOk x=x.cps.toList.all (· < 0x110000):=by unfold strOk; rw [all_toList]
def okS (h:strOk s=true):gC (.str s)=true:=by
 refine (?_:(strOk s&&_)=true);rw [h]; rfl
def Bp (hs:strOk s=true) (ht:strOk t=true):bo .Eq (.str s) (.str t)=some (s==t):=if_pos (by rw [okS hs,okS ht]; rfl)
def ok_on:strOk kOn=true:=by rw [fy]; rfl
def ok_open:strOk a6=true:=by rw [fy]; rfl
def ok_close:strOk aE=true:=by rw [fy]; rfl
def zE (h:low c=true):c < 0x110000:=by
 have:∀ x∈abc.cps.toList,x < 0x110000:=by decide
 exact this c (elem_iff.mp h)
def k9 {l:List Nat} (h:∀ c∈l,low c=true):strOk ⟨l.toArray⟩=true:=by
 rw [fy];exact Jb.mpr fun c m=>decide_eq_true (zE (h c m))
noncomputable def lV (a b c:List Nat) (x:Nat):Str:=if a.elem x=true then a6 else if b.elem x=true then aE else if c.elem x=true then kOn else k0
section
variable {a b c:List Nat} {x:Nat} (ok:SgOk a b c)
include ok
theorem wJ (h:x∈a):lV a b c x=a6:=if_pos (elem_iff.mpr h)
theorem wM (h:x∈b):lV a b c x=aE:=(if_neg fun q=>ok.inB h (elem_iff.mp q)).trans (if_pos (elem_iff.mpr h))
theorem wK (h:x∈c):lV a b c x=kOn:=(if_neg fun q=>(ok.inC h).1 (elem_iff.mp q)).trans ((if_neg fun q=>(ok.inC h).2 (elem_iff.mp q)).trans (if_pos (elem_iff.mpr h)))
end
def BY:bo .In (text [c]) (text l)=some (l.elem c):=rfl
def bj (h:Val cf G e (.str s)) (hs:strOk s=true) (ht:strOk t=true) (hu:(s==t)=u):Val cf G (eqE e (ss t)) (.bool u):=ao h ix ((Bp hs ht).trans (congrArg some hu))
def S3 (cf:CallF):Prop:=∀ a b c x K,K (.str (lV a b c x))->cf.p 3 [sg a b c,text [x]] K
def vI (h1:l.elem x=true->∀ G,K (some (.str k)) G) (h2:l.elem x=false->∀ s t,jv (bu [2,3]) (exs cf w7) xs [.v v,.v (text [x]),s,t] K):jv (bu [2,3]) (exs cf w7) (.tuple [text l,.str k] :: xs) [.v v,.v (text [x]),s,t] K:=by
 refine (?_:exs cf w7 [.v v,.v (text [x]),.v (text l),.v (.str k)] fun fl G=>match fl with | none=>jv (bu [2,3]) (exs cf w7) xs G K | some y=>K (some y) G);exact gT (ao (x:=text [x]) ix ix BY) (fun q=>aX (v:=.str k) ix (h1 q _)) fun q=>aM (h2 q _ _)
def yR (hs:Val cf G s v) (hq:bM v=some xs) (h:jv (bu ks) (exs cf body) xs G fun fl G'=>match fl with | none=>exs cf r G' K | some x=>K (some x) G'):exs cf (.mk (.forM ks) [s] body [] :: r) G K:=by
 rw [<- exi_eq] at h;exact hs _ (ad hq h)
def p3 (cf:CallF):S3 (step cf):=fun a b c x K h=>by
 refine run (fn:=f3) rfl rfl rfl (aW (br (.go (b:=false) (ay (t:=true) ix) (.one' (ao (x:=.int 1) ix ix rfl)))) (yR (v:=.list [.tuple [text a,.str a6],.tuple [text b,.str aE],.tuple [text c,.str kOn]]) ix rfl ?_));unfold lV at h;refine vI (fun q U=>?_) fun q U U=>vI (fun q' U=>?_) fun q' U U=>vI (fun Hg U=>?_) fun Hg s t=>(?_:exs cf [.mk .ret [ss k0] [] []] [.v (sg a b c),.v (text [x]),s,t] fun fl U=>K (fl.getD .none))
 ·rw [if_pos q] at h; exact h
 ·rw [q,if_neg Bool.false_ne_true,if_pos q'] at h; exact h
 ·replace h:=(if_pos Hg)▸(if_neg Bool.false_ne_true)▸q'▸(if_neg Bool.false_ne_true)▸q▸h; exact h
 ·rw [q,if_neg Bool.false_ne_true,q',if_neg Bool.false_ne_true,Hg,if_neg Bool.false_ne_true] at h;exact aX (v:=.str k0) ix h
def In (R i:Int):Prop:=0<=i/\i < R
def S10 (cf:CallF):Prop:=∀ i R K,In R i->K (.bool true)->cf.p 10 [.int i,.int R] K
def p10 (cf:CallF):S10 (step cf):=fun i R K hi h=>run (fn:=f10) rfl rfl rfl (aX (v:=.bool true) (fP (.go (b:=true) ix (.go (b:=true) (ay (t:=false) ix) (.one fun K h=>by
 refine (?_:if decide (0<=i)=true then K (.bool (decide (i < R))) else K (.bool false));exact (decide_eq_true hi.1).symm▸(decide_eq_true hi.2).symm▸h)))) h)
def fH (Db:S10 cf) (ha:Val cf G a (.int i)) (hb:Val cf G b (.int R)) (hi:In R i):Val cf G (.nd (.call 10) [a,b]) (.bool true):=aD (.two ha hb) fun K h=>Db i R K hi h
noncomputable def az (is:List Int):V:=.list (is.map .int)
structure RoomsOk (R:Int) (is:List Int):Prop where
 len:is.length<=40
 nodup:is.Nodup
 rooms:∀ i∈is,In R i
theorem iw:∀ is:List Int,cT (is.map .int)=some is
 | []=>rfl
 | i :: r=>by unfold cT; rw [map_cons,mapM_cons]; refine (?_:(cT (r.map .int)).bind _=_); rw [iw r]; rfl
open Classical in
def len_list (l:List V):jn (.list l)=(cT l).bind fun is=>if is.Nodup/\is.length < 4000 then some is.length else none:=rfl
def ua (e:cT l=some is) (nd:is.Nodup) (hz:is.length < 4000):jn (.list l)=some is.length:=by rw [len_list,e,bind_some,if_pos ⟨nd,hz⟩]
def S11 (cf:CallF):Prop:=∀ is R K,RoomsOk R is->K (.bool true)->cf.p 11 [az is,.int R] K
def p11 (cf:CallF) (Db:S10 cf):S11 (step cf):=fun is R K ok h=>by
 have hl:(is.map PyData.int).length<=5000:=by rw [zA4]; exact zB1 ok.len (by decide)
 refine run (fn:=f11) rfl rfl rfl (aW (ay (t:=true) ix) (lH (xs:=is.map .int) (v:=az is) (I:=fun G=>∃ t,G=[.v (az is),.v (.int R),t]) ix (aY hl) ⟨_,rfl⟩ (fun G x h=>h.elim fun U e=>⟨.v x,e▸rfl⟩) (fun x m G h=>?_) fun G h'=>?_))
 ·obtain ⟨t,rfl⟩:=h;obtain ⟨i,mi,rfl⟩:=zA7 m;exact ay (t:=true) (fH Db ix ix (ok.rooms i mi))
 ·obtain ⟨t,rfl⟩:=h';have e:opN .lenSet [az is]=some (.int is.length):=by
   have q:jn (az is)=some is.length:=ua (iw _) ok.nodup (J5 ok.len (by decide));exact congrArg (Option.map fun (n:Nat)=>PyData.int n) q
  exact aX (ao (aa (.one ix) e) (aa (.one ix) (lR hl)) (sS (by rw [zA4]))) h
inductive W where
 | on (a:Int) (c:Nat) (b:Int)
 | op (a:Int) (c:Nat) (b t:Int)
 | cl (a b:Int) (c:Nat) (t:Int)
noncomputable def W.l:W->List V
 | .on a c b=>[.str kOn,.int a,text [c],.int b]
 | .op a c b t=>[.str a6,.int a,text [c],.int b,.int t]
 | .cl a b c t=>[.str aE,.int a,.int b,text [c],.int t]
noncomputable def W.v (w:W):V:=.tuple w.l
noncomputable def W.ok (s0 s1 s2:List Nat) (R:Int):W->Prop
 | .on a c b=>In R a/\c∈s2/\In R b
 | .op a c b t=>In R a/\c∈s0/\In R b/\In R t
 | .cl a b c t=>In R a/\In R b/\c∈s1/\In R t
def S12 (cf:CallF):Prop:=∀ s0 s1 s2 R w K,SgOk s0 s1 s2->W.ok s0 s1 s2 R w->K (.bool true)->cf.p 12 [w.v,sg s0 s1 s2,.int R] K
def vR (h3:S3 cf) (ha:Val cf G a (sg s0 s1 s2)) (hb:Val cf G b (text [x])) (e:lV s0 s1 s2 x=k) (hk:strOk k=true):Val cf G (eqE (.nd (.call 3) [a,b]) (ss k)) (.bool true):=bj (s:=k) (aD (.two ha hb) fun K h=>h3 s0 s1 s2 x K (e▸h)) hk hk (beq_self_eq_true k)
def p12 (cf:CallF) (h3:S3 cf) (Db:S10 cf):S12 (step cf):=fun s0 s1 s2 R w K sk ok h=>by
 refine run (fn:=f12) rfl rfl rfl ?_;cases w with
 | on a c b=>exact aW (br (.go (b:=false) (ay (t:=true) ix) (.go (b:=false) (ao (x:=.int 4) ix ix rfl) (.one' (ay (t:=true) (fH Db ix ix ok.1)))))) (aW (ay (t:=true) ix) (lF (bj (s:=kOn) ix ok_on ok_on rfl) (aX (v:=.bool true) (fP (.go (b:=true) (ao (x:=.int 4) ix ix rfl) (.go (b:=true) (vR h3 ix ix (wK sk ok.2.1) ok_on) (.one (fH Db ix ix ok.2.2))))) h)))
 | op a c b t=>exact aW (br (.go (b:=false) (ay (t:=true) ix) (.go (b:=false) (ao (x:=.int 5) ix ix rfl) (.one' (ay (t:=true) (fH Db ix ix ok.1)))))) (aW (ay (t:=true) ix) (aW (bj (s:=a6) ix ok_open ok_on rfl) (aW (br (.go (b:=false) (ao (x:=.int 5) ix ix rfl) (.one' (ay (t:=true) (fH Db ix ix ok.2.2.2))))) (lF (bj (s:=a6) ix ok_open ok_open rfl) (aX (v:=.bool true) (fP (.go (b:=true) (vR h3 ix ix (wJ sk ok.2.1) ok_open) (.one (fH Db ix ix ok.2.2.1)))) h)))))
 | cl a b c t=>exact aW (br (.go (b:=false) (ay (t:=true) ix) (.go (b:=false) (ao (x:=.int 5) ix ix rfl) (.one' (ay (t:=true) (fH Db ix ix ok.1)))))) (aW (ay (t:=true) ix) (aW (bj (s:=aE) ix ok_close ok_on rfl) (aW (br (.go (b:=false) (ao (x:=.int 5) ix ix rfl) (.one' (ay (t:=true) (fH Db ix ix ok.2.2.2))))) (aW (bj (s:=aE) ix ok_close ok_open rfl) (aX (v:=.bool true) (fP (.go (b:=true) (bj (s:=aE) ix ok_close ok_close rfl) (.go (b:=true) (fH Db ix ix ok.2.1) (.one (vR h3 ix ix (wM sk ok.2.2.1) ok_close))))) h)))))
noncomputable def g7 (ws:List W):V:=.list (ws.map W.v)
def S13 (cf:CallF):Prop:=∀ s0 s1 s2 R ws K,SgOk s0 s1 s2->ws.length<=4000->(∀ w∈ws,W.ok s0 s1 s2 R w)->K (.bool true)->cf.p 13 [g7 ws,sg s0 s1 s2,.int R] K
def p13 (cf:CallF) (HZ:S12 cf):S13 (step cf):=fun s0 s1 s2 R ws K sk hl ok h=>by
 have CP:(ws.map W.v).length<=4000:=by rw [zA4]; exact hl
 refine run (fn:=f13) rfl rfl rfl (aW (br (.go (b:=false) (ay (t:=true) ix) (.one' (ao (aa (.one ix) (lR (zB1 CP (by decide)))) ix (yL (Int.not_lt.mpr (ofNat_le.mpr CP))))))) (lH (xs:=ws.map W.v) (v:=g7 ws) (I:=fun G=>∃ t,G=[.v (g7 ws),.v (sg s0 s1 s2),.v (.int R),t]) ix (aY (zB1 CP (by decide))) ⟨_,rfl⟩ (fun G x h=>h.elim fun U e=>⟨.v x,e▸rfl⟩) (fun x m G h=>?_) fun G U=>aX (v:=.bool true) ix h));obtain ⟨t,rfl⟩:=h;obtain ⟨w,mw,rfl⟩:=zA7 m;exact ay (t:=true) (aD (.cons ix (.two ix ix)) fun K h=>HZ s0 s1 s2 R w K sk (ok w mw) h)
def dN (sk:SgOk s0 s1 s2) (ok:W.ok s0 s1 s2 R w):∀ x∈w.l,aG x=true:=by
 have t:∀ {c:Nat},low c=true->aG (text [c])=true:=fun {c} h=>k9 (l:=[c]) fun x m=>by obtain rfl:=zA6 m; exact h
 have i:∀ {i:Int},aG (.int i)=true:=rfl;have n:∀ x∈([]:List V),aG x=true:=fun U m=>nM m;cases w with
 | on a c b=>exact zA1 ⟨ok_on,zA1 ⟨i,zA1 ⟨t (sk.lowC ok.2.1),zA1 ⟨i,n⟩⟩⟩⟩
 | op a c b t'=>exact zA1 ⟨ok_open,zA1 ⟨i,zA1 ⟨t (sk.lowA ok.2.1),zA1 ⟨i,zA1 ⟨i,n⟩⟩⟩⟩⟩
 | cl a b c t'=>exact zA1 ⟨ok_close,zA1 ⟨i,zA1 ⟨i,zA1 ⟨t (sk.lowB ok.2.2.1),zA1 ⟨i,n⟩⟩⟩⟩⟩
section
variable {cf:CallF} {G:Gs} {e:E} {k j:Nat} {l:List V} {r:List S} {K:Option V->Gs->Prop}
def eM {c:Nat} {ob:Ob} (ho:dI G k c=some ob) (h:ev cf e G fun v=>ob.fs.length=j/\exs cf r (G.set k (.ownI ⟨ob.c,ob.fs++[.val v]⟩)) K):exs cf (.mk (.setAttr k c j) [e] [] [] :: r) G K:=by
 refine (?_:ev cf e G fun x=>okK (dI G k c) fun o=>o.fs.length=j/\exs cf r (G.set k (.ownI ⟨o.c,o.fs++[.val x]⟩)) K);exact ho.symm▸h
end
noncomputable def aB (sv:V) (R:Int) (st en:List Int) (r:List V):V:=lZ 0 [sv,.int R,az st,az en,.list r]
def rc (h:Val cf G a (az is)) (hz:is.length<=40) (k:∀ r:List Int,r.Perm is->r.Pairwise (·<=·)->K (az r)):ev cf (.nd .sorted [a]) G K:=h _ (ad (z:=is) (iw is) ⟨by exact J5 hz (by decide),k⟩)
def oV (h:Val cf G a (.list l)) (k:(l.all oh&&decide (l.length<=ac))=true/\(∀ x∈l,∀ y∈l,ltK (au x) (au y)=true)/\(∃ m:List V,m.length < 64/\∀ x∈l,x∈m)/\∀ r:List V,r.Nodup->(∀ y,y∈r ↔ y∈l)->fM r->K (.list r)):ev cf (.nd .sortedSet [a]) G K:=h _ (ad rfl k)
def yY (sk:SgOk s0 s1 s2) (ok:W.ok s0 s1 s2 R w):oh w.v=true:=by
 have h:=Jb.mpr fun x m=>dN sk ok x m;cases w <;> exact h
def aO (h:k.isLeft=m.isLeft) (h':k=m->ltK ks ms=true):ltK (k :: ks) (m :: ms)=true:=by
 refine (?_:(if k=m then ltK ks ms else k.isLeft==m.isLeft)=true);by_cases e:k=m
 ·rw [if_pos e]; exact h' e
 ·rw [if_neg e,h]; exact beq_self_eq_true _
def yZ (w u:W):ltK (au w.v) (au u.v)=true:=by
 have ne:∀ {s t:Str} {ks ms:List Sc},s≠t->ltK (.inr s :: ks) (.inr t :: ms)=true:=fun h=>aO rfl fun e=>absurd (Sum.inr.inj e) h;cases w with
 | on a c b=>cases u with
  | on a' c' b'=>exact aO rfl fun U=>aO rfl fun U=>aO rfl fun U=>aO rfl fun U=>rfl
  | op a' c' b' t'=>exact ne (by decide)
  | cl a' b' c' t'=>exact ne (by decide)
 | op a c b t=>cases u with
  | on a' c' b'=>exact ne (by decide)
  | op a' c' b' t'=>exact aO rfl fun U=>aO rfl fun U=>aO rfl fun U=>aO rfl fun U=>aO rfl fun U=>rfl
  | cl a' b' c' t'=>exact ne (by decide)
 | cl a b c t=>cases u with
  | on a' c' b'=>exact ne (by decide)
  | op a' c' b' t'=>exact ne (by decide)
  | cl a' b' c' t'=>exact aO rfl fun U=>aO rfl fun U=>aO rfl fun U=>aO rfl fun U=>aO rfl fun U=>rfl
structure Held (st:List Int) (en:List Int) (ws:List V) (B8 Ch:List Int) (r:List V):Prop where
 p1:B8.Perm st
 o1:B8.Pairwise (·<=·)
 p2:Ch.Perm en
 o2:Ch.Pairwise (·<=·)
 nd:r.Nodup
 mem:∀ y,y∈r ↔ y∈ws
 up:fM r
structure ai (s0 s1 s2:List Nat) (R:Int) (st en:List Int) (ws:List W):Prop where
 sk:SgOk s0 s1 s2
 r1:1<=R
 r2:R<=40
 st:RoomsOk R st
 en:RoomsOk R en
 len:ws.length<=63
 ok:∀ w∈ws,W.ok s0 s1 s2 R w
def S14 (cf:CallF):Prop:=∀ s0 s1 s2 R st en ws K,ai s0 s1 s2 R st en ws->(∀ B8 Ch r,Held st en (ws.map W.v) B8 Ch r->K (aB (sg s0 s1 s2) R B8 Ch r))->cf.p 14 [sg s0 s1 s2,.int R,az st,az en,g7 ws] K
def p14 (cf:CallF) (h2:S2 cf) (Db:S10 cf) (GW:S11 cf) (GV:S13 cf):S14 (step cf):=fun s0 s1 s2 R st en ws K g h=>by
 refine (?_:_/\exs cf f14.body [.ownI ⟨0,[]⟩,.v (sg s0 s1 s2),.v (.int R),.v (az st),.v (az en),.v (g7 ws)] fun fl G=>fl=none/\okK (ia G 0) fun o=>o.c=0/\∃ l:List V,o.fs=l.map .val/\l.length=5/\K (lZ 0 l));refine ⟨rfl,pZ (.one ix) (h2 _ _ _ _ g.sk ⟨rfl,?_⟩)⟩;refine aW (br (.go (b:=false) (ay (t:=true) (fH Db ix (aa (.two ix ix) rfl) ⟨le_trans (by decide) g.r1,Int.lt_of_le_of_lt g.r2 (by decide)⟩)) (.one' (ao ix ix (yK (Int.not_lt.mpr g.r1)))))) ?_;refine aW (br (.go (b:=false) (ay (t:=true) (aD (.two ix ix) fun K h=>GW _ _ K g.st h)) (.go (b:=false) (ay (t:=true) (aD (.two ix ix) fun K h=>GW _ _ K g.en h)) (.one' (ay (t:=true) (aD (.cons ix (.two ix ix)) fun K h=>GV _ _ _ _ _ K g.sk (zB1 g.len (by decide)) g.ok h)))))) ?_;refine cU (ob:=⟨0,[]⟩) (v:=sg s0 s1 s2) ix rfl rfl (cU (ob:=⟨0,[_]⟩) (v:=.int R) ix rfl rfl (eM (ob:=⟨0,[_,_]⟩) rfl ?_));refine rc (show Val cf _ (vv 3) (az st) from ix) g.st.len fun B8 p3 o3=>⟨rfl,eM (ob:=⟨0,[_,_,_]⟩) rfl ?_⟩;refine rc (show Val cf _ (vv 4) (az en) from ix) g.en.len fun Ch p10 o4=>⟨rfl,eM (ob:=⟨0,[_,_,_,_]⟩) rfl ?_⟩;refine oV (l:=ws.map W.v) ix ⟨zA3 ⟨Jb.mpr fun x m=>?_,decide_eq_true (bU (by rw [zA4]; exact zB1 g.len (by decide)))⟩,fun x mx y my=>?_,⟨_,(by rw [zA4]; exact J5 g.len (by decide)),fun U m=>m⟩,fun r hn hm hr=>⟨rfl,rfl,rfl,[_,_,_,_,_],rfl,rfl,h B8 Ch r ⟨p3,o3,p10,o4,hn,hm,hr⟩⟩⟩
 ·obtain ⟨w,m',rfl⟩:=zA7 m;exact yY g.sk (g.ok w m')
 ·obtain ⟨w,_,rfl⟩:=zA7 mx;obtain ⟨u,_,rfl⟩:=zA7 my;exact yZ w u
section
variable {cf:CallF} {sv:V} {R:Int} {st en:List Int} {r:List V} {K:V->Prop}
def eO (h:Val cf G e (.list l)) (hz:l.length<=5000):Val cf G (.nd .listOf [e]) (.list l):=aa (.one h) (show (bN l l).map _=_ by rw [show bN l l=some l from if_pos (bU hz)]; rfl)
def p15 (h:K sv):(step cf).p 15 [aB sv R st en r] K:=run (fn:=f15) rfl rfl rfl (aX ix h)
def p16 (h:K (.int R)):(step cf).p 16 [aB sv R st en r] K:=run (fn:=f16) rfl rfl rfl (aX ix h)
def p17 (hz:st.length<=5000) (h:K (az st)):(step cf).p 17 [aB sv R st en r] K:=run (fn:=f17) rfl rfl rfl (aX (v:=az st) (eO ix (by rw [zA4]; exact hz)) h)
def p18 (hz:en.length<=5000) (h:K (az en)):(step cf).p 18 [aB sv R st en r] K:=run (fn:=f18) rfl rfl rfl (aX (v:=az en) (eO ix (by rw [zA4]; exact hz)) h)
def p19 (hz:r.length<=5000) (h:K (.list r)):(step cf).p 19 [aB sv R st en r] K:=run (fn:=f19) rfl rfl rfl (aX (v:=.list r) (eO ix hz) h)
end
noncomputable def p5V (a b c d e:V):V:=.tuple [a,b,c,d,e]
section
variable {cf:CallF} {sv a b c d:V} {K:V->Prop}
noncomputable def aS (sv:V) (R:Int) (st en:List Int) (ws:List W):V:=p5V sv (.int R) (az st) (az en) (g7 ws)
end
def se {a b is:List Int} (ha:a.Perm is) (El:a.Pairwise (·<=·)) (hb:b.Perm is) (DI:b.Pairwise (·<=·)):a=b:=
 Perm.eq_of_pairwise (le:=(·<=·)) (fun x y U U h h'=>Int.le_antisymm h h') El DI (ha.trans hb.symm)
def gc (n:Nat) (x:V):Prop:=x.canLay0=true/\x.depth<=n
def eH (h:gc n x) (hn:n<=64):gC x=true:=zA3 ⟨h.1,decide_eq_true (zB1 h.2 hn)⟩
theorem l7:∀ {n:Nat} {l:List V},(∀ x∈l,gc n x)->canLayAll0 l=true/\depthAll l<=n
 | n,[],_=>⟨rfl,zero_le _⟩
 | n,x :: l,h=>⟨zA3 ⟨(h x (.head _)).1,(l7 fun y m=>h y (.tail _ m)).1⟩,max_le.mpr ⟨(h x (.head _)).2,(l7 fun y m=>h y (.tail _ m)).2⟩⟩
def c7 (h:∀ x∈l,gc n x):gc (n+1) (.list l):=⟨(l7 h).1,succ_le_succ (l7 h).2⟩
def bZ (h:∀ x∈l,gc n x):gc (n+1) (.tuple l):=⟨(l7 h).1,succ_le_succ (l7 h).2⟩
def cS (h:aG x=true):gc 0 x:=by
 cases x with
 | int i=>exact ⟨rfl,le_refl _⟩
 | str s=>exact ⟨h,le_refl _⟩
 | _=>(injection h; done)
def uo (sk:SgOk s0 s1 s2) (ok:W.ok s0 s1 s2 R w):gc 1 w.v:=bZ fun x m=>cS (dN sk ok x m)
def oW (h:gC x=true):bo .NotEq x x=some false:=by
 refine (?_:(eqO x x).map _=_);rw [show eqO x x=some (PyData.eqv x x) from if_pos (by rw [h]; rfl),PySem.SeqAt.eqv_refl x (zA2 h).1]; rfl
def we (h:gA k m=false) (h':gA m k=false):k=m:=by
 cases k with
 | inl a=>cases m with
  | inl b=>have h:=of_decide_eq_false h; have h':=of_decide_eq_false h'; exact congrArg _ (by exact Int.le_antisymm (Int.not_lt.mp h') (Int.not_lt.mp h))
  | inr y=>(injection h; done)
 | inr x=>cases m with
  | inl b=>(injection h'; done)
  | inr y=>
   have h:=of_decide_eq_false h;have h':=of_decide_eq_false h';have e:x.cps.toList=y.cps.toList:=List.le_antisymm h' h;cases x; cases y
   exact congrArg _ (congrArg Str.mk (toList_inj.mp e))
theorem i7:∀ {a b:List Sc},bf a b=false->bf b a=false->a=b
 | [],[],_,_=>rfl
 | [],_ :: _,h,_=>nB h.symm
 | _ :: _,[],_,h=>nB h.symm
 | k :: ks,m :: ms,h,h'=>by
  have h:(if k=m then bf ks ms else gA k m)=false:=h;have h':(if m=k then bf ms ks else gA m k)=false:=h';by_cases e:k=m
  ·subst e;rw [if_pos rfl] at h h';rw [i7 h h']
  ·rw [if_neg e] at h;rw [if_neg fun q=>e q.symm] at h';exact absurd (we h h') e
def kOf_inj (hx:aG x=true) (hy:aG y=true) (e:kOf x=kOf y):x=y:=by
 cases x with
 | int i=>cases y with
  | int j=>rw [Sum.inl.inj e]
  | str t=>exact nomatch (show (Sum.inl i:Sc)=.inr t from e)
  | _=>(injection hy; done)
 | str s=>cases y with
  | int j=>exact nomatch (show (Sum.inr s:Sc)=.inl j from e)
  | str t=>rw [Sum.inr.inj e]
  | _=>(injection hy; done)
 | _=>(injection hx; done)
theorem keys_inj:∀ {l m:List V},(∀ x∈l,aG x=true)->(∀ x∈m,aG x=true)->l.map kOf=m.map kOf->l=m
 | [],[],_,_,_=>rfl
 | [],_ :: _,_,_,e=>nomatch e
 | _ :: _,[],_,_,e=>nomatch e
 | x :: l,y :: m,h,h',e=>by
  have e:=zA5 e;rw [kOf_inj (h x (.head _)) (h' y (.head _)) e.1,keys_inj (fun x q=>h x (.tail _ q)) (fun x q=>h' x (.tail _ q)) e.2]
section
variable {s0 s1 s2:List Nat} {R:Int} {ws:List W} (sk:SgOk s0 s1 s2) (ok:∀ w∈ws,W.ok s0 s1 s2 R w)
include sk ok
theorem ta (hx:x∈ws.map W.v) (hy:y∈ws.map W.v) (h:bf (au y) (au x)=false) (h':bf (au x) (au y)=false):x=y:=by
 obtain ⟨w,mw,rfl⟩:=zA7 hx;obtain ⟨u,mu,rfl⟩:=zA7 hy;exact congrArg PyData.tuple (keys_inj (fun x m=>dN sk (ok w mw) x m) (fun x m=>dN sk (ok u mu) x m) (i7 h' h))
theorem rW (hn:r.Nodup) (hm:∀ y,y∈r ↔ y∈ws.map W.v) (hr:fM r) (Dr:r'.Nodup) (ED:∀ y,y∈r' ↔ y∈ws.map W.v) (hr':fM r'):r=r':=
 Perm.eq_of_pairwise (le:=fun x y=>bf (au y) (au x)=false) (fun x y mx my h h'=>ta sk ok ((hm x).mp mx) ((ED y).mp my) h h') hr hr' ((List.perm_ext_iff_of_nodup hn Dr).mpr fun y=>(hm y).trans (ED y).symm)
end
def q7 (sk:SgOk s0 s1 s2):gc 1 (sg s0 s1 s2):=bZ fun x m=>by
 have t:∀ {l:List Nat},(∀ c∈l,low c=true)->gc 0 (text l):=fun h=>cS (x:=text _) (k9 h);rcases mem_cons.mp m with rfl | m
 ·exact t fun c q=>sk.lowA q
 rcases mem_cons.mp m with rfl | m
 ·exact t fun c q=>sk.lowB q
 ·obtain rfl:=zA6 m; exact t fun c q=>sk.lowC q
structure MethOk (cf:CallF):Prop where
 m9:∀ sv R st en r (K:V->Prop),K sv->cf.p 15 [aB sv R st en r] K
 m10:∀ sv R st en r (K:V->Prop),K (.int R)->cf.p 16 [aB sv R st en r] K
 m11:∀ sv R st en r (K:V->Prop),st.length<=5000->K (az st)->cf.p 17 [aB sv R st en r] K
 m12:∀ sv R st en r (K:V->Prop),en.length<=5000->K (az en)->cf.p 18 [aB sv R st en r] K
 m13:∀ sv R st en (r:List V) (K:V->Prop),r.length<=5000->K (.list r)->cf.p 19 [aB sv R st en r] K
open Classical in
theorem bB {α:Type}:∀ {l m:List α},l.Nodup->(∀ x∈l,x∈m)->l.length<=m.length
 | [],_,_,_=>zero_le _
 | x :: l,m,nd,h=>by
  have nd:=nodup_cons.mp nd;have mx:=h x (.head _);have q:=bB (m:=m.erase x) nd.2 fun y my=>(List.mem_erase_of_ne (a:=y) (b:=x) fun e=>nd.1 (by exact e▸my)).mpr (h y (.tail _ my));rw [List.length_erase_of_mem mx] at q;have:=List.length_pos_of_mem mx;exact zB1 (succ_le_succ q) (zB2 (Nat.sub_add_cancel this))
section
variable {cf:CallF} {s0 s1 s2:List Nat}
def ji (me:MethOk cf) (h:Val cf G e (aB (sg s0 s1 s2) R st en r)):Val cf G (.nd (.meth 0 15) [e]) (sg s0 s1 s2):=ch h rfl .nil (me.m9 _ _ _ _ _)
def uR (me:MethOk cf) (h:Val cf G e (aB (sg s0 s1 s2) R st en r)):Val cf G (.nd (.meth 0 16) [e]) (.int R):=ch h rfl .nil (me.m10 _ _ _ _ _)
def lI (me:MethOk cf) (h:Val cf G e (aB (sg s0 s1 s2) R st en r)) (hz:st.length<=40):Val cf G (.nd (.meth 0 17) [e]) (az st):=ch h rfl .nil (me.m11 _ _ _ _ _ · (zB1 hz (by decide)))
def y0 (me:MethOk cf) (h:Val cf G e (aB (sg s0 s1 s2) R st en r)) (hz:en.length<=40):Val cf G (.nd (.meth 0 18) [e]) (az en):=ch h rfl .nil (me.m12 _ _ _ _ _ · (zB1 hz (by decide)))
def pd (me:MethOk cf) (h:Val cf G e (aB (sg s0 s1 s2) R st en r)) (hz:r.length<=4000):Val cf G (.nd (.meth 0 19) [e]) (.list r):=ch h rfl .nil (me.m13 _ _ _ _ _ · (zB1 hz (by decide)))
end
def S31 (cf:CallF):Prop:=∀ s0 s1 s2 R st en r R' B8 Ch r' (K:V->Prop),SgOk s0 s1 s2->K .none->cf.p 31 [aB (sg s0 s1 s2) R st en r,aB (sg s0 s1 s2) R' B8 Ch r'] K
def p31 (cf:CallF) (me:MethOk cf):S31 (step cf):=fun s0 s1 s2 R st en r R' B8 Ch r' K sk h=>run (fn:=f31) rfl rfl rfl (aW (ao (ji me ix) (ji me ix) (oW (eH (q7 sk) (by decide)))) (aM h))
def S27 (cf:CallF):Prop:=∀ s0 s1 s2 R st en ws K,ai s0 s1 s2 R st en ws->(∀ B8 Ch r,Held st en (ws.map W.v) B8 Ch r->K (aB (sg s0 s1 s2) R B8 Ch r))->cf.p 27 [aS (sg s0 s1 s2) R st en ws] K
def io (h:l.length<=5000):opN .listOf [.list l]=some (.list l):=by
 refine (?_:(bN l l).map _=_);rw [show bN l l=some l from if_pos (bU h)]; rfl
def p27 (cf:CallF) (Fp:S14 cf):S27 (step cf):=fun s0 s1 s2 R st en ws K g h=>by
 refine run (fn:=f27) rfl rfl rfl ?_;have ln:∀ {α:Type} {f:α->V} {l:List α} {n:Nat},l.length<=n->n<=5000->(l.map f).length<=5000:=fun h h'=>by rw [zA4]; exact zB1 h h'
 have hv:eK cf [.v (aS (sg s0 s1 s2) R st en ws)] [sbE (vv 0) (ii 0),sbE (vv 0) (ii 1),.nd .listOf [(sbE (vv 0) (ii 2))],.nd .listOf [(sbE (vv 0) (ii 3))],.nd .listOf [(sbE (vv 0) (ii 4))]] [sg s0 s1 s2,.int R,az st,az en,g7 ws]:=
  .cons ix (.cons ix (.cons (aa (.one ix) (io (ln g.st.len (by decide)))) (.two (aa (.one ix) (io (ln g.en.len (by decide)))) (aa (.one ix) (io (ln g.len (by decide)))))))
 exact hv (fun xs=>cf.p 14 xs fun y=>K y) (Fp s0 s1 s2 R st en ws _ g h)
def AG {w u:W} (h:w.v=u.v):w=u:=by
 have h:w.l=u.l:=PyData.tuple.inj h;have Hi:kOn≠a6:=by decide
 have ne2:kOn≠aE:=by decide
 have ne3:a6≠aE:=by decide
 have tx:∀ {a b:Nat},text [a]=text [b]->a=b:=fun e=>(zA5 (congrArg (fun s:Str=>s.cps.toList) (PyData.str.inj e))).1;cases w <;> cases u <;> (first | (injection h with h0 h; exact absurd (PyData.str.inj h0) (by first | exact Hi | exact ne2 | exact ne3 | exact Hi.symm | exact ne2.symm | exact ne3.symm)) | skip)
 ·injection h with h0 h; injection h with h1 h; injection h with h2 h; injection h with h3 h
  rw [PyData.int.inj h1,tx h2,PyData.int.inj h3]
 ·injection h with h0 h; injection h with h1 h; injection h with h2 h; injection h with h3 h; injection h with h4 h
  rw [PyData.int.inj h1,tx h2,PyData.int.inj h3,PyData.int.inj h4]
 ·injection h with h0 h; injection h with h1 h; injection h with h2 h; injection h with h3 h; injection h with h4 h
  rw [PyData.int.inj h1,PyData.int.inj h2,tx h3,PyData.int.inj h4]
noncomputable def ofV (s0 s1 s2:List Nat) (R:Int) (st en:List Int) (r:List V):V:=p5V (sg s0 s1 s2) (.int R) (az st) (az en) (.list r)
def S35 (cf:CallF):Prop:=∀ s0 s1 s2 R st en r (K:V->Prop),st.length<=40->en.length<=40->r.length<=4000->K (ofV s0 s1 s2 R st en r)->cf.p 35 [aB (sg s0 s1 s2) R st en r] K
def p35 (cf:CallF) (me:MethOk cf):S35 (step cf):=fun s0 s1 s2 R st en r K l1 l2 l3 h=>run (fn:=f35) rfl rfl rfl (aX (v:=ofV s0 s1 s2 R st en r) (aa (.cons (ji me ix) (.cons (uR me ix) (.cons (lI me ix l1) (.two (y0 me ix l2) (pd me ix l3))))) rfl) h)
noncomputable def mOf (c s:Int) (i:Nat):Nat:=((c+s * (0+(i:Int))).fmod 26).toNat
noncomputable def qu (c s:Int) (n:Nat):List Nat:=(List.range n).map fun i=>97+mOf c s i
def ve (c s:Int) (i:Nat):mOf c s i < 26:=by
 have h1:=cB (c+s * (0+(i:Int))) (b:=26) (by decide);have h2:=fV (c+s * (0+(i:Int))) (b:=26) (by decide);unfold mOf; exact (toNat_lt h1).mpr (Int.lt_of_lt_of_le h2 (by decide))
def vD:∀ m,m < 26->abc.cps.toList[m]?=some (97+m)/\low (97+m)=true:=by decide
def rX (c:Int) (hn:n<=12):(qu c 5 n).Nodup:=by
 refine pairwise_map.mpr (Pairwise.imp_of_mem (fun {i j} mi mj Cm e=>?_) (List.pairwise_lt_range (n:=n)));have hj:=mem_range.mp mj;have e:mOf c 5 i=mOf c 5 j:=Nat.add_left_cancel e;unfold mOf at e;have e:(c+5 * (0+(j:Int))).fmod 26=(c+5 * (0+(i:Int))).fmod 26:=by
  rw [<- toNat_of_nonneg (cB (c+5 * (0+(j:Int))) (b:=26) (by decide)),<- e,toNat_of_nonneg (cB _ (by decide))]
 rw [Int.fmod_eq_emod_of_nonneg _ (by decide),Int.fmod_eq_emod_of_nonneg _ (by decide)] at e;omega
def wh (c s:Int) (n:Nat):∀ x∈qu c s n,low x=true:=fun x m=>by
 obtain ⟨i,_,rfl⟩:=zA7 m;exact (vD _ (ve c s i)).2
theorem qm:∀ l:List Nat,fw (l.map fun c=>text [c])=some (l.map fun c=>[c])
 | []=>rfl
 | c :: r=>by unfold fw; rw [map_cons,mapM_cons]; refine (?_:(fw (r.map fun c=>text [c])).bind _=_); rw [qm r]; rfl
theorem j3:∀ l:List Nat,gM [] (l.map fun c=>[c])=l
 | []=>rfl
 | [c]=>rfl
 | c :: d :: r=>congrArg (c :: ·) (j3 (d :: r))
theorem mN:∀ l:List Nat,((l.map fun c=>[c]).map List.length).sum=l.length
 | []=>rfl
 | c :: r=>by rw [map_cons,map_cons,sum_cons,mN r,zB4]; exact add_comm _ _
def tf (ha:Val cf G a (.list (l.map fun c=>text [c]))) (hz:l.length<=5000):Val cf G (.nd .join [ss k0,a]) (text l):=fun K h=>by
 refine ⟨rfl,ha _ (ad (z:=text l) ?_ h)⟩;refine (?_:(fw (l.map fun c=>text [c])).bind _=_);rw [qm]
 show (if _ then some (text (gM [] (l.map fun c=>[c]))) else none)=_
 rw [j3];exact if_pos (by rw [mN]; exact bU (by refine (?_:l.length+_ * 0<=5000); rw [Nat.mul_zero]; exact hz))
def rOk_of (h0:0<=n) (h:n<=1000):rOk n=true:=Nat.ble_eq_true_of_le (ofNat_le.mp (by rw [Int.natAbs_of_nonneg h0]; exact le_trans h (by decide)))
def jN:(bw 0 n).length=n.toNat:=by unfold bw; rw [zA4,length_range,Int.sub_zero]
def wx (h0:0<=n) (h:n<=1000):opN .range [.int n]=some (.list (bw 0 n)):=(if_pos ⟨rfl,rOk_of h0 h⟩).trans (if_pos (bU (by rw [jN]; exact toNat_le.mpr (le_trans h (by decide)))))
def d6 (h:n<=1000):bM (.list (bw 0 n))=some (bw 0 n):=aY (by rw [jN]; exact toNat_le.mpr (le_trans h (by decide)))
def fA (n:Int):bw 0 n=(List.range n.toNat).map fun i:Nat=>.int (0+(i:Int)):=by unfold bw; rw [Int.sub_zero]
def dZ (h:Val cf G e (.int n)) (h0:0<=n) (hz:n<=1000):Val cf G (.nd .range [e]) (.list (bw 0 n)):=aa (.one h) (wx h0 hz)
noncomputable def lP (n:Nat) (p:Nat->Bool):List Int:=((List.range n).filter p).map fun i:Nat=>0+(i:Int)
def tK (h:R<=4):RoomsOk R (lP R.toNat p) where
 len:=by
  unfold lP;rw [zA4];have:=List.length_filter_le p (List.range R.toNat);rw [length_range] at this;exact zB1 this (toNat_le.mpr (le_trans h (by decide)))
 nodup:=pairwise_map.mpr ((nodup_range.filter p).imp fun h e=>h (by rw [Int.zero_add,Int.zero_add] at e; exact ofNat.inj e))
 rooms:=fun i m=>by
  obtain ⟨j,mj,rfl⟩:=zA7 m;have:=mem_range.mp (mem_filter.mp mj).1;exact ⟨Int.add_nonneg (Int.le_refl _) (natCast_nonneg _),by rw [Int.zero_add]; exact lt_toNat.mp this⟩
def rI (h:Val cf G e (.int R)) (h0:0<=R) (h1:R<=4) (ht:∀ i:Nat,(i:Int) < R->Val cf (G.set k (.v (.int (0+(i:Int))))) t (.bool (p i))) (hv:∀ i:Nat,Val cf (G.set k (.v (.int (0+(i:Int))))) (vv k) (.int (0+(i:Int)))) :
  Val cf G (.nd (.comp k) [.nd .range [e],vv k,t]) (az (lP R.toNat p)):=by
 have q:=iU (k:=k) (e:=vv k) (ts:=[t]) (p:=p) (f:=fun i:Nat=>.int (0+(i:Int))) (dZ h h0 (by exact le_trans h1 (by decide))) ((d6 (by exact le_trans h1 (by decide))).trans (congrArg some (fA R))) (fun i m=>bA.one (ht i (lt_toNat.mp (mem_range.mp m)))) fun i m U=>hv i;unfold az lP;rw [map_map];exact q
def wj (c s:Int) (n:Nat):(qu c s n).length=n:=by unfold qu; rw [zA4,length_range]
def v5 {c:Int} {n k:Nat} {e t:E} (hn:n<=12) (C8:Val cf G e (.int n)) (ht:∀ i:Nat,Val cf (G.set k (.v (.int (0+(i:Int))))) t (text [97+mOf c 5 i])):Val cf G (.nd .join [ss k0,.nd (.comp k) [.nd .range [e],t]]) (text (qu c 5 n)):=by
 refine tf ?_ (by rw [wj]; exact zB1 hn (by decide));have Dr:(n:Int)<=1000:=by omega
 have q:=d4 (k:=k) (f:=fun i:Nat=>text [97+mOf c 5 i]) (dZ C8 (natCast_nonneg n) Dr) ((d6 Dr).trans (congrArg some (fA n))) (e:=t) fun i m=>ht i;unfold qu;rw [map_map];exact q
noncomputable def W.k:W->W
 | .on a c _=>.on a c 0
 | .op a c _ _=>.op a c 0 0
 | .cl a b c _=>.cl a b c 0
noncomputable def keysR (R:Nat) (s0 s1 s2:List Nat) (r:Nat):List W:=s2.map (fun c=>.on (0+(r:Int)) c 0)++s0.map (fun c=>.op (0+(r:Int)) c 0 0)++(List.range R).flatMap fun k=>s1.map fun c=>.cl (0+(r:Int)) (0+(k:Int)) c 0
noncomputable def keysL (R:Nat) (s0 s1 s2:List Nat):List W:=(List.range R).flatMap (keysR R s0 s1 s2)
structure FullW (s0 s1 s2:List Nat) (R:Int) (ws:List W):Prop where
 keys:ws.map W.k=keysL R.toNat s0 s1 s2
 ok:∀ w∈ws,W.ok s0 s1 s2 R w
 len:ws.length < 58
noncomputable def g30 (scr:List Int) (p:Int) (s0 s1 s2:List Nat) (R:Int) (cs:List Int) (ws:List W) (s6 s7 s8 s9 s10 s11:Slot):Gs:=[.v (mR scr),.v (.int p),.v (sg s0 s1 s2),.v (.int R),.v (.list (cs.map .int)),.ownL (ws.map W.v),s6,s7,s8,s9,s10,s11]
section
variable {cf:CallF} {scr cs:List Int} {p R:Int} {s0 s1 s2:List Nat} {ws:List W} {s6 s7 s8 s9 s10 s11:Slot} {r:List S} {K:Option V->Gs->Prop}
def iK (hc:cs.length=60) (hl:ws.length < 58):Val cf (g30 scr p s0 s1 s2 R cs ws s6 s7 s8 s9 s10 s11) (.nd .peek [sbE (vv 4) (lnE (vv 5))]) (.int (cs.getD ws.length 0)):=by
 have CP:(ws.map W.v).length<=5000:=by rw [zA4]; exact zB1 (le_of_lt hl) (by decide)
 have e:opN .len [.list (ws.map W.v)]=some (.int ws.length):=by have:=lR CP; rwa [zA4] at this
 refine aF (aa (vs:=[.list (cs.map .int),.int ws.length]) (.two ix (aa (vs:=[.list (ws.map W.v)]) (.one ix) e)) (gR (by rw [zA4,hc]; decide) (natCast_nonneg _) ?_)) rfl;have h60:ws.length < cs.length:=by rw [hc]; exact lt_trans hl (by decide)
 rw [Int.toNat_natCast,Jc,J9 h60,getD_eq_getElem?_getD,J9 h60]; rfl
def oL (x:Int) (h:1<=R):In R (x.fmod R):=⟨cB x (Int.lt_of_lt_of_le (by decide) h),fV x (Int.lt_of_lt_of_le (by decide) h)⟩
def i8 {s:List Nat} {f:Nat->W} {rest KL:List W} {e t:E} (hs:s.length<=4) (he:Val cf (g30 scr p s0 s1 s2 R cs ws s6 s7 s8 s9 s10 s11) e (text s)) (E6:KL.length < 58)
  (mk:∀ c∈s,∀ us:List W,us.length < 58->∃ w,W.ok s0 s1 s2 R w/\W.k w=f c/\Val cf (g30 scr p s0 s1 s2 R cs us s6 (.v (text [c])) s8 s9 s10 s11) t w.v)
  (h0:ws.map W.k++(s.map f++rest)=KL) (ok:∀ w∈ws,W.ok s0 s1 s2 R w)
  (n:∀ us s7,us.map W.k++rest=KL->(∀ w∈us,W.ok s0 s1 s2 R w)->exs cf r (g30 scr p s0 s1 s2 R cs us s6 s7 s8 s9 s10 s11) K) :
  exs cf (.mk (.forS 7) [e] [.mk (.append 5) [t] [] []] [] :: r) (g30 scr p s0 s1 s2 R cs ws s6 s7 s8 s9 s10 s11) K:=by
 refine lG (xs:=bL s) (P:=fun l G=>∃ (B9:List Nat) (us:List W) (t7:Slot),l=bL B9/\G=g30 scr p s0 s1 s2 R cs us s6 t7 s8 s9 s10 s11/\(∀ c∈B9,c∈s)/\us.map W.k++(B9.map f++rest)=KL/\∀ w∈us,W.ok s0 s1 s2 R w) he (iW (zB1 hs (by decide))) ⟨s,ws,s7,rfl,rfl,fun U m=>m,h0,ok⟩ ?_ ?_
 ·rintro G ⟨B9,us,t7,e,rfl,_,h,ok⟩;obtain rfl:B9=[]:=map_eq_nil_iff.mp e.symm;exact n us t7 h ok
 ·rintro x l G Kt ⟨B9,us,t7,e,rfl,sub,h,ok⟩ nx _;cases B9 with
  | nil=>exact nomatch e
  | cons c B9=>
   obtain ⟨rfl,rfl⟩:=zA5 e;have hl:us.length < 58:=by
    have:=congrArg List.length h;rw [zB5,zA4] at this;exact J5 (Nat.le_of_add_right_le (zB2 this)) E6
   obtain ⟨w,wo,wk,wv⟩:=mk c (sub c (.head _)) us hl;refine da (l:=us.map W.v) rfl wv (by rw [zA4]; exact J6 hl (by decide)) (aM (nx _ ⟨B9,us++[w],.v (text [c]),rfl,?_,fun d m=>sub d (.tail _ m),?_,fun u m=>?_⟩))
   ·unfold g30; rw [map_append]; rfl
   ·rw [map_append,append_assoc,<- h];refine congrArg (us.map W.k++·) ?_;refine (?_:W.k w :: _=f c :: _);rw [wk]; rfl
   ·rcases mem_append.mp m with m | m
    ·exact ok u m
    ·obtain rfl:=zA6 m; exact wo
end
section
variable {cf:CallF} {G:Gs} {r body:List S} {K:Option V->Gs->Prop} {e:E} {k:Nat}
def pc {n:Int} {I:List Nat->Gs->Prop} (he:Val cf G e (.int n)) (h0:0<=n) (hn:n<=1000) (hI:I (List.range n.toNat) G) (done:∀ G,I [] G->exs cf r G K)
  (turn:∀ (i:Nat) l G Kt,(i:Int) < n->I (i :: l) G->(∀ G',I l G'->Kt none G')->(∀ y G',K (some y) G'->Kt (some y) G')->exs cf body (G.set k (.v (.int (0+(i:Int))))) Kt):exs cf (.mk (.forS k) [.nd .range [e]] body [] :: r) G K:=by
 refine lG (P:=fun l G=>∃ B9:List Nat,l=B9.map (fun i:Nat=>.int (0+(i:Int)))/\(∀ i∈B9,(i:Int) < n)/\I B9 G) (dZ he h0 hn) ((d6 hn).trans (congrArg some (fA n))) ⟨_,rfl,fun i m=>lt_toNat.mp (mem_range.mp m),hI⟩ ?_ ?_
 ·rintro G ⟨B9,e,_,h⟩;obtain rfl:B9=[]:=map_eq_nil_iff.mp e.symm;exact done G h
 ·rintro x l G Kt ⟨B9,e,lt,h⟩ nx rt;cases B9 with
  | nil=>exact nomatch e
  | cons i B9=>
   obtain ⟨rfl,rfl⟩:=zA5 e;exact turn i B9 G Kt (lt i (.head _)) h (fun G' q=>nx G' ⟨B9,rfl,fun j m=>lt j (.tail _ m),q⟩) rt
end
section
variable {cf:CallF} {scr cs:List Int} {p R:Int} {s0 s1 s2:List Nat} {ws:List W} {s6 s7 s8 s9 s10 s11:Slot} {r:List S} {K:Option V->Gs->Prop}
def l4 {i:Nat} (h:(i:Int) < R):In R (0+(i:Int)):=by rw [Int.zero_add]; exact ⟨natCast_nonneg i,h⟩
def uL (hc:cs.length=60) (hl:ws.length < 58):Val cf (g30 scr p s0 s1 s2 R cs ws s6 s7 s8 s9 s10 s11) (fdE (.nd .peek [sbE (vv 4) (lnE (vv 5))]) (ii 4)) (.int ((cs.getD ws.length 0).fdiv 4)):=by
 generalize hx:cs.getD ws.length 0=x;have q:=iK (cf:=cf) (scr:=scr) (p:=p) (s0:=s0) (s1:=s1) (s2:=s2) (R:=R) (s6:=s6) (s7:=s7) (s8:=s8) (s9:=s9) (s10:=s10) (s11:=s11) hc hl;rw [hx] at q;have d:opN (.bin .FloorDiv) [.int x,.int 4]=some (.int (x.fdiv 4)):=lS (a:=x) (b:=4) (by decide) (by decide);exact aa (vs:=[.int x,.int 4]) (.two q ix) d
def xF {i:Nat} {rest KL:List W} (sk:SgOk s0 s1 s2) (hc:cs.length=60) (r1:1<=R) (r3:R<=3) (hi:(i:Int) < R) (E6:KL.length < 58)
  (h0:ws.map W.k++((List.range R.toNat).flatMap (fun k:Nat=>s1.map fun c=>.cl (0+(i:Int)) (0+(k:Int)) c 0)++rest)=KL) (ok:∀ w∈ws,W.ok s0 s1 s2 R w)
  (n:∀ us s7 s8,us.map W.k++rest=KL->(∀ w∈us,W.ok s0 s1 s2 R w)->exs cf r (g30 scr p s0 s1 s2 R cs us (.v (.int (0+(i:Int)))) s7 s8 s9 s10 s11) K) :
  exs cf (.mk (.forS 8) [.nd .range [vv 3]] yw [] :: r) (g30 scr p s0 s1 s2 R cs ws (.v (.int (0+(i:Int)))) s7 s8 s9 s10 s11) K:=by
 refine pc (n:=R) (I:=fun B9 G=>∃ us t7 t8,G=g30 scr p s0 s1 s2 R cs us (.v (.int (0+(i:Int)))) t7 t8 s9 s10 s11/\us.map W.k++(B9.flatMap (fun k:Nat=>s1.map fun c=>W.cl (0+(i:Int)) (0+(k:Int)) c 0)++rest)=KL/\∀ w∈us,W.ok s0 s1 s2 R w) ix (le_trans (by decide) r1) (le_trans r3 (by decide)) ⟨ws,s7,s8,rfl,h0,ok⟩ ?_ ?_
 ·rintro G ⟨us,t7,t8,rfl,h,ok⟩; exact n us t7 t8 h ok
 ·rintro j l G Kt hj ⟨us,t7,t8,rfl,h,ok⟩ nx _;refine i8 (s8:=.v (.int (0+(j:Int)))) (f:=fun c=>.cl (0+(i:Int)) (0+(j:Int)) c 0) (rest:=l.flatMap (fun k:Nat=>s1.map fun c=>W.cl (0+(i:Int)) (0+(k:Int)) c 0)++rest) sk.lb ix E6 (fun c m us hl=>?_) ?_ ok fun us t7 h ok=>aM (nx _ ⟨us,t7,_,rfl,h,ok⟩)
  ·exact ⟨.cl (0+(i:Int)) (0+(j:Int)) c ((cs.getD us.length 0).fmod R),⟨l4 hi,l4 hj,m,oL _ r1⟩,rfl,aa (vs:=[.str aE,.int (0+(i:Int)),.int (0+(j:Int)),text [c],.int ((cs.getD us.length 0).fmod R)]) (.cons ix (.cons ix (.cons ix (.two ix (aa (vs:=[.int (cs.getD us.length 0),.int R]) (.two (iK hc hl) ix) (dD (Int.lt_of_lt_of_le (by decide) r1))))))) rfl⟩
  ·rw [flatMap_cons,append_assoc] at h; exact h
set_option maxHeartbeats 4000000 in
def rY {KL:List W} (sk:SgOk s0 s1 s2) (hc:cs.length=60) (r1:1<=R) (r3:R<=3) (E6:KL.length < 58) (h0:KL=keysL R.toNat s0 s1 s2)
  (n:∀ us s6 s7 s8,us.map W.k=KL->(∀ w∈us,W.ok s0 s1 s2 R w)->exs cf r (g30 scr p s0 s1 s2 R cs us s6 s7 s8 s9 s10 s11) K) :
  exs cf (.mk (.forS 6) [.nd .range [vv 3]] yu [] :: r) (g30 scr p s0 s1 s2 R cs [] s6 s7 s8 s9 s10 s11) K:=by
 refine pc (n:=R) (I:=fun B9 G=>∃ us t6 t7 t8,G=g30 scr p s0 s1 s2 R cs us t6 t7 t8 s9 s10 s11/\us.map W.k++B9.flatMap (keysR R.toNat s0 s1 s2)=KL/\∀ w∈us,W.ok s0 s1 s2 R w) ix (le_trans (by decide) r1) (le_trans r3 (by decide)) ⟨[],s6,s7,s8,rfl,h0.symm,fun U m=>nM m⟩ ?_ ?_
 ·rintro G ⟨us,t6,t7,t8,rfl,h,ok⟩; exact n us t6 t7 t8 (by rw [<- h]; exact (append_nil _).symm) ok
 ·rintro i l G Kt hi ⟨us,t6,t7,t8,rfl,h,ok⟩ nx _;rw [flatMap_cons] at h;generalize hL:l.flatMap (keysR R.toNat s0 s1 s2)=L at h;unfold keysR at h;simp only [append_assoc] at h;refine i8 (s6:=.v (.int (0+(i:Int)))) (f:=fun c=>.on (0+(i:Int)) c 0) sk.lc ix E6 (fun c m us hl=>?_) h ok fun us t7 h ok=>?_
  ·exact ⟨.on (0+(i:Int)) c ((cs.getD us.length 0).fmod R),⟨l4 hi,m,oL _ r1⟩,rfl,aa (vs:=[.str kOn,.int (0+(i:Int)),text [c],.int ((cs.getD us.length 0).fmod R)]) (.cons ix (.cons ix (.two ix (aa (vs:=[.int (cs.getD us.length 0),.int R]) (.two (iK hc hl) ix) (dD (Int.lt_of_lt_of_le (by decide) r1)))))) rfl⟩
  refine i8 (s6:=.v (.int (0+(i:Int)))) (f:=fun c=>.op (0+(i:Int)) c 0 0) sk.la ix E6 (fun c m us hl=>?_) h ok fun us t7 h ok=>?_
  ·exact ⟨.op (0+(i:Int)) c ((cs.getD us.length 0).fmod R) (((cs.getD us.length 0).fdiv 4).fmod R),⟨l4 hi,m,oL _ r1,oL _ r1⟩,rfl,aa (vs:=[.str a6,.int (0+(i:Int)),text [c],.int ((cs.getD us.length 0).fmod R),.int (((cs.getD us.length 0).fdiv 4).fmod R)]) (.cons ix (.cons ix (.cons ix (.two (aa (vs:=[.int (cs.getD us.length 0),.int R]) (.two (iK hc hl) ix) (dD (Int.lt_of_lt_of_le (by decide) r1))) (aa (vs:=[.int ((cs.getD us.length 0).fdiv 4),.int R]) (.two (uL hc hl) ix) (dD (Int.lt_of_lt_of_le (by decide) r1))))))) rfl⟩
  exact xF sk hc r1 r3 hi E6 h ok fun us t7 t8 h ok=>aM (nx _ ⟨us,_,t7,t8,rfl,hL▸h,ok⟩)
end
def j2 {R:Int} {s0 s1 s2:List Nat} (r1:1<=R) (r3:R<=3) (l0:s0.length<=2) (l1:s1.length<=2) (l2:s2.length<=2):(keysL R.toNat s0 s1 s2).length < 58:=by
 have:R.toNat=1\/R.toNat=2\/R.toNat=3:=by omega
 rcases this with e | e | e <;> rw [e] <;> simp [keysL,keysR,List.range_succ] <;> omega
def S30 (cf:CallF):Prop:=∀ scr (p:Int) s0 s1 s2 R K,scr.length<=63->0<=p->SgOk s0 s1 s2->s0.length<=2->s1.length<=2->s2.length<=2->1<=R->R<=3->(∀ i0 en ws,In R i0->RoomsOk R en->FullW s0 s1 s2 R ws->K (aS (sg s0 s1 s2) R [i0] en ws))->cf.p 30 [mR scr,.int p,sg s0 s1 s2,.int R] K
set_option maxHeartbeats 4000000 in
def p30 (cf:CallF) (h20:S20 cf) (h21:S21 cf):S30 (step cf):=fun scr p s0 s1 s2 R K hs hp sk l0 l1 l2 r1 r3 h=>by
 refine run (fn:=f30) rfl rfl rfl ?_;have hR:0 < R:=Int.lt_of_lt_of_le (by decide) r1;have q60:(60:Int)<=1000:=by decide
 refine am (v:=.list (((List.range 60).map fun i:Nat=>Ap (bp scr (p+(0+(i:Int)).fmod 9)) (0+(i:Int))).map .int)) ?_ (pb ?_)
 ·rw [map_map];refine d4 (k:=10) (dZ (n:=60) ix (by decide) q60) ((d6 q60).trans (congrArg some (fA 60))) fun i m=>?_;refine aD (vs:=[.int (bp scr (p+(0+(i:Int)).fmod 9)),.int (0+(i:Int))]) (.two (aD (vs:=[mR scr,.int (p+(0+(i:Int)).fmod 9)]) (.two ix (aa (.two ix (aa (.two ix ix) (dD (by decide)))) rfl)) fun K h=>h20 scr _ K hs (Int.add_nonneg hp (cB _ (by decide))) h) ix) fun K h=>h21 _ _ K h
 generalize GP:((List.range 60).map fun i:Nat=>Ap (bp scr (p+(0+(i:Int)).fmod 9)) (0+(i:Int)))=cs;have hc:cs.length=60:=by rw [<- GP,zA4,length_range]
 have cv:∀ i,i < 60->(cs.map PyData.int)[i]?=some (.int (cs.getD i 0)):=fun i hi=>by
  rw [<- hc] at hi;rw [Jc,J9 hi,getD_eq_getElem?_getD,J9 hi]; rfl
 have hcz:(cs.map PyData.int).length<=5000:=by rw [zA4,hc]; decide
 refine rY (cs:=cs) (s9:=.unset) (s10:=.unset) (s11:=.unset) sk hc r1 r3 (j2 r1 r3 l0 l1 l2) rfl fun us t6 t7 t8 hk ok=>?_;refine am (v:=az (lP R.toNat fun i=>decide (((cs.getD 59 0).fdiv (0+(i:Int)+3)).fmod 2=0))) (rI ix (Int.le_of_lt hR) (le_trans r3 (by decide)) (fun i hi=>?_) fun i=>ix) (dL (l:=us.map W.v) rfl (aX (v:=aS (sg s0 s1 s2) R [(cs.getD 58 0).fmod R] (lP R.toNat fun i=>decide (((cs.getD 59 0).fdiv (0+(i:Int)+3)).fmod 2=0)) us) (aa (.cons ix (.cons ix (.cons (aa (.one (aa (.two (aa (.two ix ix) (gR hcz (by decide) (cv 58 (by decide)))) ix) (dD hR))) rfl) (.two ix ix)))) rfl) (h _ _ us (oL _ r1) (tK (le_trans r3 (by decide))) ⟨hk,ok,?_⟩)))
 ·have d1:0 < 0+(i:Int)+3:=by omega
  have d2:0+(i:Int)+3<=1000000:=by omega
  exact ao (aa (.two (aa (.two (aa (.two ix ix) (gR hcz (by decide) (cv 59 (by decide)))) (aa (.two ix ix) rfl)) (lS d1 d2)) ix) (dD (by decide))) ix BG
 ·have:=congrArg List.length hk;rw [zA4] at this;rw [this]; exact j2 r1 r3 l0 l1 l2
section
variable {d:List (V×V)} {x y v:V}
def pL (hd:dkV d=true) (m:p∈d):aJ p.1=true:=Jb.mp hd p m
def xJ (hd:dkV d=true) (hy:aJ y=true):(d.any fun p=>PyData.eqv p.1 y)=true ↔ y∈d.map (·.1):=by
 rw [any_eq_true,mem_map];exact ⟨fun ⟨p,m,e⟩=>⟨p,m,(bg p.1 y (pL hd m) hy).mp e⟩,fun ⟨p,m,e⟩=>⟨p,m,(bg p.1 y (pL hd m) hy).mpr e⟩⟩
def put_new (hd:dkV d=true) (hy:aJ y=true) (n:y∉d.map (·.1)):cE d y v=d++[(y,v)]:=if_neg fun q=>n ((xJ hd hy).mp q)
open Classical in
open Classical in
end
noncomputable def W.kv:W->V
 | .on a c _=>.tuple [.str kOn,.int a,text [c]]
 | .op a c _ _=>.tuple [.str a6,.int a,text [c]]
 | .cl a b c _=>.tuple [.str aE,.int a,.int b,text [c]]
noncomputable def W.go:W->V
 | .on _ _ b=>.int b
 | .op _ _ b t=>.tuple [.int b,.int t]
 | .cl _ _ _ t=>.int t
noncomputable def W.to:W->V
 | .on _ _ b=>.tuple [.int b]
 | .op _ _ b t=>.tuple [.int b,.int t]
 | .cl _ _ _ t=>.int t
noncomputable def goD (us:List W):List (V×V):=us.map fun w=>(w.kv,w.go)
noncomputable def toD (us:List W):List (V×V):=us.map fun w=>(w.kv,w.to)
def vN (h:aG x=true):lvV 3 x=true:=by
 cases x with
 | int=>exact h
 | str=>exact h
 | _=>exact nB h
def cG (sk:SgOk s0 s1 s2) (ok:W.ok s0 s1 s2 R w):aJ w.kv=true:=by
 have h:=dN sk ok;cases w with
 | on a c b=>exact Jb.mpr fun x m=>vN (h x (mem_of_mem_take (i:=3) m))
 | op a c b t=>exact Jb.mpr fun x m=>vN (h x (mem_of_mem_take (i:=3) m))
 | cl a b c t=>exact Jb.mpr fun x m=>vN (h x (mem_of_mem_take (i:=4) m))
def pI (sk:SgOk s0 s1 s2) (ok:∀ w∈us,W.ok s0 s1 s2 R w):dkV (goD us)=true:=Jb.mpr fun p m=>by
 obtain ⟨w,mw,rfl⟩:=zA7 m; exact cG sk (ok w mw)
def pf (sk:SgOk s0 s1 s2) (ok:∀ w∈us,W.ok s0 s1 s2 R w):dkV (toD us)=true:=Jb.mpr fun p m=>by
 obtain ⟨w,mw,rfl⟩:=zA7 m; exact cG sk (ok w mw)
def zS (sk:SgOk s0 s1 s2) (ok:∀ u∈us,W.ok s0 s1 s2 R u) (wo:W.ok s0 s1 s2 R w) (nd:((us++w :: vs).map W.kv).Nodup):cE (goD us) w.kv w.go=goD (us++[w]):=by
 rw [put_new (pI sk ok) (cG sk wo),goD,goD,map_append]; rfl;rw [goD,map_map];rw [map_append] at nd;exact fun m=>(nodup_append.mp nd).2.2 _ m _ (.head _) rfl
def y4 (sk:SgOk s0 s1 s2) (ok:∀ u∈us,W.ok s0 s1 s2 R u) (wo:W.ok s0 s1 s2 R w) (nd:((us++w :: vs).map W.kv).Nodup):cE (toD us) w.kv w.to=toD (us++[w]):=by
 rw [put_new (pf sk ok) (cG sk wo),toD,toD,map_append]; rfl;rw [toD,map_map];rw [map_append] at nd;exact fun m=>(nodup_append.mp nd).2.2 _ m _ (.head _) rfl
def S32 (cf:CallF):Prop:=∀ s0 s1 s2 R st en us K,SgOk s0 s1 s2->(∀ w∈us,W.ok s0 s1 s2 R w)->(us.map W.kv).Nodup->us.length < 58->K (.dict (toD us))->cf.p 32 [aS (sg s0 s1 s2) R st en us] K
def p32 (cf:CallF):S32 (step cf):=fun s0 s1 s2 R st en us K sk ok nd hl h=>by
 refine run (fn:=f32) rfl rfl rfl (o9 ?_);have hz:(us.map W.v).length<=5000:=by rw [zA4]; exact zB1 (le_of_lt hl) (by decide)
 refine lG (xs:=us.map W.v) (v:=g7 us) (P:=fun l G=>∃ (vs ds:List W) (t:Slot),l=vs.map W.v/\G=[.v (aS (sg s0 s1 s2) R st en us),.ownD (toD ds),t]/\ds++vs=us) ix (aY hz) ⟨us,[],_,rfl,rfl,rfl⟩ ?_ ?_
 ·rintro G ⟨vs,ds,t,e,rfl,e'⟩;obtain rfl:vs=[]:=map_eq_nil_iff.mp e.symm;rw [append_nil] at e';subst e';exact dY (l:=toD ds) rfl (aX (v:=.dict (toD ds)) ix h)
 ·rintro x l G Kt ⟨vs,ds,t,e,rfl,e'⟩ nx _;cases vs with
  | nil=>exact nomatch e
  | cons w vs=>
   obtain ⟨rfl,rfl⟩:=zA5 e;have od:∀ u∈ds,W.ok s0 s1 s2 R u:=fun u m=>ok u (by rw [<- e']; exact mem_append_left _ m);have wo:=ok w (by rw [<- e']; exact mem_append_right _ (.head _));have dz:(toD ds).length < ac:=by
    refine J5 (?_:_<=us.length) (J6 hl (by decide));rw [toD,zA4,<- e',zB5]; exact le_add_right _ _
   have pt:=y4 sk od wo (by rw [e']; exact nd);have fin:∀ t,Kt none [.v (aS (sg s0 s1 s2) R st en us),.ownD (cE (toD ds) w.kv w.to),t]:=fun t=>nx _ ⟨vs,ds++[w],t,rfl,by rw [pt],by rw [append_assoc]; exact e'⟩;have kk:=cG sk wo;cases w with
   | on a c b=>exact gT (t:=false) (bj (s:=kOn) (aa (.two ix ix) rfl) ok_on ok_close rfl) (fun q=>nB q) fun U=>eB (l:=toD ds) rfl (v:=.tuple [.int b]) (aa (.two ix ix) rfl) (x:=W.kv (.on a c b)) (aa (.two ix ix) rfl) kk dz (aM (fin _))
   | op a c b t=>exact gT (t:=false) (bj (s:=a6) (aa (.two ix ix) rfl) ok_open ok_close rfl) (fun q=>nB q) fun U=>eB (l:=toD ds) rfl (v:=.tuple [.int b,.int t]) (aa (.two ix ix) rfl) (x:=W.kv (.op a c b t)) (aa (.two ix ix) rfl) kk dz (aM (fin _))
   | cl a b c t=>exact gT (t:=true) (bj (s:=aE) (aa (.two ix ix) rfl) ok_close ok_close rfl) (fun U=>eB (l:=toD ds) rfl (v:=.int t) (aa (.two ix ix) rfl) (x:=W.kv (.cl a b c t)) (aa (.two ix ix) rfl) kk dz (aM (fin _))) fun q=>nB q.symm
def BM (hf:fns[f]?=some fn) (hi:fn.kind=.jun) (hl:args.length+1=fn.npar) (h:exs cf fn.body (.junk :: (args.map .v++replicate (fn.nslots - fn.npar) .unset)) fun fl U=>K (fl.getD .none)):(step cf).j f args K:=by
 refine ad (o:=fns[f]?) hf ?_;rw [hi];exact ⟨hl,h⟩
def S5 (cf:CallF):Prop:=∀ s0 s1 s2 R st en us K,SgOk s0 s1 s2->(∀ w∈us,W.ok s0 s1 s2 R w)->(us.map W.kv).Nodup->us.length < 58->K (.dict (goD us))->cf.j 5 [aB (sg s0 s1 s2) R st en (us.map W.v)] K
def p5 (cf:CallF) (me:MethOk cf):S5 (step cf):=fun s0 s1 s2 R st en us K sk ok nd hl h=>by
 refine BM (fn:=f5) rfl rfl rfl (o9 ?_);have hz:(us.map W.v).length<=5000:=by rw [zA4]; exact zB1 (le_of_lt hl) (by decide)
 refine lG (xs:=us.map W.v) (v:=.list (us.map W.v)) (P:=fun l G=>∃ (vs ds:List W) (t:Slot),l=vs.map W.v/\G=[.junk,.v (aB (sg s0 s1 s2) R st en (us.map W.v)),.ownD (goD ds),t]/\ds++vs=us) (pd me (st:=st) (en:=en) ix (by rw [zA4]; exact zB1 (le_of_lt hl) (by decide))) (aY hz) ⟨us,[],_,rfl,rfl,rfl⟩ ?_ ?_
 ·rintro G ⟨vs,ds,t,e,rfl,e'⟩;obtain rfl:vs=[]:=map_eq_nil_iff.mp e.symm;rw [append_nil] at e';subst e';exact dY (l:=goD ds) rfl (aX (v:=.dict (goD ds)) ix h)
 ·rintro x l G Kt ⟨vs,ds,t,e,rfl,e'⟩ nx _;cases vs with
  | nil=>exact nomatch e
  | cons w vs=>
   obtain ⟨rfl,rfl⟩:=zA5 e;have od:∀ u∈ds,W.ok s0 s1 s2 R u:=fun u m=>ok u (by rw [<- e']; exact mem_append_left _ m);have wo:=ok w (by rw [<- e']; exact mem_append_right _ (.head _));have dz:(goD ds).length < ac:=by
    refine J5 (?_:_<=us.length) (J6 hl (by decide));rw [goD,zA4,<- e',zB5]; exact le_add_right _ _
   have pt:=zS sk od wo (by rw [e']; exact nd);have fin:∀ t,Kt none [.junk,.v (aB (sg s0 s1 s2) R st en (us.map W.v)),.ownD (cE (goD ds) w.kv w.go),t]:=fun t=>nx _ ⟨vs,ds++[w],t,rfl,by rw [pt],by rw [append_assoc]; exact e'⟩;have kk:=cG sk wo;cases w with
   | on a c b=>exact gT (t:=true) (bj (s:=kOn) (aa (.two ix ix) rfl) ok_on ok_on rfl) (fun U=>eB (l:=goD ds) rfl (v:=.int b) (aa (.two ix ix) rfl) (x:=W.kv (.on a c b)) (aa (.two ix ix) rfl) kk dz (aM (fin _))) fun q=>nB q.symm
   | op a c b t=>exact gT (t:=false) (bj (s:=a6) (aa (.two ix ix) rfl) ok_open ok_on rfl) (fun q=>nB q) fun U=>gT (t:=true) (bj (s:=a6) (aa (.two ix ix) rfl) ok_open ok_open rfl) (fun U=>eB (l:=goD ds) rfl (v:=.tuple [.int b,.int t]) (aa (.two ix ix) rfl) (x:=W.kv (.op a c b t)) (aa (.two ix ix) rfl) kk dz (aM (fin _))) fun q=>nB q.symm
   | cl a b c t=>exact gT (t:=false) (bj (s:=aE) (aa (.two ix ix) rfl) ok_close ok_on rfl) (fun q=>nB q) fun U=>gT (t:=false) (bj (s:=aE) (aa (.two ix ix) rfl) ok_close ok_open rfl) (fun q=>nB q) fun U=>eB (l:=goD ds) rfl (v:=.int t) (aa (.two ix ix) rfl) (x:=W.kv (.cl a b c t)) (aa (.two ix ix) rfl) kk dz (aM (fin _))
noncomputable def jj (sv:V) (us vs:List W):V:=lZ 1 [sv,.list [.dict (goD us),.dict (goD vs)]]
def S4 (cf:CallF):Prop:=∀ s0 s1 s2 R R' st en B8 Ch us vs K,SgOk s0 s1 s2->(∀ w∈us,W.ok s0 s1 s2 R w)->(∀ w∈vs,W.ok s0 s1 s2 R' w)->(us.map W.kv).Nodup->(vs.map W.kv).Nodup->us.length < 58->vs.length < 58->K (jj (sg s0 s1 s2) us vs)->cf.p 4 [aB (sg s0 s1 s2) R st en (us.map W.v),aB (sg s0 s1 s2) R' B8 Ch (vs.map W.v)] K
def p4 (cf:CallF) (me:MethOk cf) (h5:S5 cf):S4 (step cf):=fun s0 s1 s2 R R' st en B8 Ch us vs K sk o1 o2 n1 n2 l1 l2 h=>by
 refine (?_:_/\exs cf f4.body [.ownI ⟨1,[]⟩,.v (aB (sg s0 s1 s2) R st en (us.map W.v)),.v (aB (sg s0 s1 s2) R' B8 Ch (vs.map W.v))] fun fl G=>fl=none/\okK (ia G 0) fun o=>o.c=1/\∃ l:List V,o.fs=l.map .val/\l.length=2/\K (lZ 1 l));refine ⟨rfl,cU (ob:=⟨1,[]⟩) (v:=sg s0 s1 s2) (ji me (st:=st) (en:=en) ix) rfl rfl ?_⟩;refine cU (ob:=⟨1,[.val (sg s0 s1 s2)]⟩) (v:=.list [.dict (goD us),.dict (goD vs)]) (aa (vs:=[.dict (goD us),.dict (goD vs)]) (.two ?_ ?_) rfl) rfl rfl (aM ⟨rfl,rfl,[_,_],rfl,rfl,h⟩)
 ·exact jJ (c:=1) (ob:=⟨1,[.val (sg s0 s1 s2)]⟩) rfl (.one ix) fun K h=>h5 _ _ _ _ _ _ _ K sk o1 n1 l1 h
 ·exact jJ (c:=1) (ob:=⟨1,[.val (sg s0 s1 s2)]⟩) rfl (.one ix) fun K h=>h5 _ _ _ _ _ _ _ K sk o2 n2 l2 h
theorem dP {g:W->V} (sk:SgOk s0 s1 s2):∀ {us:List W},(∀ w∈us,W.ok s0 s1 s2 R w)->(us.map W.kv).Nodup->∀ {w:W},w∈us->bP (us.map fun w=>(w.kv,g w)) w.kv=some (g w)
 | [],_,_,_,m=>nM m
 | u :: us,ok,nd,w,m=>by
  have nd:=nodup_cons.mp nd;unfold bP;rw [map_cons,find?_cons];have hu:=cG sk (ok u (.head _));have hw:=cG sk (ok w m);rcases mem_cons.mp m with rfl | m'
  ·rw [show PyData.eqv (w.kv,g w).1 w.kv=true from (bg w.kv w.kv hw hw).mpr rfl]; rfl
  ·rw [show PyData.eqv (u.kv,g u).1 w.kv=false from eq_false_iff.mpr fun z=>nd.1 (by rw [(bg u.kv w.kv hu hw).mp z]; exact mem_map.mpr ⟨w,m',rfl⟩)];exact dP sk (fun w m=>ok w (.tail _ m)) nd.2 m'
def fh {d:List (V×V)} (hd:dkV d=true) (hk:aJ y=true) (e:bP d y=some v):opN .sub [.dict d,y]=some v:=(if_pos (zA3 ⟨hd,hk⟩)).trans e
structure TwoW (s0 s1 s2:List Nat) (R R':Int) (us vs:List W):Prop where
 sk:SgOk s0 s1 s2
 o1:∀ w∈us,W.ok s0 s1 s2 R w
 o2:∀ w∈vs,W.ok s0 s1 s2 R' w
 n1:(us.map W.kv).Nodup
 n2:(vs.map W.kv).Nodup
 l1:us.length < 58
 l2:vs.length < 58
section
variable {s0 s1 s2:List Nat} {R R':Int} {us vs:List W}
theorem TwoW.sub1 (T:TwoW s0 s1 s2 R R' us vs) (m:w∈us):opN .sub [.dict (goD us),w.kv]=some w.go:=fh (pI T.sk T.o1) (cG T.sk (T.o1 w m)) (dP T.sk T.o1 T.n1 m)
theorem TwoW.sub2 (T:TwoW s0 s1 s2 R R' us vs) (m:w∈vs):opN .sub [.dict (goD vs),w.kv]=some w.go:=fh (pI T.sk T.o2) (cG T.sk (T.o2 w m)) (dP T.sk T.o2 T.n2 m)
end
noncomputable def prV (a b:Int):V:=.tuple [.int a,.int b]
def S6 (cf:CallF):Prop:=∀ s0 s1 s2 R R' us vs sv a a' c b b' K,TwoW s0 s1 s2 R R' us vs->.on a c b∈us->.on a' c b'∈vs->K (prV b b')->cf.p 6 [jj sv us vs,prV a a',text [c]] K
def p6 (cf:CallF):S6 (step cf):=fun s0 s1 s2 R R' us vs sv a a' c b b' K T m1 m2 h=>by
 refine run (fn:=f6) rfl rfl rfl (aX (v:=prV b b') (aa (vs:=[.int b,.int b']) (.two (aa (vs:=[.dict (goD us),W.kv (.on a c b)]) (.two (aa (vs:=[.list [.dict (goD us),.dict (goD vs)],.int 0]) (.two (aa (.one ix) rfl) ix) rfl) (aa (vs:=[.str kOn,.int a,text [c]]) (.cons ix (.two (aa (.two ix ix) rfl) ix)) rfl)) (T.sub1 m1)) (aa (vs:=[.dict (goD vs),W.kv (.on a' c b')]) (.two (aa (vs:=[.list [.dict (goD us),.dict (goD vs)],.int 1]) (.two (aa (.one ix) rfl) ix) rfl) (aa (vs:=[.str kOn,.int a',text [c]]) (.cons ix (.two (aa (.two ix ix) rfl) ix)) rfl)) (T.sub2 m2))) rfl) h)
def S7 (cf:CallF):Prop:=∀ s0 s1 s2 R R' us vs sv a a' c b b' t t' K,TwoW s0 s1 s2 R R' us vs->.op a c b t∈us->.op a' c b' t'∈vs->K (.tuple [prV b b',prV t t'])->cf.p 7 [jj sv us vs,prV a a',text [c]] K
def p7 (cf:CallF):S7 (step cf):=fun s0 s1 s2 R R' us vs sv a a' c b b' t t' K T m1 m2 h=>by
 refine run (fn:=f7) rfl rfl rfl ?_;refine am (v:=prV b t) (aa (vs:=[.dict (goD us),W.kv (.op a c b t)]) (.two (aa (vs:=[.list [.dict (goD us),.dict (goD vs)],.int 0]) (.two (aa (.one ix) rfl) ix) rfl) (aa (vs:=[.str a6,.int a,text [c]]) (.cons ix (.two (aa (.two ix ix) rfl) ix)) rfl)) (T.sub1 m1)) ?_;refine am (v:=prV b' t') (aa (vs:=[.dict (goD vs),W.kv (.op a' c b' t')]) (.two (aa (vs:=[.list [.dict (goD us),.dict (goD vs)],.int 1]) (.two (aa (.one ix) rfl) ix) rfl) (aa (vs:=[.str a6,.int a',text [c]]) (.cons ix (.two (aa (.two ix ix) rfl) ix)) rfl)) (T.sub2 m2)) ?_;exact aX (v:=.tuple [prV b b',prV t t']) (aa (vs:=[prV b b',prV t t']) (.two (aa (vs:=[.int b,.int b']) (.two (aa (.two ix ix) rfl) (aa (.two ix ix) rfl)) rfl) (aa (vs:=[.int t,.int t']) (.two (aa (.two ix ix) rfl) (aa (.two ix ix) rfl)) rfl)) rfl) h
def S8 (cf:CallF):Prop:=∀ s0 s1 s2 R R' us vs sv a a' k k' c b b' K,TwoW s0 s1 s2 R R' us vs->.cl a k c b∈us->.cl a' k' c b'∈vs->K (prV b b')->cf.p 8 [jj sv us vs,prV a a',prV k k',text [c]] K
def p8 (cf:CallF):S8 (step cf):=fun s0 s1 s2 R R' us vs sv a a' k k' c b b' K T m1 m2 h=>by
 refine run (fn:=f8) rfl rfl rfl ?_;refine am (v:=.int b) (aa (vs:=[.dict (goD us),W.kv (.cl a k c b)]) (.two (aa (vs:=[.list [.dict (goD us),.dict (goD vs)],.int 0]) (.two (aa (.one ix) rfl) ix) rfl) (aa (vs:=[.str aE,.int a,.int k,text [c]]) (.cons ix (.cons (aa (.two ix ix) rfl) (.two (aa (.two ix ix) rfl) ix))) rfl)) (T.sub1 m1)) ?_;exact aX (v:=prV b b') (aa (vs:=[.int b,.int b']) (.two ix (aa (vs:=[.dict (goD vs),W.kv (.cl a' k' c b')]) (.two (aa (vs:=[.list [.dict (goD us),.dict (goD vs)],.int 1]) (.two (aa (.one ix) rfl) ix) rfl) (aa (vs:=[.str aE,.int a',.int k',text [c]]) (.cons ix (.cons (aa (.two ix ix) rfl) (.two (aa (.two ix ix) rfl) ix))) rfl)) (T.sub2 m2))) rfl) h
noncomputable def sP (sv:V) (kn:List (V×V)) (wt:List V) (ca inn:List (V×V)):Ob:=⟨2,[.val sv,.D kn,.L wt,.N ca,.N inn]⟩
def S9 (cf:CallF):Prop:=∀ sv K,K (sP sv [] [] [] [])->cf.m 9 [sv] K
def p9 (cf:CallF):S9 (step cf):=fun sv K h=>by
 refine (?_:_/\exs cf f9.body [.ownI ⟨2,[]⟩,.v sv] fun fl G=>fl=none/\okK (ia G 0) fun o=>o.c=2/\K o);refine ⟨rfl,cU (ob:=⟨2,[]⟩) (v:=sv) ix rfl rfl (dy (ob:=⟨2,[_]⟩) rfl rfl (dy (ob:=⟨2,[_,_]⟩) rfl rfl (dy (ob:=⟨2,[_,_,_]⟩) rfl rfl (dy (ob:=⟨2,[_,_,_,_]⟩) rfl rfl (aM ⟨rfl,rfl,h⟩)))))⟩
def lm {f:Nat->W} (hf:∀ a b,f a=f b->a=b) {s:List Nat} (h:s.Nodup):(s.map f).Nodup:=pairwise_map.mpr (h.imp fun n e=>n (hf _ _ e))
def mz {R:Nat} {s0 s1 s2:List Nat} (h0:s0.Nodup) (h1:s1.Nodup) (h2:s2.Nodup) (r:Nat):(keysR R s0 s1 s2 r).Nodup:=by
 unfold keysR;refine nodup_append.mpr ⟨nodup_append.mpr ⟨lm (fun a b e=>by injection e) h2,lm (fun a b e=>by injection e) h0,fun a ha b hb e=>?_⟩,?_,fun a ha b hb e=>?_⟩
 ·obtain ⟨c,_,rfl⟩:=zA7 ha;obtain ⟨c',_,rfl⟩:=zA7 hb;injection e
 ·refine List.pairwise_flatMap.mpr ⟨fun k U=>lm (fun a b e=>by injection e) h1,nodup_range.imp fun {k k'} n x hx y hy e=>?_⟩;obtain ⟨c,_,rfl⟩:=zA7 hx;obtain ⟨c',_,rfl⟩:=zA7 hy;injection e with _ e
  omega
 ·obtain ⟨k,_,hb⟩:=mem_flatMap.mp hb;obtain ⟨c',_,rfl⟩:=zA7 hb;rcases mem_append.mp ha with ha | ha
  ·obtain ⟨c,_,rfl⟩:=zA7 ha; injection e
  ·obtain ⟨c,_,rfl⟩:=zA7 ha; injection e
noncomputable def W.a:W->Int
 | .on a _ _=>a
 | .op a _ _ _=>a
 | .cl a _ _ _=>a
def qO (m:w∈keysR R s0 s1 s2 r):W.a w=0+(r:Int):=by
 unfold keysR at m;rcases mem_append.mp m with m | m
 ·rcases mem_append.mp m with m | m
  ·obtain ⟨c,_,rfl⟩:=zA7 m; rfl
  ·obtain ⟨c,_,rfl⟩:=zA7 m; rfl
 ·obtain ⟨k,_,m⟩:=mem_flatMap.mp m;obtain ⟨c,_,rfl⟩:=zA7 m; rfl
def mA {R:Nat} {s0 s1 s2:List Nat} (h0:s0.Nodup) (h1:s1.Nodup) (h2:s2.Nodup):(keysL R s0 s1 s2).Nodup:=
 List.pairwise_flatMap.mpr ⟨fun r U=>mz h0 h1 h2 r,nodup_range.imp fun {r r'} n x hx y hy e=>n (by have:=qO hx; rw [e,qO hy] at this; omega)⟩
def zJ {w u:W} (h:w.kv=u.kv):W.k w=W.k u:=by
 have h:_=_:=h;have Hi:kOn≠a6:=by decide
 have tx:∀ {a b:Nat},text [a]=text [b]->a=b:=fun e=>(zA5 (congrArg (fun s:Str=>s.cps.toList) (PyData.str.inj e))).1;cases w <;> cases u <;> (have h:=PyData.tuple.inj h; injection h with h0 h) <;> first | exact absurd (PyData.str.inj h0) (by decide) | skip
 ·injection h with h1 h; injection h with h2 h
  unfold W.k; rw [PyData.int.inj h1,tx h2]
 ·injection h with h1 h; injection h with h2 h
  unfold W.k; rw [PyData.int.inj h1,tx h2]
 ·injection h with h1 h; injection h with h2 h; injection h with h3 h
  unfold W.k; rw [PyData.int.inj h1,PyData.int.inj h2,tx h3]
theorem FullW.kvs (F:FullW s0 s1 s2 R ws) (sk:SgOk s0 s1 s2):(ws.map W.kv).Nodup:=by
 have nd:=nodup_append.mp sk.nodup;have nd':=nodup_append.mp nd.1;have k:=mA (R:=R.toNat) nd'.1 nd'.2.1 nd.2.1;rw [<- F.keys] at k;exact pairwise_map.mpr ((pairwise_map.mp k).imp fun n e=>n (zJ e))
section
variable {s0 s1 s2:List Nat} {R a b:Int} {ws:List W} {c:Nat}
def iy (h:In R a):a.toNat < R.toNat/\0+(a.toNat:Int)=a:=by
 have h1:0<=a:=h.1;have h2:a < R:=h.2;omega
theorem FullW.get (F:FullW s0 s1 s2 R ws) (ha:In R a) (m:k∈keysR R.toNat s0 s1 s2 a.toNat):∃ w∈ws,W.k w=k:=by
 have:k∈ws.map W.k:=by rw [F.keys]; exact mem_flatMap.mpr ⟨a.toNat,mem_range.mpr (iy ha).1,m⟩
 obtain ⟨w,m,e⟩:=zA7 this;exact ⟨w,m,e⟩
theorem FullW.on (F:FullW s0 s1 s2 R ws) (ha:In R a) (hc:c∈s2):∃ t,.on a c t∈ws/\In R t:=by
 obtain ⟨w,m,e⟩:=F.get (k:=.on a c 0) ha (mem_append_left _ (mem_append_left _ (mem_map.mpr ⟨c,hc,by rw [(iy ha).2]⟩)));cases w with
 | on x y z=>injection e with e1 e2; subst e1 e2; exact ⟨z,m,(F.ok _ m).2.2⟩
 | op=>injection e
 | cl=>injection e
theorem FullW.op (F:FullW s0 s1 s2 R ws) (ha:In R a) (hc:c∈s0):∃ t u,.op a c t u∈ws/\In R t/\In R u:=by
 obtain ⟨w,m,e⟩:=F.get (k:=.op a c 0 0) ha (mem_append_left _ (mem_append_right _ (mem_map.mpr ⟨c,hc,by rw [(iy ha).2]⟩)));cases w with
 | op x y z u=>injection e with e1 e2; subst e1 e2; exact ⟨z,u,m,(F.ok _ m).2.2⟩
 | on=>injection e
 | cl=>injection e
theorem FullW.cl (F:FullW s0 s1 s2 R ws) (ha:In R a) (hb:In R b) (hc:c∈s1):∃ t,.cl a b c t∈ws/\In R t:=by
 obtain ⟨w,m,e⟩:=F.get (k:=.cl a b c 0) ha (mem_append_right _ (mem_flatMap.mpr ⟨b.toNat,mem_range.mpr (iy hb).1,mem_map.mpr ⟨c,hc,by rw [(iy ha).2,(iy hb).2]⟩⟩));cases w with
 | cl x y z u=>injection e with e1 e2 e3; subst e1 e2 e3; exact ⟨u,m,(F.ok _ m).2.2.2⟩
 | on=>injection e
 | op=>injection e
end
theorem dx {α:Type} {f:α->V} {ws:List α}:∀ {r:List V},(∀ y∈r,y∈ws.map f)->∃ us:List α,r=us.map f/\∀ w∈us,w∈ws
 | [],_=>⟨[],rfl,fun U m=>nM m⟩
 | y :: r,h=>by
  obtain ⟨w,m,rfl⟩:=zA7 (h y (.head _));obtain ⟨us,rfl,hu⟩:=dx (r:=r) fun y m=>h y (.tail _ m);exact ⟨w :: us,rfl,zA1 ⟨m,hu⟩⟩
theorem fc {f:W->V}:∀ {l:List W},(l.map f).Nodup->∀ {a b:W},a∈l->b∈l->f a=f b->a=b
 | [],_,_,_,m,_,_=>nM m
 | x :: l,nd,a,b,ma,mb,e=>by
  have nd:=nodup_cons.mp nd;rcases mem_cons.mp ma with e1 | m1 <;> rcases mem_cons.mp mb with e2 | m2
  ·exact e1.trans e2.symm
  ·exact absurd (mem_map.mpr ⟨b,m2,by rw [<- e,e1]⟩) nd.1
  ·exact absurd (mem_map.mpr ⟨a,m1,by rw [e,e2]⟩) nd.1
  ·exact fc nd.2 m1 m2 e
def sn (F:FullW s0 s1 s2 R ws) (sk:SgOk s0 s1 s2) (hd:Held st en (ws.map W.v) B8 Ch r):∃ us:List W,r=us.map W.v/\(∀ w,w∈us ↔ w∈ws)/\(us.map W.kv).Nodup/\us.length < 58:=by
 obtain ⟨us,rfl,hu⟩:=dx fun y m=>(hd.mem y).mp m;have un:us.Nodup:=(pairwise_map.mp hd.nd).imp fun {a b} n (e:a=b)=>n (congrArg W.v e);refine ⟨us,rfl,fun w=>⟨hu w,fun m=>?_⟩,pairwise_map.mpr (un.imp_of_mem fun ha hb n e=>n (fc (F.kvs sk) (hu _ ha) (hu _ hb) e)),?_⟩
 ·obtain ⟨u,mu,e⟩:=zA7 ((hd.mem w.v).mpr (mem_map.mpr ⟨w,m,rfl⟩));exact AG e▸mu
 ·have:=bB hd.nd fun y m=>(hd.mem y).mp m;rw [zA4,zA4] at this;exact J5 this F.len
noncomputable abbrev Pr:=Int×Int
noncomputable def Pr.v (p:Pr):V:=prV p.1 p.2
noncomputable abbrev Rw:=Pr×Pr
noncomputable def Rw.v (r:Rw):V:=.tuple [Pr.v r.1,Pr.v r.2]
def pr_inj {p q:Pr} (h:Pr.v p=Pr.v q):p=q:=by
 have h:=PyData.tuple.inj h;injection h with h0 h; injection h with h1 h
 exact Prod.ext (PyData.int.inj h0) (PyData.int.inj h1)
def pi {p q:Rw} (h:Rw.v p=Rw.v q):p=q:=by
 have h:=PyData.tuple.inj h;injection h with h0 h; injection h with h1 h
 exact Prod.ext (pr_inj h0) (pr_inj h1)
def u3 (p:Pr):aJ (Pr.v p)=true:=rfl
def zc (p:Rw):aJ (Rw.v p)=true:=rfl
structure St where
 kn:List (Rw×Int×List Nat)
 wt:List Rw
 ca:List (Pr×List ((Rw×Nat)×Pr))
 inn:List (Pr×List Rw)
noncomputable def lwV (x:Int×List Nat):V:=.tuple [.int x.1,text x.2]
noncomputable def rsV (x:Rw×Nat):V:=.tuple [Rw.v x.1,text [x.2]]
noncomputable def knV (l:List (Rw×Int×List Nat)):List (V×V):=l.map fun e=>(Rw.v e.1,lwV e.2)
noncomputable def dcV (d:List ((Rw×Nat)×Pr)):V:=.dict (d.map fun x=>(rsV x.1,Pr.v x.2))
noncomputable def caV (l:List (Pr×List ((Rw×Nat)×Pr))):List (V×V):=l.map fun e=>(Pr.v e.1,dcV e.2)
noncomputable def liV (d:List Rw):V:=.list (d.map Rw.v)
noncomputable def innV (l:List (Pr×List Rw)):List (V×V):=l.map fun e=>(Pr.v e.1,liV e.2)
noncomputable def St.o (s:St) (sv:V):Ob:=sP sv (knV s.kn) (s.wt.map Rw.v) (caV s.ca) (innV s.inn)
noncomputable def lk {α β:Type} [DecidableEq α]:List (α×β)->α->Option β
 | [],_=>none
 | e :: l,k=>if e.1=k then some e.2 else lk l k
noncomputable def bv {α β:Type} [DecidableEq α] (l:List (α×β)) (k:α) (v:β):List (α×β):=if k∈l.map (·.1) then l.map fun e=>if e.1=k then (k,v) else e else l++[(k,v)]
noncomputable def o6 {α β:Type} [DecidableEq α] (l:List (α×List β)) (k:α) (x:β):List (α×List β):=bv l k ((lk l k).getD []++[x])
noncomputable def eI (n:Int):Int:=if 100 < n then 101 else n
noncomputable def jB (n:Int) (w:List Nat):List Nat:=if 100 < n then [] else w
noncomputable def St.put (s:St) (r:Rw) (n:Int) (w:List Nat):St:=match lk s.kn r with
 | none=>{ s with kn:=bv s.kn r (eI n,jB n w),wt:=s.wt++[r],inn:=o6 s.inn r.1 r }
 | some x=>if eI n < x.1 then { s with kn:=bv s.kn r (eI n,jB n w),wt:=s.wt++[r] } else s
def k4 {α β:Type} [DecidableEq α] {f:α->V} {g:β->V} {l:List (α×β)} {k:α} (v:β) (hf:∀ a b,f a=f b->a=b) (hl:∀ e∈l,aJ (f e.1)=true) (hk:aJ (f k)=true):cE (l.map fun e=>(f e.1,g e.2)) (f k) (g v)=(bv l k v).map fun e=>(f e.1,g e.2):=by
 have ek:∀ e∈l,(PyData.eqv (f e.1) (f k)=true ↔ e.1=k):=fun e m=>(bg _ _ (hl e m) hk).trans ⟨hf e.1 k,fun e=>e▸rfl⟩;unfold cE bv;have c:((l.map fun e=>(f e.1,g e.2)).any fun p=>PyData.eqv p.1 (f k))=true ↔ k∈l.map (·.1):=by
  rw [List.any_map,any_eq_true,mem_map];exact ⟨fun ⟨e,m,q⟩=>⟨e,m,(ek e m).mp q⟩,fun ⟨e,m,q⟩=>⟨e,m,(ek e m).mpr q⟩⟩
 by_cases q:k∈l.map (·.1)
 ·rw [if_pos (c.mpr q),if_pos q,map_map,map_map];refine map_congr_left fun e m=>?_;refine (?_:(if PyData.eqv (f e.1) (f k)=true then (f e.1,g v) else (f e.1,g e.2))=(f (if e.1=k then (k,v) else e).1,g (if e.1=k then (k,v) else e).2));by_cases z:e.1=k
  ·rw [if_pos ((ek e m).mpr z),if_pos z,z]
  ·rw [if_neg fun w=>z ((ek e m).mp w),if_neg z]
 ·rw [if_neg fun w=>q (c.mp w),if_neg q,map_append]; rfl
theorem cF {α β:Type} [DecidableEq α] {f:α->V} {g:β->V} {k:α} (hf:∀ a b,f a=f b->a=b) (hk:aJ (f k)=true):∀ {l:List (α×β)},(∀ e∈l,aJ (f e.1)=true)->bP (l.map fun e=>(f e.1,g e.2)) (f k)=(lk l k).map g
 | [],_=>rfl
 | e :: l,hl=>by
  have ek:PyData.eqv (f e.1) (f k)=true ↔ e.1=k:=(bg _ _ (hl e (.head _)) hk).trans ⟨hf e.1 k,fun e=>e▸rfl⟩;have ih:=cF (g:=g) hf hk fun e m=>hl e (.tail _ m);unfold bP at ih ⊢;rw [map_cons,find?_cons,lk];by_cases z:e.1=k
  ·rw [show PyData.eqv ((fun e:α×β=>(f e.1,g e.2)) e).1 (f k)=true from ek.mpr z,if_pos z]; rfl
  ·rw [show PyData.eqv ((fun e:α×β=>(f e.1,g e.2)) e).1 (f k)=false from eq_false_iff.mpr fun w=>z (ek.mp w),if_neg z];exact ih
inductive IdxA {α β:Type} [DecidableEq α] (l:List (α×β)) (k:α):Option Nat->Prop where
 | no (h:k∉l.map (·.1)):IdxA l k none
 | yes (i:Nat) (b:β) (h:l[i]?=some (k,b)) (h':lk l k=some b):IdxA l k (some i)
theorem l5 {α β:Type} [DecidableEq α] {f:α->V} {g:β->V} {k:α} (hf:∀ a b,f a=f b->a=b) (hk:aJ (f k)=true):∀ {l:List (α×β)},(∀ e∈l,aJ (f e.1)=true)->IdxA l k (idxD (l.map fun e=>(f e.1,g e.2)) (f k))
 | [],_=>.no fun m=>nM m
 | e :: l,hl=>by
  have ek:PyData.eqv (f e.1) (f k)=true ↔ e.1=k:=(bg _ _ (hl e (.head _)) hk).trans ⟨hf e.1 k,fun e=>e▸rfl⟩;have ih:=l5 (g:=g) hf hk fun e m=>hl e (.tail _ m);unfold idxD at ih ⊢;rw [map_cons,findIdx?_cons];by_cases z:e.1=k
  ·rw [show PyData.eqv ((fun e:α×β=>(f e.1,g e.2)) e).1 (f k)=true from ek.mpr z];exact .yes 0 e.2 (congrArg some (Prod.ext z rfl)) (by rw [lk,if_pos z])
  ·rw [show PyData.eqv ((fun e:α×β=>(f e.1,g e.2)) e).1 (f k)=false from eq_false_iff.mpr fun w=>z (ek.mp w)];refine (?_:IdxA (e :: l) k (Option.map _ _));generalize (l.map fun e=>(f e.1,g e.2)).findIdx? (fun p=>PyData.eqv p.1 (f k))=o at ih ⊢;cases ih with
   | no h=>exact .no fun m=>(mem_cons.mp m).elim (fun w=>z w.symm) h
   | yes i b h h'=>exact .yes (i+1) b h (by rw [lk,if_neg z]; exact h')
section
variable {α β:Type} [DecidableEq α] {l:List (α×β)} {k k':α} {v b:β}
theorem aZ:∀ {l:List (α×β)},lk l k=some b->(k,b)∈l
 | [],h=>nomatch h
 | e :: l,h=>by
  rw [lk] at h;by_cases z:e.1=k
  ·rw [if_pos z] at h;obtain rfl:=Option.some.inj h;subst z;exact .head _
  ·rw [if_neg z] at h;exact .tail _ (aZ h)
theorem iZ:∀ {l:List (α×β)},(l.map (·.1)).Nodup->(k,b)∈l->lk l k=some b
 | [],_,m=>nM m
 | e :: l,nd,m=>by
  have nd:=nodup_cons.mp nd;rw [lk];rcases mem_cons.mp m with rfl | m
  ·rw [if_pos rfl]
  ·rw [if_neg fun w=>nd.1 (mem_map.mpr ⟨_,m,w.symm⟩)];exact iZ nd.2 m
theorem look_none:∀ {l:List (α×β)},lk l k=none ↔ k∉l.map (·.1)
 | []=>⟨fun U m=>nM m,fun U=>rfl⟩
 | e :: l=>by
  rw [lk,map_cons,mem_cons];by_cases z:e.1=k
  ·rw [if_pos z];exact ⟨fun h=>(nomatch h),fun h=>absurd (.inl z.symm) h⟩
  ·rw [if_neg z];exact look_none.trans ⟨fun h q=>q.elim (fun w=>z w.symm) h,fun h q=>h (.inr q)⟩
def i6 (h:k∈l.map (·.1)):∃ b,lk l k=some b:=by
 cases e:lk l k with
 | none=>exact absurd h (look_none.mp e)
 | some b=>exact ⟨b,rfl⟩
theorem nj:∀ {l:List (α×β)},k∉l.map (·.1)->lk (l++[(k,v)]) k'=if k'=k then some v else lk l k'
 | [],_=>by
  refine (?_:(if k=k' then some v else none)=_);by_cases z:k'=k
  ·rw [if_pos z,if_pos z.symm]
  ·rw [if_neg z,if_neg fun w=>z w.symm]; rfl
 | e :: l,h=>by
  have h:=not_or.mp fun q=>h (mem_cons.mpr q);rw [List.cons_append,lk,lk];by_cases q:e.1=k'
  ·rw [if_pos q,if_pos q,if_neg fun z=>h.1 (z.symm.trans q.symm)]
  ·rw [if_neg q,if_neg q]; exact nj h.2
theorem jY:∀ {l:List (α×β)},lk (l.map fun e=>if e.1=k then (k,v) else e) k'=if k'=k/\k∈l.map (·.1) then some v else lk l k'
 | []=>by rw [if_neg fun h=>nM h.2]; rfl
 | e :: l=>by
  have ih:=jY (l:=l);rw [map_cons,lk,map_cons];by_cases z:e.1=k
  ·rw [if_pos z];by_cases y:k'=k
   ·rw [if_pos y.symm,if_pos ⟨y,mem_cons.mpr (.inl z.symm)⟩]
   ·rw [if_neg fun w=>y w.symm,if_neg fun h=>y h.1,lk,if_neg fun w=>y (w.symm.trans z)];rw [if_neg fun h=>y h.1] at ih;exact ih
  ·rw [if_neg z,lk];by_cases q:e.1=k'
   ·rw [if_pos q,if_pos q,if_neg fun h=>z (q.trans h.1)]
   ·rw [if_neg q,if_neg q];refine ih.trans ?_;by_cases y:k'=k/\k∈l.map (·.1)
    ·rw [if_pos y,if_pos ⟨y.1,.tail _ y.2⟩]
    ·rw [if_neg y,if_neg fun h=>y ⟨h.1,(mem_cons.mp h.2).elim (fun w=>absurd w.symm z) id⟩]
def look_set:lk (bv l k v) k'=if k'=k then some v else lk l k':=by
 unfold bv;by_cases h:k∈l.map (·.1)
 ·rw [if_pos h,jY];by_cases y:k'=k
  ·rw [if_pos ⟨y,h⟩,if_pos y]
  ·rw [if_neg fun h=>y h.1,if_neg y]
 ·rw [if_neg h,nj h]
def set_keys:(bv l k v).map (·.1)=if k∈l.map (·.1) then l.map (·.1) else l.map (·.1)++[k]:=by
 unfold bv;by_cases h:k∈l.map (·.1)
 ·rw [if_pos h,if_pos h,map_map];refine map_congr_left fun e U=>?_;refine (?_:(if e.1=k then (k,v) else e).1=e.1);by_cases z:e.1=k
  ·rw [if_pos z,z]
  ·rw [if_neg z]
 ·rw [if_neg h,if_neg h,map_append]; rfl
def fS:k'∈(bv l k v).map (·.1) ↔ k'=k\/k'∈l.map (·.1):=by
 rw [set_keys];by_cases h:k∈l.map (·.1)
 ·rw [if_pos h]; exact ⟨.inr,fun q=>q.elim (fun e=>e▸h) id⟩
 ·rw [if_neg h,mem_append,mem_singleton]; exact or_comm
def cW (nd:(l.map (·.1)).Nodup):((bv l k v).map (·.1)).Nodup:=by
 rw [set_keys];by_cases h:k∈l.map (·.1)
 ·rw [if_pos h]; exact nd
 ·rw [if_neg h];exact nodup_append.mpr ⟨nd,nodup_cons.mpr ⟨fun m=>nM m,nodup_nil⟩,fun a ha b hb e=>h (by rw [zA6 hb] at e; exact e▸ha)⟩
def set_all {e:α×β} (m:e∈bv l k v):e=(k,v)\/e∈l:=by
 unfold bv at m;by_cases h:k∈l.map (·.1)
 ·rw [if_pos h] at m;obtain ⟨x,mx,rfl⟩:=zA7 m;by_cases z:x.1=k
  ·rw [if_pos z]; exact .inl rfl
  ·rw [if_neg z]; exact .inr mx
 ·rw [if_neg h] at m;rcases mem_append.mp m with m | m
  ·exact .inr m
  ·exact .inl (zA6 m)
def set_len:(bv l k v).length<=l.length+1:=by
 unfold bv;by_cases h:k∈l.map (·.1)
 ·rw [if_pos h,zA4]; exact le_succ _
 ·rw [if_neg h,zB5]; exact le_refl _
def qt (h:k∉l.map (·.1)):bv l k v=l++[(k,v)]:=if_neg h
def qr (h:k∈l.map (·.1)):bv l k v=l.map fun e=>if e.1=k then (k,v) else e:=if_pos h
def tV (h:k∉l.map (·.1)):(l.map fun e=>if e.1=k then (k,v) else e)=l:=by
 refine (map_congr_left fun e m=>?_).trans (map_id l);exact if_neg fun z=>h (mem_map.mpr ⟨e,m,z⟩)
theorem kU:∀ {l:List (α×β)} {i:Nat},(l.map (·.1)).Nodup->l[i]?=some (k,b)->l.set i (k,v)=l.map fun e=>if e.1=k then (k,v) else e
 | [],_,_,h=>nomatch h
 | e :: l,0,nd,h=>by
  have nd:=nodup_cons.mp nd;obtain rfl:e=(k,b):=Option.some.inj h;rw [map_cons,if_pos rfl,tV nd.1]; rfl
 | e :: l,i+1,nd,h=>by
  have nd:=nodup_cons.mp nd;have h:l[i]?=some (k,b):=h;rw [map_cons,if_neg fun z=>nd.1 (mem_map.mpr ⟨_,J8 h,z.symm⟩),<- kU nd.2 h]; rfl
def za:(k,v)∈bv l k v:=aZ (look_set.trans (if_pos rfl))
def tC {e:α×β} (m:e∈l) (h:e.1=k->e.2=v):e∈bv l k v:=by
 unfold bv;by_cases q:k∈l.map (·.1)
 ·rw [if_pos q];refine mem_map.mpr ⟨e,m,?_⟩;by_cases z:e.1=k
  ·rw [if_pos z]; exact Prod.ext z.symm (h z).symm
  ·rw [if_neg z]
 ·rw [if_neg q]; exact mem_append_left _ m
end
structure Sys where
 s0:List Nat
 s1:List Nat
 s2:List Nat
 un:List Pr
 st:Pr
 on:Pr->Nat->Pr
 ins:Pr->Nat->Pr
 kp:Pr->Nat->Pr
 cl:Pr->Pr->Nat->Pr
inductive Rch (M:Sys):Rw->Prop where
 | start:Rch M (M.st,M.st)
 | on (h:Rch M r) (m:c∈M.s2):Rch M (r.1,M.on r.2 c)
 | op (h:Rch M r) (m:c∈M.s0):Rch M (M.ins r.2 c,M.ins r.2 c)
 | cl (h:Rch M r) (m:c∈M.s0) (h':Rch M t) (e:t.1=M.ins r.2 c) (m':d∈M.s1):Rch M (r.1,M.cl t.2 (M.kp r.2 c) d)
structure Sys.Ok (M:Sys):Prop where
 len:M.un.length<=4
 st:M.st∈M.un
 on:∀ q∈M.un,∀ c∈M.s2,M.on q c∈M.un
 ins:∀ q∈M.un,∀ c∈M.s0,M.ins q c∈M.un
 kp:∀ q∈M.un,∀ c∈M.s0,M.kp q c∈M.un
 cl:∀ q∈M.un,∀ k∈M.un,∀ c∈M.s1,M.cl q k c∈M.un
 l0:M.s0.length<=4
 l1:M.s1.length<=4
 l2:M.s2.length<=4
theorem Rch.mem {M:Sys} (ok:M.Ok) (h:Rch M r):r.1∈M.un/\r.2∈M.un:=by
 induction h with
 | start=>exact ⟨ok.st,ok.st⟩
 | on h m ih=>exact ⟨ih.1,ok.on _ ih.2 _ m⟩
 | op h m ih=>exact ⟨ok.ins _ ih.2 _ m,ok.ins _ ih.2 _ m⟩
 | cl h m h' e m' ih ih'=>exact ⟨ih.1,ok.cl _ ih'.2 _ (ok.kp _ ih.2 _ m) _ m'⟩
noncomputable def Sys.rs (M:Sys):List Rw:=M.un.flatMap fun p=>M.un.map fun q=>(p,q)
theorem dT {α β:Type} {f:α->List β} {n:Nat} (h:∀ x,(f x).length<=n):∀ l:List α,(l.flatMap f).length<=l.length * n
 | []=>zero_le _
 | x :: l=>by
  rw [flatMap_cons,zB5,zB4,succ_mul,add_comm];exact add_le_add (dT h l) (h x)
theorem Sys.Ok.rs_len {M:Sys} (ok:M.Ok):M.rs.length<=16:=zB1 (dT (n:=4) (fun x=>by rw [zA4]; exact ok.len) _) (mul_le_mul_right 4 ok.len)
theorem Rch.rs {M:Sys} (ok:M.Ok) (h:Rch M r):r∈M.rs:=mem_flatMap.mpr ⟨r.1,(h.mem ok).1,mem_map.mpr ⟨r.2,(h.mem ok).2,rfl⟩⟩
noncomputable def jq (x:Option (Int×List Nat)):Nat:=match x with
 | none=>103
 | some x=>x.1.toNat
noncomputable def jQ (kn:List (Rw×Int×List Nat)) (rs:List Rw):Nat:=(rs.map fun r=>jq (lk kn r)).sum
def u6 {kn:List (Rw×Int×List Nat)} {t:Rw} (lt:jq (some x) < jq (lk kn r)):jq (lk (bv kn r x) t)<=jq (lk kn t):=by
 rw [look_set];by_cases z:t=r
 ·rw [if_pos z,z]; exact le_of_lt lt
 ·rw [if_neg z]; exact le_refl _
theorem u5 (lt:jq (some x) < jq (lk kn r)):∀ rs:List Rw,jQ (bv kn r x) rs<=jQ kn rs
 | []=>le_refl _
 | t :: rs=>by
  unfold jQ;rw [map_cons,map_cons,sum_cons,sum_cons];exact add_le_add (u6 lt) (u5 lt rs)
theorem u4 (lt:jq (some x) < jq (lk kn r)):∀ {rs:List Rw},r∈rs->jQ (bv kn r x) rs+1<=jQ kn rs
 | [],m=>nM m
 | t :: rs,m=>by
  unfold jQ;rw [map_cons,map_cons,sum_cons,sum_cons];rcases mem_cons.mp m with e | m
  ·subst e;have:=u5 lt rs;have h2:jq (lk (bv kn r x) r)+1<=jq (lk kn r):=by rw [look_set,if_pos rfl]; exact lt
   rw [add_right_comm];exact add_le_add h2 this
  ·rw [add_assoc]; exact add_le_add (u6 lt) (u4 lt m)
theorem pot_top:∀ rs:List Rw,jQ [] rs=rs.length * 103
 | []=>rfl
 | t :: rs=>by
  unfold jQ;rw [map_cons,sum_cons,zB4,succ_mul,add_comm];exact congrArg (· + 103) (pot_top rs)
noncomputable def St.ks (s:St):List Rw:=s.kn.map (·.1)
noncomputable def St.cs (s:St) (p:Pr):List ((Rw×Nat)×Pr):=(lk s.ca p).getD []
noncomputable def St.phi (M:Sys) (s:St):Nat:=s.wt.length+jQ s.kn M.rs
structure CaOk (M:Sys) (ks:List Rw) (p:Pr) (d:List ((Rw×Nat)×Pr)):Prop where
 nd:(d.map (·.1)).Nodup
 all:∀ e∈d,e.1.1∈ks/\e.1.2∈M.s0/\p=M.ins e.1.1.2 e.1.2/\e.2=M.kp e.1.1.2 e.1.2
structure Ok (M:Sys) (s:St):Prop where
 nd:s.ks.Nodup
 rch:∀ r∈s.ks,Rch M r
 num:∀ e∈s.kn,0<=e.2.1/\e.2.1<=101/\(e.2.2.length:Int)<=e.2.1
 ndi:(s.inn.map (·.1)).Nodup
 inner:∀ p,(lk s.inn p).getD []=s.ks.filter fun r=>r.1=p
 li:s.inn.length<=s.ks.length
 ndc:(s.ca.map (·.1)).Nodup
 cu:∀ e∈s.ca,e.1∈M.un
 ca:∀ e∈s.ca,CaOk M s.ks e.1 e.2
 wt:∀ r∈s.wt,r∈s.ks
 phi:s.phi M<=1648
structure Ext (M:Sys) (s s':St):Prop where
 ks:∀ r∈s.ks,r∈s'.ks
 wt:∀ r∈s.wt,r∈s'.wt
 new:∀ r∈s'.ks,r∈s.ks\/r∈s'.wt
 phi:s'.phi M<=s.phi M
theorem Ext.refl (M:Sys) (s:St):Ext M s s:=⟨fun U m=>m,fun U m=>m,fun U m=>.inl m,le_refl _⟩
theorem Ext.trans {M:Sys} (h:Ext M s s') (h':Ext M s' CG):Ext M s CG where
 ks r m:=h'.ks r (h.ks r m)
 wt r m:=h'.wt r (h.wt r m)
 new r m:=(h'.new r m).elim (fun m=>(h.new r m).imp id (h'.wt r)) .inr
 phi:=zB1 h'.phi h.phi
theorem CaOk.mono {M:Sys} (h:CaOk M ks p d) (q:∀ r∈ks,r∈DF):CaOk M DF p d:=⟨h.nd,fun e m=>⟨q _ (h.all e m).1,(h.all e m).2⟩⟩
def rA (h0:0<=n) (hw:(w.length:Int)<=n):0<=eI n/\eI n<=101/\((jB n w).length:Int)<=eI n:=by
 unfold eI jB;by_cases z:100 < n
 ·rw [if_pos z,if_pos z]; exact ⟨by decide,by decide,by decide⟩
 ·rw [if_neg z,if_neg z]; exact ⟨h0,by omega,hw⟩
structure PutOk (M:Sys) (s:St) (r:Rw) (s':St):Prop where
 ok:Ok M s'
 ext:Ext M s s'
 mem:r∈s'.ks
 ca:s'.ca=s.ca
section
variable {M:Sys} {s:St} {r:Rw} {n:Int} {w:List Nat}
theorem Ok.ext_set (ok:Ok M s) (mo:M.Ok) (hr:Rch M r) (h0:0<=n) (hw:(w.length:Int)<=n) (lt:jq (some (eI n,jB n w)) < jq (lk s.kn r)) {s':St} (e1:s'.kn=bv s.kn r (eI n,jB n w)) (e2:s'.wt=s.wt++[r]) (e3:s'.ca=s.ca)
  (ndi:(s'.inn.map (·.1)).Nodup) (inner:∀ p,(lk s'.inn p).getD []=s'.ks.filter fun r=>r.1=p) (li:s'.inn.length<=s'.ks.length):PutOk M s r s':=by
 have km:∀ t,t∈s'.ks ↔ t=r\/t∈s.ks:=fun t=>by unfold St.ks; rw [e1]; exact fS
 have wm:∀ t,t∈s'.wt ↔ t∈s.wt\/t=r:=fun t=>by rw [e2,mem_append,mem_singleton]
 have ph:s'.phi M<=s.phi M:=by
  have:=u4 lt (hr.rs mo);unfold St.phi;rw [e1,e2,zB5,add_assoc,add_comm [r].length];exact add_le_add_left this _
 refine ⟨⟨?_,fun t m=>?_,fun e m=>?_,ndi,inner,li,?_,?_,?_,fun t m=>?_,zB1 ph ok.phi⟩,⟨fun t m=>(km t).mpr (.inr m),fun t m=>(wm t).mpr (.inl m),fun t m=>((km t).mp m).elim (fun e=>.inr ((wm t).mpr (.inr e))) .inl,ph⟩,(km r).mpr (.inl rfl),e3⟩
 ·unfold St.ks; rw [e1]; exact cW ok.nd
 ·exact ((km t).mp m).elim (fun e=>e▸hr) (ok.rch t)
 ·rw [e1] at m;rcases set_all m with rfl | m
  ·exact rA h0 hw
  ·exact ok.num e m
 ·rw [e3]; exact ok.ndc
 ·rw [e3]; exact ok.cu
 ·rw [e3]; exact fun e m=>(ok.ca e m).mono fun t m=>(km t).mpr (.inr m)
 ·exact (km t).mpr (((wm t).mp m).elim (fun m=>.inr (ok.wt t m)) .inl)
theorem Ok.put (ok:Ok M s) (mo:M.Ok) (hr:Rch M r) (h0:0<=n) (hw:(w.length:Int)<=n):PutOk M s r (s.put r n w):=by
 have cn:=rA h0 hw;unfold St.put;cases e:lk s.kn r with
 | none=>
  have nk:r∉s.ks:=look_none.mp e;have ek:(bv s.kn r (eI n,jB n w)).map (·.1)=s.ks++[r]:=(set_keys).trans (if_neg nk);refine ok.ext_set mo hr h0 hw (by rw [e]; show (eI n).toNat < 103; omega) rfl rfl rfl (cW ok.ndi) (fun p=>?_) ?_
  ·refine (?_:(lk (o6 s.inn r.1 r) p).getD []=((bv s.kn r (eI n,jB n w)).map (·.1)).filter fun r=>r.1=p);rw [ek,List.filter_append,<- ok.inner p];unfold o6;rw [look_set];by_cases z:p=r.1
   ·rw [if_pos z,z,List.filter_cons_of_pos (p:=fun DO:Rw=>decide (DO.1=r.1)) (decide_eq_true rfl)]; rfl
   ·rw [if_neg z,List.filter_cons_of_neg (by rw [decide_eq_true_eq]; exact fun y=>z y.symm)]; exact (append_nil _).symm
  ·refine (?_:(o6 s.inn r.1 r).length<=((bv s.kn r (eI n,jB n w)).map (·.1)).length);rw [ek,zB5];exact zB1 set_len (add_le_add_right ok.li 1)
 | some x=>
  refine (?_:PutOk M s r (if eI n < x.1 then _ else _));have kr:r∈s.ks:=mem_map.mpr ⟨_,aZ e,rfl⟩;by_cases z:eI n < x.1
  ·have ek:(bv s.kn r (eI n,jB n w)).map (·.1)=s.ks:=(set_keys).trans (if_pos kr);rw [if_pos z];have hx:x.1<=101:=(ok.num _ (aZ e)).2.1;refine ok.ext_set mo hr h0 hw (by rw [e]; show (eI n).toNat < x.1.toNat; omega) rfl rfl rfl ok.ndi (fun p=>(ok.inner p).trans ?_) ?_
   ·refine (?_:_=((bv s.kn r (eI n,jB n w)).map (·.1)).filter _);rw [ek]
   ·refine (?_:_<=((bv s.kn r (eI n,jB n w)).map (·.1)).length);rw [ek]; exact ok.li
  ·rw [if_neg z];exact ⟨ok,.refl M s,kr,rfl⟩
end
structure GoOk (M:Sys) (s:St) (r:Rw) (s':St):Prop where
 ok:Ok M s'
 ext:Ext M s s'
 ca:∀ p e,e∈s.cs p->e∈s'.cs p
 on:∀ c∈M.s2,(r.1,M.on r.2 c)∈s'.ks
 op:∀ c∈M.s0,(M.ins r.2 c,M.ins r.2 c)∈s'.ks
 me:∀ c∈M.s0,((r,c),M.kp r.2 c)∈s'.cs (M.ins r.2 c)
 cl:∀ c∈M.s0,∀ t∈s.ks,t.1=M.ins r.2 c->∀ d∈M.s1,(r.1,M.cl t.2 (M.kp r.2 c) d)∈s'.ks
 back:∀ e∈s.cs r.1,∀ d∈M.s1,(e.1.1.1,M.cl r.2 e.2 d)∈s'.ks
structure Gone (M:Sys) (s:St):Prop where
 on:∀ r∈s.ks,r∉s.wt->∀ c∈M.s2,(r.1,M.on r.2 c)∈s.ks
 op:∀ r∈s.ks,r∉s.wt->∀ c∈M.s0,(M.ins r.2 c,M.ins r.2 c)∈s.ks
 me:∀ r∈s.ks,r∉s.wt->∀ c∈M.s0,((r,c),M.kp r.2 c)∈s.cs (M.ins r.2 c)
 cl:∀ r∈s.ks,r∉s.wt->∀ c∈M.s0,∀ t∈s.ks,t∉s.wt->t.1=M.ins r.2 c->∀ d∈M.s1,(r.1,M.cl t.2 (M.kp r.2 c) d)∈s.ks
section
variable {M:Sys} {s s':St} {r:Rw} {wt:List Rw}
noncomputable def St.pop (s:St) (wt:List Rw):St:={ s with wt:=wt }
theorem Ok.pop (ok:Ok M s) (e:s.wt=r :: wt):Ok M (s.pop wt)/\(s.pop wt).phi M < s.phi M/\r∈s.ks:=by
 have ph:(s.pop wt).phi M+1=s.phi M:=by
  refine (?_:wt.length+jQ s.kn M.rs+1=s.wt.length+jQ s.kn M.rs);rw [e,zB4,add_right_comm]
 exact ⟨⟨ok.nd,ok.rch,ok.num,ok.ndi,ok.inner,ok.li,ok.ndc,ok.cu,ok.ca,fun t m=>ok.wt t (by rw [e]; exact .tail _ m),zB1 (le_of_lt (Nat.lt_of_succ_le (zB2 ph))) ok.phi⟩,Nat.lt_of_succ_le (zB2 ph),ok.wt r (by rw [e]; exact .head _)⟩
theorem Gone.go (g:Gone M s) (e:s.wt=r :: wt) (h:GoOk M (s.pop wt) r s'):Gone M s':=by
 -- what has gone behind it had gone before,or is this row
 have b:∀ t∈s'.ks,t∉s'.wt->t∈s.ks/\(t=r\/t∉s.wt):=fun t m n=>by
  have k:t∈s.ks:=(h.ext.new t m).elim id fun w=>absurd w n;refine ⟨k,?_⟩;by_cases z:t=r
  ·exact .inl z
  ·refine .inr fun w=>n (h.ext.wt t ?_);rw [e] at w;exact (mem_cons.mp w).elim (fun w=>absurd w z) id
 refine ⟨fun t m n c mc=>?_,fun t m n c mc=>?_,fun t m n c mc=>?_,fun t m n c mc u mu nu eu d md=>?_⟩
 ·obtain ⟨k,rfl | q⟩:=b t m n
  ·exact h.on c mc
  ·exact h.ext.ks _ (g.on t k q c mc)
 ·obtain ⟨k,rfl | q⟩:=b t m n
  ·exact h.op c mc
  ·exact h.ext.ks _ (g.op t k q c mc)
 ·obtain ⟨k,rfl | q⟩:=b t m n
  ·exact h.me c mc
  ·exact h.ca _ _ (g.me t k q c mc)
 ·obtain ⟨k,rfl | q⟩:=b t m n
  ·exact h.cl c mc u (b u mu nu).1 eu d md
  ·obtain ⟨k',rfl | q'⟩:=b u mu nu
   ·exact h.back ((t,c),M.kp t.2 c) (by rw [eu]; exact g.me t k q c mc) d md
   ·exact h.ext.ks _ (g.cl t k q c mc u k' q' eu d md)
theorem Gone.all (g:Gone M s) (e:s.wt=[]) (h0:(M.st,M.st)∈s.ks) (h:Rch M r):r∈s.ks:=by
 have n:∀ t:Rw,t∉s.wt:=fun t m=>by rw [e] at m; exact nM m
 induction h with
 | start=>exact h0
 | on h m ih=>exact g.on _ ih (n _) _ m
 | op h m ih=>exact g.op _ ih (n _) _ m
 | cl h m h' e m' ih ih'=>exact g.cl _ ih (n _) _ m _ ih' (n _) e _ m'
noncomputable def St.call (s:St) (p:Pr) (r:Rw) (c:Nat) (k:Pr):St:={ s with ca:=bv s.ca p (bv (s.cs p) (r,c) k) }
theorem Ok.cs (ok:Ok M s) (p:Pr):CaOk M s.ks p (s.cs p):=by
 unfold St.cs;cases e:lk s.ca p with
 | none=>exact ⟨nodup_nil,fun U m=>nM m⟩
 | some d=>exact ok.ca _ (aZ e)
def call_cs {p q:Pr} {c:Nat} {k:Pr}:(s.call p r c k).cs q=if q=p then bv (s.cs p) (r,c) k else s.cs q:=by
 refine (?_:(lk (bv s.ca p _) q).getD []=_);rw [look_set];by_cases z:q=p
 ·rw [if_pos z,if_pos z]; rfl
 ·rw [if_neg z,if_neg z]; rfl
structure CallsOk (M:Sys) (s:St) (r:Rw) (c:Nat) (s':St):Prop where
 ok:Ok M s'
 ext:Ext M s s'
 ca:∀ p e,e∈s.cs p->e∈s'.cs p
 me:((r,c),M.kp r.2 c)∈s'.cs (M.ins r.2 c)
theorem Ok.call {c:Nat} (ok:Ok M s) (mo:M.Ok) (hr:r∈s.ks) (hc:c∈M.s0):CallsOk M s r c (s.call (M.ins r.2 c) r c (M.kp r.2 c)):=by
 have k0:=ok.cs (M.ins r.2 c);refine ⟨⟨ok.nd,ok.rch,ok.num,ok.ndi,ok.inner,ok.li,cW ok.ndc,fun e m=>?_,fun e m=>?_,ok.wt,ok.phi⟩,⟨fun U m=>m,fun U m=>m,fun U m=>.inl m,le_refl _⟩,fun p e m=>?_,?_⟩
 ·rcases set_all m with rfl | m
  ·exact mo.ins _ ((ok.rch r hr).mem mo).2 _ hc
  ·exact ok.cu e m
 ·rcases set_all m with rfl | m
  ·refine ⟨cW k0.nd,fun e m=>?_⟩;rcases set_all m with rfl | m
   ·exact ⟨hr,hc,rfl,rfl⟩
   ·exact k0.all e m
  ·exact ok.ca e m
 ·rw [call_cs];by_cases z:p=M.ins r.2 c
  ·rw [if_pos z];refine tC (z▸m) fun q=>?_;rw [((ok.cs p).all e m).2.2.2,q]
  ·rw [if_neg z]; exact m
 ·rw [call_cs,if_pos rfl]; exact za
noncomputable def grow (M:Sys) (rs:List Rw) (r:Rw):List Rw:=M.s2.map (fun c=>(r.1,M.on r.2 c))++M.s0.flatMap fun c=>(M.ins r.2 c,M.ins r.2 c) :: (rs.flatMap fun t=>if t.1=M.ins r.2 c then M.s1.map fun d=>(r.1,M.cl t.2 (M.kp r.2 c) d) else [])
def ul {rs:List Rw} (h:∀ t∈rs,Rch M t) (hr:Rch M r):∀ g∈grow M rs r,Rch M g:=fun g m=>by
 rcases mem_append.mp m with m | m
 ·obtain ⟨c,mc,rfl⟩:=zA7 m;exact hr.on mc
 ·obtain ⟨c,mc,m⟩:=mem_flatMap.mp m;rcases mem_cons.mp m with rfl | m
  ·exact hr.op mc
  ·obtain ⟨t,mt,m⟩:=mem_flatMap.mp m;by_cases z:t.1=M.ins r.2 c
   ·rw [if_pos z] at m;obtain ⟨d,md,rfl⟩:=zA7 m;exact hr.cl mc (h t mt) z md
   ·rw [if_neg z] at m; exact nM m
def nH (mo:M.Ok) {rs:List Rw} (h:rs.length<=16):(grow M rs r).length<=300:=by
 unfold grow;rw [zB5,zA4];have h2:=dT (f:=fun c=>(M.ins r.2 c,M.ins r.2 c) :: (rs.flatMap fun t=>if t.1=M.ins r.2 c then M.s1.map fun d=>(r.1,M.cl t.2 (M.kp r.2 c) d) else [])) (n:=65) (fun c=>by
  rw [zB4];refine succ_le_succ (zB1 (dT (n:=4) (fun t=>?_) rs) (mul_le_mul_right 4 h));split
  ·rw [zA4]; exact mo.l1
  ·exact zero_le _) M.s0
 exact zB1 (add_le_add mo.l2 (zB1 h2 (mul_le_mul_right 65 mo.l0))) (by decide)
structure Shut (M:Sys) (rs:List Rw):Prop where
 all:∀ r∈rs,∀ g∈grow M rs r,g∈rs
theorem Shut.rch {rs:List Rw} (g:Shut M rs) (h0:(M.st,M.st)∈rs) (h:Rch M r):r∈rs:=by
 induction h with
 | start=>exact h0
 | on h m ih=>exact g.all _ ih _ (mem_append_left _ (mem_map.mpr ⟨_,m,rfl⟩))
 | op h m ih=>exact g.all _ ih _ (mem_append_right _ (mem_flatMap.mpr ⟨_,m,.head _⟩))
 | cl h m h' e m' ih ih'=>exact g.all _ ih _ (mem_append_right _ (mem_flatMap.mpr ⟨_,m,.tail _ (mem_flatMap.mpr ⟨_,ih',by rw [if_pos e]; exact mem_map.mpr ⟨_,m',rfl⟩⟩)⟩))
def sr {rs Fe:List Rw} (h:∀ t∈rs,t∈Fe):∀ g∈grow M rs r,g∈grow M Fe r:=fun g m=>by
 rcases mem_append.mp m with m | m
 ·exact mem_append_left _ m
 ·refine mem_append_right _ ?_;obtain ⟨c,mc,m⟩:=mem_flatMap.mp m;refine mem_flatMap.mpr ⟨c,mc,?_⟩;rcases mem_cons.mp m with rfl | m
  ·exact .head _
  ·obtain ⟨t,mt,m⟩:=mem_flatMap.mp m;exact .tail _ (mem_flatMap.mpr ⟨t,h t mt,m⟩)
end
def Ao (hf:fns[f]?=some fn) (hi:fn.kind=.met) (hl:args.length+1=fn.npar) (h:exs cf fn.body (.obj o :: (args.map .v++replicate (fn.nslots - fn.npar) .unset)) fun fl G=>okK (lf G 0) fun o'=>K (fl.getD .none) o'):(step cf).o f o args K:=by
 refine ad (o:=fns[f]?) hf ?_;rw [hi];exact ⟨hl,h⟩
structure Fits (s:St):Prop where
 k:s.kn.length<=16
 w:s.wt.length<=2000
 i:s.inn.length<=16
 l:∀ e∈s.inn,e.2.length<=16
 ndi:(s.inn.map (·.1)).Nodup
def d8 (h:n<=4000):n < ac:=J5 h (by decide)
theorem Ok.fits {M:Sys} (ok:Ok M s) (mo:M.Ok):Fits s:=by
 have hk:s.ks.length<=16:=zB1 (bB ok.nd fun r m=>(ok.rch r m).rs mo) mo.rs_len;refine ⟨?_,zB1 (zB1 (le_add_right _ _) ok.phi) (by decide),zB1 ok.li hk,fun e m=>?_,ok.ndi⟩
 ·unfold St.ks at hk; rwa [zA4] at hk
 ·have q:=ok.inner e.1;rw [iZ (k:=e.1) (b:=e.2) ok.ndi m] at q;have q:e.2=_:=q;rw [q]; exact zB1 (List.length_filter_le _ _) hk
def vS (l:List (Rw×Int×List Nat)):dkV (knV l)=true:=Jb.mpr fun p m=>by obtain ⟨e,_,rfl⟩:=zA7 m; rfl
def look_kn:bP (knV l) (Rw.v r)=(lk l r).map lwV:=cF (g:=lwV) (fun U U=>pi) rfl fun U U=>rfl
def xI:bo .NotIn (Rw.v r) (.dict (knV l))=some (!(lk l r).isSome):=by
 refine (?_:(if (dkV (knV l)&&aJ (Rw.v r))=true then some (bP (knV l) (Rw.v r)).isSome else none).map _=_);rw [if_pos (zA3 ⟨vS l,zc r⟩),look_kn,Option.isSome_map]; rfl
def lK (e:lk l r=some x):opN .sub [.dict (knV l),Rw.v r]=some (lwV x):=fh (vS l) rfl (look_kn.trans (by rw [e]; rfl))
section
variable {cf:CallF} {s:St} {sv:V} {r:Rw} {m:Int} {u:List Nat} {K:Option V->Gs->Prop} {rest:List S}
def mZ {inn:List (Pr×List Rw)} (ft:Fits s) (h:K none [.obj ((⟨bv s.kn r (m,u),s.wt++[r],s.ca,inn⟩:St).o sv),.v (Rw.v r),.v (.int m),.v (text u)]) :
  exs cf [.mk (.oSet 0 2 1) [.nd .tuple [vv 2,vv 3],vv 1] [] [],.mk (.oApp 0 2 2) [vv 1] [] []] [.obj ((⟨s.kn,s.wt,s.ca,inn⟩:St).o sv),.v (Rw.v r),.v (.int m),.v (text u)] K:=by
 have e:cE (knV s.kn) (Rw.v r) (lwV (m,u))=knV (bv s.kn r (m,u)):=k4 (g:=lwV) (m,u) (fun U U=>pi) (fun U U=>rfl) rfl;refine yP (l:=knV s.kn) (v:=lwV (m,u)) (x:=Rw.v r) rfl rfl (aa (.two ix ix) rfl) ix rfl (d8 (by rw [knV,zA4]; exact zB1 ft.k (by decide))) ?_;rw [e];refine yQ (l:=s.wt.map Rw.v) (v:=Rw.v r) rfl rfl ix (d8 (by rw [zA4]; exact zB1 ft.w (by decide))) (aM ?_);have e':s.wt.map Rw.v++[Rw.v r]=(s.wt++[r]).map Rw.v:=by rw [map_append]; rfl
 rw [e'];exact h
def zh (ft:Fits s) (h:exs cf rest [.obj ((⟨s.kn,s.wt,s.ca,o6 s.inn r.1 r⟩:St).o sv),.v (Rw.v r),.v (.int m),.v (text u)] K) :
  exs cf (.mk (.oDefApp 0 2 4) [sbE (vv 1) (ii 0),vv 1] [] [] :: rest) [.obj (s.o sv),.v (Rw.v r),.v (.int m),.v (text u)] K:=by
 refine rE (l:=innV s.inn) (y:=Pr.v r.1) rfl rfl (le_of_lt (d8 (by rw [innV,zA4]; exact zB1 ft.i (by decide)))) (aa (.two ix ix) rfl) rfl ?_;have q:=l5 (f:=Pr.v) (g:=liV) (k:=r.1) (l:=s.inn) (fun U U=>pr_inj) rfl fun U U=>rfl;unfold kh;refine (?_:match idxD (s.inn.map fun e=>(Pr.v e.1,liV e.2)) (Pr.v r.1) with | some i=>_ | none=>_);generalize idxD (s.inn.map fun e=>(Pr.v e.1,liV e.2)) (Pr.v r.1)=o at q ⊢;cases q with
 | no n=>
  have e:o6 s.inn r.1 r=s.inn++[(r.1,[r])]:=by unfold o6; rw [qt n,look_none.mpr n]; rfl
  rw [e] at h;have e1:(innV s.inn++[(Pr.v r.1,PyData.list [])])[(innV s.inn).length]?=some (Pr.v r.1,.list []):=by rw [getElem?_append_right (le_refl _),sub_self]; rfl
  refine ad (z:=innV s.inn++[(Pr.v r.1,.list [])]) rfl (ad e1 (ad (z:=[]) rfl ⟨Rw.v r,ix,d8 (zero_le _),?_⟩));have e2:(innV s.inn++[(Pr.v r.1,PyData.list [])]).set (innV s.inn).length (Pr.v r.1,.list [Rw.v r])=innV (s.inn++[(r.1,[r])]):=by
   rw [List.set_append_right _ _ (le_refl _),sub_self,innV,innV,map_append]; rfl
  refine (?_:exs cf rest [.obj (sP sv (knV s.kn) (s.wt.map Rw.v) (caV s.ca) ((innV s.inn++[(Pr.v r.1,PyData.list [])]).set (innV s.inn).length (Pr.v r.1,.list [Rw.v r]))),.v (Rw.v r),.v (.int m),.v (text u)] K);rw [e2]; exact h
 | yes i b h1 h2=>
  have mk:r.1∈s.inn.map (·.1):=mem_map.mpr ⟨_,aZ h2,rfl⟩;have e:o6 s.inn r.1 r=s.inn.set i (r.1,b++[r]):=by unfold o6; rw [qr mk,kU ft.ndi h1,h2]; rfl
  rw [e] at h;have e1:(innV s.inn)[i]?=some (Pr.v r.1,liV b):=by rw [innV,Jc,h1]; rfl
  refine ad (z:=innV s.inn) rfl (ad e1 (ad (z:=b.map Rw.v) rfl ⟨Rw.v r,ix,d8 (by rw [zA4]; exact zB1 (ft.l _ (aZ h2)) (by decide)),?_⟩));have e2:(innV s.inn).set i (Pr.v r.1,.list (b.map Rw.v++[Rw.v r]))=innV (s.inn.set i (r.1,b++[r])):=by
   rw [innV,innV,map_set,liV,map_append]; rfl
  refine (?_:exs cf rest [.obj (sP sv (knV s.kn) (s.wt.map Rw.v) (caV s.ca) ((innV s.inn).set i (Pr.v r.1,.list (b.map Rw.v++[Rw.v r])))),.v (Rw.v r),.v (.int m),.v (text u)] K);rw [e2]; exact h
end
def S22 (cf:CallF):Prop:=∀ (s:St) sv r n w K,Fits s->K .none ((s.put r n w).o sv)->cf.o 22 (s.o sv) [Rw.v r,.int n,text w] K
def p22 (cf:CallF):S22 (step cf):=fun s sv r n w K ft h=>by
 refine Ao (fn:=f22) rfl rfl rfl ?_;have key:∀ m u,eI n=m->jB n w=u->exs cf [.mk .ite [.nd .or [.nd .peek [.nd (.cmp .NotIn) [vv 1,.nd (.attr 2 1) [vv 0]]],.nd .peek [.nd (.cmp .Lt) [vv 2,sbE (sbE (.nd (.attr 2 1) [vv 0]) (vv 1)) (ii 0)]]]] yB []] [.obj (s.o sv),.v (Rw.v r),.v (.int m),.v (text u)] fun fl G=>okK (lf G 0) fun o'=>K (fl.getD .none) o':=fun m u em eu=>by
  unfold St.put at h;rw [em,eu] at h;have GF:∀ {t:Bool},(!(lk s.kn r).isSome)=t->Val cf [.obj (s.o sv),.v (Rw.v r),.v (.int m),.v (text u)] (.nd .peek [.nd (.cmp .NotIn) [vv 1,.nd (.attr 2 1) [vv 0]]]) (.bool t):=fun e=>e▸aF (ao (x:=Rw.v r) (y:=.dict (knV s.kn)) ix (aa (.one ix) rfl) xI) rfl;cases e:lk s.kn r with
  | none=>
   rw [e] at h;refine lF (br (.stop (b:=false) (GF (by rw [e]; rfl)))) (lF (GF (by rw [e]; rfl)) (zh ft (mZ ft h)))
  | some x=>
   replace h:K .none ((if m < x.1 then ({ s with kn:=bv s.kn r (m,u),wt:=s.wt++[r] }:St) else s).o sv):=by rw [e] at h; exact h
   refine gT (t:=decide (m < x.1)) (br (.go (b:=false) (GF (by rw [e]; rfl)) (.one' (aF (ao (x:=.int m) (y:=.int x.1) ix (aa (vs:=[lwV x,.int 0]) (.two (aa (vs:=[.dict (knV s.kn),Rw.v r]) (.two (aa (.one ix) rfl) ix) (lK e)) ix) rfl) rfl) rfl)))) (fun q=>?_) fun q=>?_
   ·rw [if_pos (of_decide_eq_true q)] at h;exact aW (GF (by rw [e]; rfl)) (mZ ft h)
   ·rw [if_neg (of_decide_eq_false q)] at h;exact aM h
 refine gT (t:=decide (100 < n)) (ao ix ix rfl) (fun q=>?_) fun q=>?_
 ·exact am (v:=.int 101) (aa (.two ix ix) rfl) (am (v:=text []) ix (key 101 [] (if_pos (of_decide_eq_true q)) (if_pos (of_decide_eq_true q))))
 ·exact key n w (if_neg (of_decide_eq_false q)) (if_neg (of_decide_eq_false q))
def cH {K:Option V->Gs->Prop} {α:Type} {g:α->V} {ws:List α} {I:List α->Gs->Prop} (hs:Val cf G s v) (hq:bM v=some (ws.map g)) (h0:I ws G) (done:∀ G,I [] G->exs cf r G K)
  (turn:∀ w B9 G Kt,w∈ws->I (w :: B9) G->(∀ G',I B9 G'->Kt none G')->(∀ y G',K (some y) G'->Kt (some y) G')->exs cf body (G.set k (.v (g w))) Kt):exs cf (.mk (.forS k) [s] body [] :: r) G K:=by
 refine lG (P:=fun l G=>∃ B9:List α,l=B9.map g/\(∀ w∈B9,w∈ws)/\I B9 G) hs hq ⟨ws,rfl,fun U m=>m,h0⟩ ?_ ?_
 ·rintro G ⟨B9,e,_,h⟩;obtain rfl:B9=[]:=map_eq_nil_iff.mp e.symm;exact done G h
 ·rintro x l G Kt ⟨B9,e,hm,h⟩ nx rt;cases B9 with
  | nil=>exact nomatch e
  | cons w B9=>
   obtain ⟨rfl,rfl⟩:=zA5 e;exact turn w B9 G Kt (hm w (.head _)) h (fun G' q=>nx G' ⟨B9,rfl,fun j m=>hm j (.tail _ m),q⟩) rt
def kR {K:Option V->Gs->Prop} {α:Type} {g:α->V} {ws:List α} {I:List α->Gs->Prop} (hs:Val cf G s v) (hq:bM v=some (ws.map g)) (h0:I ws G) (done:∀ G,I [] G->exs cf r G K)
  (turn:∀ w B9 G Kt,w∈ws->I (w :: B9) G->(∀ G',I B9 G'->Kt none G')->(∀ y G',K (some y) G'->Kt (some y) G')->okK (bu ks G (g w)) fun G'=>exs cf body G' Kt):exs cf (.mk (.forM ks) [s] body [] :: r) G K:=by
 refine yS (P:=fun l G=>∃ B9:List α,l=B9.map g/\(∀ w∈B9,w∈ws)/\I B9 G) hs hq ⟨ws,rfl,fun U m=>m,h0⟩ ?_ ?_
 ·rintro G ⟨B9,e,_,h⟩;obtain rfl:B9=[]:=map_eq_nil_iff.mp e.symm;exact done G h
 ·rintro x l G Kt ⟨B9,e,hm,h⟩ nx rt;cases B9 with
  | nil=>exact nomatch e
  | cons w B9=>
   obtain ⟨rfl,rfl⟩:=zA5 e;exact turn w B9 G Kt (hm w (.head _)) h (fun G' q=>nx G' ⟨B9,rfl,fun j m=>hm j (.tail _ m),q⟩) rt
noncomputable def svM (M:Sys) (us vs:List W):V:=jj (sg M.s0 M.s1 M.s2) us vs
structure Real (M:Sys) (R R':Int) (us vs:List W):Prop where
 two:TwoW M.s0 M.s1 M.s2 R R' us vs
 mo:M.Ok
 on:∀ q∈M.un,∀ c∈M.s2,.on q.1 c (M.on q c).1∈us/\.on q.2 c (M.on q c).2∈vs
 op:∀ q∈M.un,∀ c∈M.s0,.op q.1 c (M.ins q c).1 (M.kp q c).1∈us/\.op q.2 c (M.ins q c).2 (M.kp q c).2∈vs
 cl:∀ q∈M.un,∀ k∈M.un,∀ c∈M.s1,.cl q.1 k.1 c (M.cl q k c).1∈us/\.cl q.2 k.2 c (M.cl q k c).2∈vs
structure ClOk (M:Sys) (s:St) (r t:Rw) (k:Pr) (B9:List Nat) (s':St):Prop where
 ok:Ok M s'
 ext:Ext M s s'
 ca:s'.ca=s.ca
 cl:∀ d∈M.s1,d∈B9\/(r.1,M.cl t.2 k d)∈s'.ks
def cD {α:Type} {c d:α} {B9:List α} {p:α->Prop} (h:d∈c :: B9\/p d) (q:p c):d∈B9\/p d:=h.elim (fun m=>(mem_cons.mp m).elim (fun e=>.inr (e▸q)) .inl) .inr
def bD {α:Type} {d:α} {p:Prop} (h:d∈([]:List α)\/p):p:=h.elim (fun m=>nM m) id
def cr (h:l.length<=4):bM (text l)=some (l.map fun c=>text [c]):=iW (zB1 h (by decide))
noncomputable def g23 (s:St) (sv:V) (r:Rw) (c:Nat) (k:Pr) (t:Rw) (x y:Int×List Nat) (s9 s10:Slot):Gs:=[.obj (s.o sv),.v (Rw.v r),.v (text [c]),.v (Pr.v k),.v (Rw.v t),.v (.int x.1),.v (text x.2),.v (.int y.1),.v (text y.2),s9,s10]
inductive I23 (M:Sys) (sv:V) (s:St) (r:Rw) (c:Nat) (k:Pr) (t:Rw) (x y:Int×List Nat) (B9:List Nat):Gs->Prop where
 | mk (s':St) (s9 s10:Slot) (h:ClOk M s r t k B9 s'):I23 M sv s r c k t x y B9 (g23 s' sv r c k t x y s9 s10)
def S23 (cf:CallF):Prop:=∀ M R R' us vs s r c t K,Real M R R' us vs->Ok M s->r∈s.ks->t∈s.ks->c∈M.s0->t.1=M.ins r.2 c->(∀ s',ClOk M s r t (M.kp r.2 c) [] s'->K .none (s'.o (svM M us vs)))->cf.o 23 (s.o (svM M us vs)) [Rw.v r,text [c],Pr.v (M.kp r.2 c),Rw.v t] K
def p23 (cf:CallF) (h8:S8 cf) (D8:S22 cf):S23 (step cf):=fun M R R' us vs s r c t K rl ok mr mt mc et h=>by
 obtain ⟨x,ex⟩:=i6 mr;obtain ⟨y,ey⟩:=i6 mt;have nx:0<=x.1/\x.1<=101/\(x.2.length:Int)<=x.1:=ok.num _ (aZ ex);have ny:0<=y.1/\y.1<=101/\(y.2.length:Int)<=y.1:=ok.num _ (aZ ey);have ur:=((ok.rch r mr).mem rl.mo).2;have ut:=((ok.rch t mt).mem rl.mo).2;have uk:=rl.mo.kp _ ur c mc;refine Ao (fn:=f23) rfl rfl rfl ?_;refine cV (v:=lwV x) (aF (aa (vs:=[.dict (knV s.kn),Rw.v r]) (.two (aa (.one ix) rfl) ix) (lK ex)) rfl) rfl ?_;refine cV (v:=lwV y) (aF (aa (vs:=[.dict (knV s.kn),Rw.v t]) (.two (aa (.one ix) rfl) ix) (lK ey)) rfl) rfl ?_;refine cH (g:=fun d=>text [d]) (ws:=M.s1) (v:=text M.s1) (I:=I23 M (svM M us vs) s r c (M.kp r.2 c) t x y) (aF (aa (vs:=[sg M.s0 M.s1 M.s2,.int 1]) (.two (aa (.one (aa (.one ix) rfl)) rfl) ix) rfl) rfl) (cr rl.mo.l1) (.mk s .unset .unset ⟨ok,.refl M s,rfl,fun d m=>.inl m⟩) ?_ ?_
 ·rintro G ⟨s',_,_,q⟩;exact aM (h s' q)
 ·rintro d B9 G Kt md ⟨s',_,_,q⟩ nx' _;have cl:=rl.cl _ ut _ uk d md;have z1:(x.2++[c]).length<=5000:=by rw [zB5]; have:[c].length=1:=rfl; omega
  have z2:(x.2++[c]++y.2).length<=5000:=by rw [zB5,zB5]; have:[c].length=1:=rfl; omega
  have z3:((x.2++[c]++y.2++[d]).length:Int)<=x.1+y.1+2:=by rw [zB5,zB5,zB5]; have:[c].length=1:=rfl; have:[d].length=1:=rfl; omega
  have z4:(x.2++[c]++y.2++[d]).length<=5000:=by omega
  refine am (v:=Rw.v (r.1,M.cl t.2 (M.kp r.2 c) d)) (aa (vs:=[Pr.v r.1,Pr.v (M.cl t.2 (M.kp r.2 c) d)]) (.two (aa (.two ix ix) rfl) (aF (ch (x:=svM M us vs) (vs:=[Pr.v t.2,Pr.v (M.kp r.2 c),text [d]]) (aa (.one ix) rfl) rfl (.cons (aa (.two ix ix) rfl) (.two ix ix)) fun K h=>h8 _ _ _ _ _ _ _ _ _ _ _ _ _ _ _ K rl.two cl.1 cl.2 h) rfl)) rfl) ?_;refine eC (ob:=s'.o (svM M us vs)) (vs:=[Rw.v (r.1,M.cl t.2 (M.kp r.2 c) d),.int (x.1+y.1+2),text (x.2++[c]++y.2++[d])]) rfl (.cons ix (.two (aa (vs:=[.int (x.1+y.1),.int 2]) (.two (aa (.two ix ix) rfl) ix) rfl) (aa (vs:=[text (x.2++[c]++y.2),text [d]]) (.two (aa (vs:=[text (x.2++[c]),text y.2]) (.two (aa (vs:=[text x.2,text [c]]) (.two ix ix) (gS z1)) ix) (gS z2)) ix) (gS z4)))) (D8 s' _ _ _ _ _ (q.ok.fits rl.mo) ⟨rfl,aM (nx' _ ?_)⟩);have p:=q.ok.put (r:=(r.1,M.cl t.2 (M.kp r.2 c) d)) (n:=x.1+y.1+2) (w:=x.2++[c]++y.2++[d]) rl.mo ((ok.rch r mr).cl mc (ok.rch t mt) et md) (by omega) z3;exact .mk _ _ _ ⟨p.ok,q.ext.trans p.ext,p.ca.trans q.ca,fun e me=>cD (p:=fun d=>(r.1,M.cl t.2 (M.kp r.2 c) d)∈_) ((q.cl e me).imp id (p.ext.ks _)) p.mem⟩
def u1 {a b:Rw×Nat} (h:rsV a=rsV b):a=b:=by
 have h:=PyData.tuple.inj h;injection h with h0 h; injection h with h1 h
 exact Prod.ext (pi h0) (zA5 (congrArg (fun s:Str=>s.cps.toList) (PyData.str.inj h1))).1
def u0 {r:Rw} {c:Nat} (h:low c=true):aJ (rsV (r,c))=true:=by
 have:strOk ⟨#[c]⟩=true:=k9 (l:=[c]) fun x m=>by obtain rfl:=zA6 m; exact h
 refine (?_:(true&&(strOk ⟨#[c]⟩&&true))=true);rw [this]; rfl
section
variable {M:Sys} {s:St} {d:List ((Rw×Nat)×Pr)} {p:Pr}
theorem CaOk.len (h:CaOk M s.ks p d) (ok:Ok M s) (mo:M.Ok):d.length<=64:=by
 have q:=bB (m:=s.ks.flatMap fun r=>M.s0.map fun c=>(r,c)) h.nd fun e m=>by
  obtain ⟨x,mx,rfl⟩:=zA7 m;exact mem_flatMap.mpr ⟨x.1.1,(h.all x mx).1,mem_map.mpr ⟨x.1.2,(h.all x mx).2.1,rfl⟩⟩
 rw [zA4] at q;refine zB1 q (zB1 (dT (n:=4) (fun r=>by rw [zA4]; exact mo.l0) _) ?_);have hk:s.ks.length<=16:=zB1 (bB ok.nd fun r m=>(ok.rch r m).rs mo) mo.rs_len;exact mul_le_mul_right 4 hk
theorem CaOk.key (h:CaOk M ks p d) (sk:SgOk M.s0 M.s1 M.s2):∀ e∈d,aJ (rsV e.1)=true:=fun e m=>u0 (sk.lowA (h.all e m).2.1)
theorem CaOk.dk (h:CaOk M ks p d) (sk:SgOk M.s0 M.s1 M.s2):dkV (d.map fun x=>(rsV x.1,Pr.v x.2))=true:=Jb.mpr fun q m=>by obtain ⟨e,me,rfl⟩:=zA7 m; exact h.key sk e me
theorem Ok.ca_len (ok:Ok M s) (mo:M.Ok):(caV s.ca).length<=4:=by
 have q:=bB ok.ndc fun e m=>by obtain ⟨x,mx,rfl⟩:=zA7 m; exact ok.cu x mx
 rw [zA4] at q;rw [caV,zA4]; exact zB1 q mo.len
end
noncomputable def g24 (s:St) (sv:V) (r:Rw) (x:Int×List Nat) (s4 s5 s6 s7 s8 s9 s10:Slot):Gs:=[.obj (s.o sv),.v (Rw.v r),.v (.int x.1),.v (text x.2),s4,s5,s6,s7,s8,s9,s10]
section
variable {cf:CallF} {M:Sys} {s:St} {sv:V} {r:Rw} {x:Int×List Nat} {c:Nat} {p k:Pr} {s7 s8 s9 s10:Slot} {rest:List S} {K:Option V->Gs->Prop}
def uM (ok:Ok M s) (mo:M.Ok) (sk:SgOk M.s0 M.s1 M.s2) (hc:c∈M.s0) (h:∀ i,exs cf rest (g24 (s.call p r c k) sv r x (.v (text [c])) (.v (Pr.v p)) (.v (Pr.v k)) (.ali 0 3 i) s8 s9 s10) K) :
  exs cf (.mk (.aliS 7 0 2 3) [vv 5] [] [] :: .mk (.aliSet 7) [vv 6,.nd .tuple [vv 1,vv 4]] [] [] :: rest) (g24 s sv r x (.v (text [c])) (.v (Pr.v p)) (.v (Pr.v k)) s7 s8 s9 s10) K:=by
 have kc:=u0 (r:=r) (sk.lowA hc);refine yU (ob:=s.o sv) (l:=caV s.ca) (y:=Pr.v p) rfl rfl (bU (zB1 (ok.ca_len mo) (by decide))) ix rfl ?_;have q:=l5 (f:=Pr.v) (g:=dcV) (k:=p) (l:=s.ca) (fun U U=>pr_inj) rfl fun U U=>rfl;unfold kh;refine (?_:match idxD (s.ca.map fun e=>(Pr.v e.1,dcV e.2)) (Pr.v p) with | some i=>_ | none=>_);generalize idxD (s.ca.map fun e=>(Pr.v e.1,dcV e.2)) (Pr.v p)=o at q ⊢;cases q with
 | no n=>
  have e1:(caV s.ca++[(Pr.v p,PyData.dict [])])[(caV s.ca).length]?=some (Pr.v p,.dict []):=by rw [getElem?_append_right (le_refl _),sub_self]; rfl
  have e2:(caV s.ca++[(Pr.v p,PyData.dict [])]).set (caV s.ca).length (Pr.v p,.dict (cE [] (rsV (r,c)) (Pr.v k)))=caV (s.call p r c k).ca:=by
   unfold St.call St.cs;rw [look_none.mpr n,qt n,List.set_append_right _ _ (le_refl _),sub_self,caV,caV,map_append]; rfl
  refine mJ (l:=caV s.ca++[(Pr.v p,PyData.dict [])]) (i:=(caV s.ca).length) (q:=Pr.v p) (d:=[]) (v:=Pr.v k) (x:=rsV (r,c)) (congrArg (Option.map _) e1) ix (aa (.two ix ix) rfl) kc (by decide) ?_;rw [e2];exact h _
 | yes i b h1 h2=>
  have eb:s.cs p=b:=by unfold St.cs; rw [h2]; rfl
  have co:CaOk M s.ks p b:=ok.ca _ (aZ h2);have mk:p∈s.ca.map (·.1):=mem_map.mpr ⟨_,aZ h2,rfl⟩;have e1:(caV s.ca)[i]?=some (Pr.v p,dcV b):=by rw [caV,Jc,h1]; rfl
  have e2:(caV s.ca).set i (Pr.v p,.dict (cE (b.map fun x=>(rsV x.1,Pr.v x.2)) (rsV (r,c)) (Pr.v k)))=caV (s.call p r c k).ca:=by
   unfold St.call;rw [k4 (f:=rsV) (g:=Pr.v) k (fun U U=>u1) (co.key sk) kc,eb,qr mk,<- kU ok.ndc h1,caV,caV,map_set]; rfl
  refine mJ (l:=caV s.ca) (i:=i) (q:=Pr.v p) (d:=b.map fun x:(Rw×Nat)×Pr=>(rsV x.1,Pr.v x.2)) (v:=Pr.v k) (x:=rsV (r,c)) (congrArg (Option.map _) e1) ix (aa (.two ix ix) rfl) kc (d8 (by rw [zA4]; exact zB1 (co.len ok mo) (by decide))) ?_;rw [e2];exact h _
end
structure OpD (M:Sys) (s:St) (r:Rw) (c:Nat) (s':St):Prop where
 op:(M.ins r.2 c,M.ins r.2 c)∈s'.ks
 me:((r,c),M.kp r.2 c)∈s'.cs (M.ins r.2 c)
 cl:∀ t∈s.ks,t.1=M.ins r.2 c->∀ d∈M.s1,(r.1,M.cl t.2 (M.kp r.2 c) d)∈s'.ks
structure GoP (M:Sys) (s:St) (r:Rw) (a b:List Nat) (s':St):Prop where
 ok:Ok M s'
 ext:Ext M s s'
 ca:∀ p e,e∈s.cs p->e∈s'.cs p
 on:∀ c∈M.s2,c∈a\/(r.1,M.on r.2 c)∈s'.ks
 op:∀ c∈M.s0,c∈b\/OpD M s r c s'
theorem GoP.mono {M:Sys} (h:GoP M s r a b s') (ok:Ok M CG) (e:Ext M s' CG) (c:∀ p e,e∈s'.cs p->e∈CG.cs p):GoP M s r a b CG:=
 ⟨ok,h.ext.trans e,fun p x m=>c p x (h.ca p x m),fun y m=>(h.on y m).imp id (e.ks _),fun y m=>(h.op y m).imp id fun o=>⟨e.ks _ o.op,c _ _ o.me,fun t mt et d md=>e.ks _ (o.cl t mt et d md)⟩⟩
def iG (h:s'.ca=s.ca):∀ p e,e∈St.cs s p->e∈St.cs s' p:=fun p e m=>by unfold St.cs at m ⊢; rw [h]; exact m
section
variable {cf:CallF} {M:Sys} {s:St} {sv:V} {r:Rw} {x:Int×List Nat} {s4 s5 s6 s7 s8 s9 s10:Slot} {rest:List S} {K:Option V->Gs->Prop}
inductive IOn (M:Sys) (sv:V) (s:St) (r:Rw) (x:Int×List Nat) (B9:List Nat):Gs->Prop where
 | mk (s':St) (s4:Slot) (h:GoP M s r B9 M.s0 s'):IOn M sv s r x B9 (g24 s' sv r x s4 .unset .unset .unset .unset .unset .unset)
def AU (h6:S6 cf) (D8:S22 cf) (rl:Real M R R' us vs) (ok:Ok M s) (mr:r∈s.ks) (nx:0<=x.1/\x.1<=101/\(x.2.length:Int)<=x.1) (h:∀ s' s4,GoP M s r [] M.s0 s'->exs cf rest (g24 s' (svM M us vs) r x s4 .unset .unset .unset .unset .unset .unset) K) :
  exs cf (.mk (.forS 4) [.nd .peek [(sbE (.nd (.attr 1 0) [.nd (.attr 2 0) [vv 0]]) (ii 2))]] yA [] :: rest) (g24 s (svM M us vs) r x .unset .unset .unset .unset .unset .unset .unset) K:=by
 have ur:=((ok.rch r mr).mem rl.mo).2;refine cH (g:=fun d=>text [d]) (ws:=M.s2) (v:=text M.s2) (I:=IOn M (svM M us vs) s r x) (aF (aa (vs:=[sg M.s0 M.s1 M.s2,.int 2]) (.two (aa (.one (aa (.one ix) rfl)) rfl) ix) rfl) rfl) (cr rl.mo.l2) (.mk s .unset ⟨ok,.refl M s,fun U U m=>m,fun c m=>.inl m,fun c m=>.inl m⟩) ?_ ?_
 ·rintro G ⟨s',s4,q⟩; exact h s' s4 q
 ·rintro c B9 G Kt mc ⟨s',s4,q⟩ nx' _;have on:=rl.on _ ur c mc;have z1:((x.2++[c]).length:Int)<=x.1+1:=by rw [zB5]; have:[c].length=1:=rfl; omega
  have z2:(x.2++[c]).length<=5000:=by omega
  refine eC (ob:=s'.o (svM M us vs)) (vs:=[Rw.v (r.1,M.on r.2 c),.int (x.1+1),text (x.2++[c])]) rfl (.cons (aa (vs:=[Pr.v r.1,Pr.v (M.on r.2 c)]) (.two (aa (.two ix ix) rfl) (aF (ch (x:=svM M us vs) (vs:=[Pr.v r.2,text [c]]) (aa (.one ix) rfl) rfl (.two (aa (.two ix ix) rfl) ix) fun K h=>h6 _ _ _ _ _ _ _ _ _ _ _ _ _ K rl.two on.1 on.2 h) rfl)) rfl) (.two (aa (.two ix ix) rfl) (aa (vs:=[text x.2,text [c]]) (.two ix ix) (gS z2)))) (D8 s' _ _ _ _ _ (q.ok.fits rl.mo) ⟨rfl,aM (nx' _ ?_)⟩);have p:=q.ok.put (r:=(r.1,M.on r.2 c)) (n:=x.1+1) (w:=x.2++[c]) rl.mo ((ok.rch r mr).on mc) (by omega) z1;have g:=q.mono p.ok p.ext (iG p.ca);exact .mk _ _ ⟨g.ok,g.ext,g.ca,fun e me=>cD (p:=fun d=>(r.1,M.on r.2 d)∈_) (g.on e me) p.mem,g.op⟩
end
def Ab (l:List (Pr×List Rw)):dkV (innV l)=true:=Jb.mpr fun p m=>by obtain ⟨e,_,rfl⟩:=zA7 m; rfl
def wa (e:lk l p=some L):opN .sub [.dict (innV l),Pr.v p]=some (liV L):=fh (Ab l) rfl ((cF (g:=liV) (fun U U=>pr_inj) rfl fun U U=>rfl).trans (by rw [e]; rfl))
theorem Ok.lk_inn {M:Sys} (ok:Ok M s) (m:(p,p)∈s.ks):lk s.inn p=some (s.ks.filter fun r=>r.1=p):=by
 have q:=ok.inner p;cases e:lk s.inn p with
 | none=>
  rw [e] at q;have w:(p,p)∈s.ks.filter fun r=>r.1=p:=mem_filter.mpr ⟨m,decide_eq_true rfl⟩;rw [<- q] at w; exact nM w
 | some L=>rw [e] at q; exact congrArg some q
def sy (l:List Rw):eU (liV l)=true:=Jb.mpr fun x m=>by obtain ⟨r,_,rfl⟩:=zA7 m; rfl
section
variable {cf:CallF} {M:Sys} {s:St} {sv:V} {r:Rw} {x:Int×List Nat} {s4 s5 s6 s7 s8 s9 s10:Slot} {rest:List S} {K:Option V->Gs->Prop}
inductive IIn (M:Sys) (sv:V) (s:St) (r:Rw) (x:Int×List Nat) (c:Nat) (L:List Rw) (B9:List Rw):Gs->Prop where
 | mk (s':St) (s7 s8:Slot) (ok:Ok M s') (ext:Ext M s s') (ca:s'.ca=s.ca) (cl:∀ t∈L,t∈B9\/∀ d∈M.s1,(r.1,M.cl t.2 (M.kp r.2 c) d)∈s'.ks):IIn M sv s r x c L B9 (g24 s' sv r x (.v (text [c])) (.v (Pr.v (M.ins r.2 c))) (.v (Pr.v (M.kp r.2 c))) s7 s8 .unset .unset)
def AV (EJ:S23 cf) (rl:Real M R R' us vs) (ok:Ok M s) (mr:r∈s.ks) (mc:c∈M.s0) (mi:(M.ins r.2 c,M.ins r.2 c)∈s.ks)
  (h:∀ s' s7 s8,Ok M s'->Ext M s s'->s'.ca=s.ca->(∀ t∈s.ks,t.1=M.ins r.2 c->∀ d∈M.s1,(r.1,M.cl t.2 (M.kp r.2 c) d)∈s'.ks)->exs cf rest (g24 s' (svM M us vs) r x (.v (text [c])) (.v (Pr.v (M.ins r.2 c))) (.v (Pr.v (M.kp r.2 c))) s7 s8 .unset .unset) K) :
  exs cf (.mk (.forS 8) [.nd .peekN [.nd .listOf [(sbE (.nd (.attr 2 4) [vv 0]) (vv 5))]]] yz [] :: rest) (g24 s (svM M us vs) r x (.v (text [c])) (.v (Pr.v (M.ins r.2 c))) (.v (Pr.v (M.kp r.2 c))) s7 s8 .unset .unset) K:=by
 have e:=ok.lk_inn mi;have hz:((s.ks.filter fun DO=>DO.1=M.ins r.2 c).map Rw.v).length<=5000:=by rw [zA4]; exact zB1 ((ok.fits rl.mo).l _ (aZ e)) (by decide)
 refine cH (g:=Rw.v) (ws:=s.ks.filter fun DO=>DO.1=M.ins r.2 c) (v:=liV (s.ks.filter fun DO=>DO.1=M.ins r.2 c)) (I:=IIn M (svM M us vs) s r x c (s.ks.filter fun DO=>DO.1=M.ins r.2 c)) (d0 (aa (vs:=[liV (s.ks.filter fun DO=>DO.1=M.ins r.2 c)]) (.one (aa (vs:=[.dict (innV s.inn),Pr.v (M.ins r.2 c)]) (.two (aa (.one ix) rfl) ix) (wa e))) (io hz)) (sy _)) (aY hz) (.mk s s7 s8 ok (.refl M s) rfl fun t m=>.inl m) ?_ ?_
 ·rintro G ⟨s',s7,s8,Eu,ext,ca,cl⟩;exact h s' s7 s8 Eu ext ca fun t mt et=>bD (cl t (mem_filter.mpr ⟨mt,decide_eq_true et⟩))
 ·rintro t B9 G Kt mt ⟨s',s7,s8,Eu,ext,ca,cl⟩ nx _;have mt:=mem_filter.mp mt;refine eC (ob:=s'.o (svM M us vs)) (vs:=[Rw.v r,text [c],Pr.v (M.kp r.2 c),Rw.v t]) rfl (.cons ix (.cons ix (.two ix ix))) (EJ M _ _ us vs s' r c t _ rl Eu (ext.ks _ mr) (ext.ks _ mt.1) mc (of_decide_eq_true mt.2) fun CG q=>⟨rfl,aM (nx _ ?_)⟩);exact .mk CG s7 _ q.ok (ext.trans q.ext) (q.ca.trans ca) fun u mu=>cD (p:=fun t:Rw=>∀ d∈M.s1,(r.1,M.cl t.2 (M.kp r.2 c) d)∈CG.ks) ((cl u mu).imp id fun w d md=>q.ext.ks _ (w d md)) fun d md=>bD (q.cl d md)
inductive IOp (M:Sys) (sv:V) (s:St) (r:Rw) (x:Int×List Nat) (B9:List Nat):Gs->Prop where
 | mk (s':St) (s4 s5 s6 s7 s8:Slot) (h:GoP M s r [] B9 s'):IOp M sv s r x B9 (g24 s' sv r x s4 s5 s6 s7 s8 .unset .unset)
def AT (h7:S7 cf) (D8:S22 cf) (EJ:S23 cf) (rl:Real M R R' us vs) (ok:Ok M s) (mr:r∈s.ks) (g0:GoP M s r [] M.s0 s0) (h:∀ s' s4 s5 s6 s7 s8,GoP M s r [] [] s'->exs cf rest (g24 s' (svM M us vs) r x s4 s5 s6 s7 s8 .unset .unset) K) :
  exs cf (.mk (.forS 4) [.nd .peek [(sbE (.nd (.attr 1 0) [.nd (.attr 2 0) [vv 0]]) (ii 0))]] yy [] :: rest) (g24 s0 (svM M us vs) r x s4 .unset .unset .unset .unset .unset .unset) K:=by
 have ur:=((ok.rch r mr).mem rl.mo).2;refine cH (g:=fun d=>text [d]) (ws:=M.s0) (v:=text M.s0) (I:=IOp M (svM M us vs) s r x) (aF (aa (vs:=[sg M.s0 M.s1 M.s2,.int 0]) (.two (aa (.one (aa (.one ix) rfl)) rfl) ix) rfl) rfl) (cr rl.mo.l0) (.mk s0 _ _ _ _ _ g0) ?_ ?_
 ·rintro G ⟨s',s4,s5,s6,s7,s8,q⟩; exact h s' s4 s5 s6 s7 s8 q
 ·rintro c B9 G Kt mc ⟨s1,s4,s5,s6,s7,s8,q⟩ nx _;have op:=rl.op _ ur c mc;refine cV (v:=.tuple [Pr.v (M.ins r.2 c),Pr.v (M.kp r.2 c)]) (aF (ch (x:=svM M us vs) (vs:=[Pr.v r.2,text [c]]) (aa (.one ix) rfl) rfl (.two (aa (.two ix ix) rfl) ix) fun K h=>h7 _ _ _ _ _ _ _ _ _ _ _ _ _ _ _ K rl.two op.1 op.2 h) rfl) rfl ?_;have mr1:=q.ext.ks _ mr;refine uM (s7:=s7) (s8:=s8) (s9:=.unset) (s10:=.unset) q.ok rl.mo rl.two.sk mc fun i=>?_;have c2:=q.ok.call rl.mo mr1 mc;have ri:=(ok.rch r mr).op mc;refine eC (ob:=(s1.call (M.ins r.2 c) r c (M.kp r.2 c)).o (svM M us vs)) (vs:=[Rw.v (M.ins r.2 c,M.ins r.2 c),.int 0,text []]) rfl (.cons (aa (.two ix ix) rfl) (.two ix ix)) (D8 _ _ _ _ _ _ (c2.ok.fits rl.mo) ⟨rfl,?_⟩);have p:=c2.ok.put (r:=(M.ins r.2 c,M.ins r.2 c)) (n:=0) (w:=[]) rl.mo ri (by decide) (by decide);refine AV (s7:=.ali 0 3 i) (s8:=s8) EJ rl p.ok (p.ext.ks _ (c2.ext.ks _ mr1)) mc p.mem fun s' s7 s8 Eu ext ca cl=>aM (nx _ (.mk s' _ _ _ s7 s8 ?_));have cs':∀ y e,e∈(s1.call (M.ins r.2 c) r c (M.kp r.2 c)).cs y->e∈s'.cs y:=fun y e m=>iG ca y e (iG p.ca y e m);have g:=q.mono Eu (c2.ext.trans (p.ext.trans ext)) fun y e m=>cs' y e (c2.ca y e m);exact ⟨g.ok,g.ext,g.ca,g.on,fun e me=>cD (p:=fun c=>OpD M s r c s') (g.op e me) ⟨ext.ks _ p.mem,cs' _ _ c2.me,fun t mt et=>cl t (p.ext.ks _ (c2.ext.ks _ (q.ext.ks _ mt))) et⟩⟩
end
def th (hm:G[m]?=some (.ali a b c)) (h:lC G m=some (k,j,i,o,l,q,x)):Val cf (eF G) (vv m) x:=fun K n=>by
 have e:getSlot (eF G) m=.v x:=by
  unfold getSlot;rw [getD_eq_getElem?_getD,frz_at,hm];refine (?_:(match lC G m with | some (_,_,_,_,_,_,x)=>Slot.v x | none=>.junk)=_);rw [h]
 refine (?_:okK (uQ (eF G) m) K);unfold uQ; rw [e]; exact n
def lh {d:List (V×V)} (hd:dkV d=true) (hz:d.length<=5000):opN .listOf [.dict d]=some (.list (d.map (·.1))):=by
 refine (?_:(if dkV d=true then bN d (d.map (·.1)) else none).map _=_);rw [if_pos hd,show bN d (d.map (·.1))=some (d.map (·.1)) from if_pos (bU hz)]; rfl
def y6 {M:Sys} (h:CaOk M ks p d) (sk:SgOk M.s0 M.s1 M.s2) (m:((t,c),k)∈d):opN .sub [dcV d,rsV (t,c)]=some (Pr.v k):=
 fh (h.dk sk) (h.key sk _ m) ((cF (f:=rsV) (g:=Pr.v) (fun U U=>u1) (h.key sk _ m) (h.key sk)).trans (by rw [iZ h.nd m]; rfl))
def Rd (cf:CallF) (sv:V) (r:Rw) (x:Int×List Nat) (s9:Slot) (ca:List (Pr×List ((Rw×Nat)×Pr))) (d:List ((Rw×Nat)×Pr)):Prop:=∀ (s:St) s4 s5 s6 s7 s8 s10,s.ca=ca->Val cf (eF (g24 s sv r x s4 s5 s6 s7 s8 s9 s10)) (vv 9) (dcV d)
section
variable {cf:CallF} {M:Sys} {s:St} {sv:V} {r:Rw} {x:Int×List Nat} {s4 s5 s6 s7 s8 s9 s10:Slot} {rest:List S} {K:Option V->Gs->Prop}
def xK (ok:Ok M s) (mo:M.Ok) (h:∀ s9,Rd cf sv r x s9 s.ca (s.cs r.1)->exs cf rest (g24 s sv r x s4 s5 s6 s7 s8 s9 .unset) K) :
  exs cf (.mk (.aliG 9 0 2 3) [sbE (vv 1) (ii 0)] [] [] :: rest) (g24 s sv r x s4 s5 s6 s7 s8 .unset .unset) K:=by
 have q:=l5 (f:=Pr.v) (g:=dcV) (k:=r.1) (l:=s.ca) (fun U U=>pr_inj) rfl fun U U=>rfl;refine yV (ob:=s.o sv) (l:=caV s.ca) (y:=Pr.v r.1) rfl rfl (bU (zB1 (ok.ca_len mo) (by decide))) (aa (.two ix ix) rfl) rfl (fun i e=>?_) fun e=>?_
 ·unfold caV at e;rw [e] at q;cases q with
  | yes _ b h1 h2=>
   refine h (.ali 0 3 i) fun s' U U U U U U e'=>?_;have eb:s.cs r.1=b:=by unfold St.cs; rw [h2]; rfl
   have e1:(caV s'.ca)[i]?=some (Pr.v r.1,dcV b):=by rw [e',caV,Jc,h1]; rfl
   rw [eb];exact th (k:=0) (j:=3) (i:=i) (o:=s'.o sv) (l:=caV s'.ca) (q:=Pr.v r.1) rfl (congrArg (Option.map _) e1)
 ·unfold caV at e;rw [e] at q;cases q with
  | no n=>
   refine h (.v (.dict [])) fun s' U U U U U U e'=>?_;have eb:s.cs r.1=[]:=by unfold St.cs; rw [look_none.mpr n]; rfl
   rw [eb];exact ix
inductive IBk (M:Sys) (sv:V) (s s0:St) (r:Rw) (x:Int×List Nat) (s9:Slot) (B9:List ((Rw×Nat)×Pr)):Gs->Prop where
 | mk (s':St) (s4 s5 s6 s7 s8 s10:Slot) (h:GoP M s r [] [] s') (ca:s'.ca=s0.ca) (ext:Ext M s0 s') (bk:∀ e∈s0.cs r.1,e∈B9\/∀ d∈M.s1,(e.1.1.1,M.cl r.2 e.2 d)∈s'.ks):IBk M sv s s0 r x s9 B9 (g24 s' sv r x s4 s5 s6 s7 s8 s9 s10)
def wZ (EJ:S23 cf) (rl:Real M R R' us vs) (mr:r∈s.ks) (g:GoP M s r [] [] s0) (rd:Rd cf (svM M us vs) r x s9 s0.ca (s0.cs r.1)) (h:∀ s' G,GoOk M s r s'->lf G 0=some (s'.o (svM M us vs))->exs cf rest G K) :
  exs cf (.mk (.forM [10,4]) [.nd .peekN [.nd .listOf [vv 9]]] yx [] :: rest) (g24 s0 (svM M us vs) r x s4 s5 s6 s7 s8 s9 .unset) K:=by
 have co:=g.ok.cs r.1;have hz:(s0.cs r.1).length<=64:=co.len g.ok rl.mo;have ek:((s0.cs r.1).map fun e=>(rsV e.1,Pr.v e.2)).map (·.1)=(s0.cs r.1).map fun e=>rsV e.1:=map_map;have l1:((s0.cs r.1).map fun e=>rsV e.1).length<=5000:=by rw [zA4]; exact zB1 hz (by decide)
 refine kR (g:=fun e:(Rw×Nat)×Pr=>rsV e.1) (ws:=s0.cs r.1) (v:=.list ((s0.cs r.1).map fun e=>rsV e.1)) (I:=IBk M (svM M us vs) s s0 r x s9) (d0 (aa (vs:=[dcV (s0.cs r.1)]) (.one (rd s0 _ _ _ _ _ _ rfl)) (ek▸lh (co.dk rl.two.sk) (by rw [zA4]; exact zB1 hz (by decide)))) ?_) (aY l1) (.mk s0 _ _ _ _ _ _ g rfl (.refl M s0) fun e m=>.inl m) ?_ ?_
 ·exact Jb.mpr fun y m=>by obtain ⟨e,_,rfl⟩:=zA7 m; rfl
 ·rintro G ⟨s',s4,s5,s6,s7,s8,s10,q,ca,ext,bk⟩;refine h s' _ ⟨q.ok,q.ext,q.ca,fun c m=>bD (q.on c m),fun c m=>(bD (q.op c m)).op,fun c m=>(bD (q.op c m)).me,fun c m=>(bD (q.op c m)).cl,fun e m=>bD (bk e (g.ca _ e m))⟩ rfl
 ·rintro ⟨⟨t,c⟩,k⟩ B9 G Kt mt ⟨s',s4,s5,s6,s7,s8,s10,q,ca,ext,bk⟩ nx _;obtain ⟨m1,m2,m3,m4⟩:=co.all _ mt;have m4:k=M.kp t.2 c:=m4;refine ad (z:=g24 s' (svM M us vs) r x (.v (text [c])) s5 s6 s7 s8 s9 (.v (Rw.v t))) rfl ?_;refine eC (ob:=s'.o (svM M us vs)) (vs:=[Rw.v t,text [c],Pr.v (M.kp t.2 c),Rw.v r]) rfl (.cons ix (.cons ix (.two (aF (aa (vs:=[dcV (s0.cs r.1),rsV (t,c)]) (.two (rd s' _ _ _ _ _ _ ca) (aa (.two ix ix) rfl)) (m4▸y6 co rl.two.sk mt)) rfl) ix))) (EJ M _ _ us vs s' t c r _ rl q.ok (ext.ks _ m1) (q.ext.ks _ mr) m2 m3 fun CG z=>⟨rfl,aM (nx _ ?_)⟩);exact .mk CG _ _ _ _ _ _ (q.mono z.ok z.ext (iG z.ca)) (z.ca.trans ca) (ext.trans z.ext) fun u mu=>cD (p:=fun e:(Rw×Nat)×Pr=>∀ d∈M.s1,(e.1.1.1,M.cl r.2 e.2 d)∈CG.ks) ((bk u mu).imp id fun w d md=>z.ext.ks _ (w d md)) fun d md=>m4▸bD (z.cl d md)
end
def S24 (cf:CallF):Prop:=∀ M R R' us vs s r K,Real M R R' us vs->Ok M s->r∈s.ks->(∀ s',GoOk M s r s'->K .none (s'.o (svM M us vs)))->cf.o 24 (s.o (svM M us vs)) [Rw.v r] K
def p24 (cf:CallF) (h6:S6 cf) (h7:S7 cf) (D8:S22 cf) (EJ:S23 cf):S24 (step cf):=fun M R R' us vs s r K rl ok mr h=>by
 obtain ⟨x,ex⟩:=i6 mr;have nx:0<=x.1/\x.1<=101/\(x.2.length:Int)<=x.1:=ok.num _ (aZ ex);refine Ao (fn:=f24) rfl rfl rfl ?_;refine cV (v:=lwV x) (aF (aa (vs:=[.dict (knV s.kn),Rw.v r]) (.two (aa (.one ix) rfl) ix) (lK ex)) rfl) rfl ?_;refine AU (x:=x) h6 D8 rl ok mr nx fun s1 s4 g1=>?_;refine AT h7 D8 EJ rl ok mr g1 fun s2 s4 s5 s6 s7 s8 g2=>?_;refine xK g2.ok rl.mo fun s9 rd=>?_;exact wZ EJ rl mr g2 rd fun s3 G g3 e=>aM (ad e (h s3 g3))
def iB (p:Pr):gc 1 (Pr.v p):=bZ fun x m=>by
 rcases mem_cons.mp m with rfl | m
 ·exact cS rfl
 ·obtain rfl:=zA6 m; exact cS rfl
def w6 (r:Rw):gc 2 (Rw.v r):=bZ fun x m=>by
 rcases mem_cons.mp m with rfl | m
 ·exact iB _
 ·obtain rfl:=zA6 m; exact iB _
def qF (l:List Rw):gC (liV l)=true:=eH (n:=3) (c7 fun x m=>by obtain ⟨r,_,rfl⟩:=zA7 m; exact w6 r) (by decide)
def zw (l:List Rw):bo .NotEq (liV l) (.list [])=some (!l.isEmpty):=by
 refine (?_:(if (gC (liV l)&&gC (liV []))=true then some (PyData.eqv (liV l) (.list [])) else none).map _=_);rw [if_pos (zA3 ⟨qF l,qF []⟩)];cases l <;> rfl
theorem Ok.start {M:Sys} (mo:M.Ok):Ok M ⟨[],[],[],[]⟩:=⟨nodup_nil,fun U m=>nM m,fun U m=>nM m,nodup_nil,fun p=>rfl,le_refl _,nodup_nil,fun U m=>nM m,fun U m=>nM m,fun U m=>nM m,by
 refine (?_:0+jQ [] M.rs<=1648);rw [pot_top,zero_add]; exact mul_le_mul_right 103 mo.rs_len⟩
inductive IWh (M:Sys) (sv a b c:V) (n:Nat):Gs->Prop where
 | mk (s:St) (ok:Ok M s) (g:Gone M s) (st:(M.st,M.st)∈s.ks) (e:s.phi M=n):IWh M sv a b c n [.v a,.v b,.obj (s.o sv),.v c]
def S25 (cf:CallF):Prop:=∀ M R R' us vs en Ch K,Real M R R' us vs->(∀ kn:List (Rw×Int×List Nat),(kn.map (·.1)).Nodup->(∀ r,r∈kn.map (·.1) ↔ Rch M r)->K (.dict (knV kn)))->cf.p 25 [aB (sg M.s0 M.s1 M.s2) R [M.st.1] en (us.map W.v),aB (sg M.s0 M.s1 M.s2) R' [M.st.2] Ch (vs.map W.v)] K
def p25 (cf:CallF) (me:MethOk cf) (h4:S4 cf) (h9:S9 cf) (D8:S22 cf) (h24:S24 cf):S25 (step cf):=fun M R R' us vs en Ch K rl h=>by
 have tw:=rl.two;refine run (fn:=f25) rfl rfl rfl (AF (vs:=[svM M us vs]) (.one (aD (vs:=[aB (sg M.s0 M.s1 M.s2) R [M.st.1] en (us.map W.v),aB (sg M.s0 M.s1 M.s2) R' [M.st.2] Ch (vs.map W.v)]) (.two ix ix) fun K h=>h4 _ _ _ _ _ _ _ _ _ _ _ K tw.sk tw.o1 tw.o2 tw.n1 tw.n2 tw.l1 tw.l2 h)) rfl rfl (h9 _ _ ?_));refine am (v:=Pr.v M.st) (aa (vs:=[.int M.st.1,.int M.st.2]) (.two (aa (vs:=[az [M.st.1],.int 0]) (.two (lI me (st:=[M.st.1]) ix (show 1<=40 by decide)) ix) rfl) (aa (vs:=[az [M.st.2],.int 0]) (.two (lI me (st:=[M.st.2]) ix (show 1<=40 by decide)) ix) rfl)) rfl) ?_;have o0:=Ok.start rl.mo;have p:=o0.put (r:=(M.st,M.st)) (n:=0) (w:=[]) rl.mo .start (by decide) (by decide);refine eC (ob:=(⟨[],[],[],[]⟩:St).o (svM M us vs)) (vs:=[Rw.v (M.st,M.st),.int 0,text []]) rfl (.cons (aa (.two ix ix) rfl) (.two ix ix)) (D8 _ _ _ _ _ _ (o0.fits rl.mo) ⟨rfl,?_⟩);have wt:∀ r∈((⟨[],[],[],[]⟩:St).put (M.st,M.st) 0 []).ks,r∈((⟨[],[],[],[]⟩:St).put (M.st,M.st) 0 []).wt:=fun r m=>(p.ext.new r m).elim (fun m=>nM m) id;refine pX (P:=IWh M (svM M us vs) _ _ (Pr.v M.st)) (m:=_) (.mk _ p.ok ⟨fun r m n=>absurd (wt r m) n,fun r m n=>absurd (wt r m) n,fun r m n=>absurd (wt r m) n,fun r m n=>absurd (wt r m) n⟩ p.mem rfl) ?_;rintro n G ⟨s,ok,g,st,e⟩;refine ⟨!s.wt.isEmpty,aF (ao (x:=liV s.wt) (y:=.list []) (aa (.one ix) rfl) ix (zw s.wt)) rfl,fun t Kt nx U=>?_,fun t=>?_⟩
 ·cases ew:s.wt with
  | nil=>rw [ew] at t; exact nB t
  | cons r wt=>
   obtain ⟨Eu,lt,mr⟩:=ok.pop ew;refine v3 (ob:=s.o (svM M us vs)) (l:=wt.map Rw.v) (y:=Rw.v r) rfl (congrArg (fun l:List Rw=>some (l.map Rw.v)) ew) (d8 ?_) (h24 M R R' us vs (s.pop wt) r _ rl Eu mr fun s' q=>⟨rfl,aM (nx _ _ (e▸J5 q.ext.phi lt) (.mk s' q.ok (g.go ew q) (q.ext.ks _ st) rfl))⟩);rw [zA4];have:=(Eu.fits rl.mo).w;exact zB1 this (by decide)
 ·have ew:s.wt=[]:=isEmpty_iff.mp (by cases z:s.wt.isEmpty with | true=>rfl | false=>rw [z] at t; exact nB t.symm);exact rF (ob:=s.o (svM M us vs)) rfl (aX (v:=.dict (knV s.kn)) (aa (.one ix) rfl) (h s.kn ok.nd fun r=>⟨ok.rch r,g.all ew st⟩))
def wB {d:List (V×V)} (hd:dkV d=true) (hy:aJ y=true) (n:y∉d.map (·.1)):bP d y=none:=by
 unfold bP;rw [show d.find? (fun p=>PyData.eqv p.1 y)=none from find?_eq_none.mpr fun p m w=>n (mem_map.mpr ⟨p,m,(bg p.1 y (pL hd m) hy).mp w⟩)]; rfl
noncomputable def onD (us:List W):List (V×V):=us.map fun w=>(w.kv,.int 1)
def pq (sk:SgOk s0 s1 s2) (ok:∀ w∈us,W.ok s0 s1 s2 R w):dkV (onD us)=true:=Jb.mpr fun p m=>by
 obtain ⟨w,mw,rfl⟩:=zA7 m; exact cG sk (ok w mw)
def tO (ha:Val cf G a (.list ((replicate n (1:Int)).map .int))) (hz:n<=5000):Val cf G (.nd .maxL [a]) (.int 1):=fun K h=>ha _ (ad (z:=replicate n 1) (iw _) ⟨by rw [List.length_replicate]; exact bU hz,fun m e0 e1=>by
 have:m=1:=by
  by_cases z:replicate n (1:Int)=[]
  ·exact e0 z
  ·exact (List.mem_replicate.mp (e1 z).1).2
 subst this; exact h⟩)
def vc {d:List (V×V)} (hd:dkV d=true) (hz:d.length<=5000):opN .len [.dict d]=some (.int d.length):=by
 refine (?_:(if dkV d=true then bN d (d.map (·.1)) else none).map _=_);rw [if_pos hd,show bN d (d.map (·.1))=some (d.map (·.1)) from if_pos (bU hz)];refine congrArg (fun n:Nat=>some (PyData.int n)) (length_map _)
def zx {d:List (V×V)} (hd:dkV d=true) (hz:d.length<=5000):opN .vals [.dict d]=some (.list (d.map (·.2))):=(if_pos hd).trans (if_pos (bU hz))
noncomputable def g28 (m:V) (us:List W) (s2 s3:Slot):Gs:=[.v m,.ownD (onD us),s2,s3,.unset,.unset,.unset,.unset,.unset]
inductive I28 (m:V) (us:List W) (B9:List W):Gs->Prop where
 | mk (ds:List W) (s2 s3:Slot) (e:ds++B9=us):I28 m us B9 (g28 m ds s2 s3)
section
variable {s0 s1 s2:List Nat} {R:Int} {us ds:List W} {w:W}
def zu {m:V} {s2':Slot} (sk:SgOk s0 s1 s2) (od:∀ u∈ds,W.ok s0 s1 s2 R u) (wo:W.ok s0 s1 s2 R w) (n:w.kv∉ds.map W.kv):Val cf (g28 m ds s2' (.v w.kv)) (adE (.nd .peek [.nd .getD [vv 1,vv 3,ii 0]]) (ii 1)) (.int 1):=by
 have kk:=cG sk wo;have dk:=pq sk od;have e:opN .getD [.dict (onD ds),w.kv,.int 0]=some (.int 0):=by
  refine (if_pos (zA3 ⟨dk,kk⟩)).trans ?_;rw [wB dk kk (by rw [onD,map_map]; exact n)]; rfl
 exact aa (vs:=[.int 0,.int 1]) (.two (aF (tg (x:=.dict (onD ds)) (vs:=[w.kv,.int 0]) ix dk (.two ix ix) e) rfl) ix) rfl
def zt (sk:SgOk s0 s1 s2) (od:∀ u∈ds,W.ok s0 s1 s2 R u) (wo:W.ok s0 s1 s2 R w) (n:w.kv∉ds.map W.kv):cE (onD ds) w.kv (.int 1)=onD (ds++[w]):=by
 rw [put_new (pq sk od) (cG sk wo) (by rw [onD,map_map]; exact n),onD,onD,map_append]; rfl
end
def S28 (cf:CallF):Prop:=∀ (s0 s1 s2:List Nat) (R:Int) i0 en (us:List W) K,SgOk s0 s1 s2->(∀ w∈us,W.ok s0 s1 s2 R w)->(us.map W.kv).Nodup->us.length < 58->(us.length:Int)=R * (s0.length+s2.length)+R * R * s1.length->1<=R->R<=3->K (.bool true)->cf.p 28 [aB (sg s0 s1 s2) R [i0] en (us.map W.v)] K
def p28 (cf:CallF) (me:MethOk cf):S28 (step cf):=fun s0 s1 s2 R i0 en us K sk ok nd hl hw r1 r3 h=>by
 refine run (fn:=f28) rfl rfl rfl (aW (ao (x:=.int 1) (y:=.int 1) (aa (vs:=[az [i0]]) (.one (lI me (st:=[i0]) ix (show 1<=40 by decide))) rfl) ix rfl) (o9 ?_));have hz:(us.map W.v).length<=4000:=by rw [zA4]; exact zB1 (le_of_lt hl) (by decide)
 refine cH (g:=W.v) (ws:=us) (v:=.list (us.map W.v)) (I:=I28 (aB (sg s0 s1 s2) R [i0] en (us.map W.v)) us) (pd me (st:=[i0]) (en:=en) ix hz) (aY (zB1 hz (by decide))) (.mk [] _ _ rfl) ?_ ?_
 ·rintro G ⟨ds,t2,t3,e⟩;rw [append_nil] at e;subst e;have dk:=pq sk ok;have dz:(onD ds).length<=5000:=by rw [onD,zA4]; exact zB1 (le_of_lt hl) (by decide)
  have ha:R.natAbs<=1000000:=by omega
  refine cV (v:=sg s0 s1 s2) (ji me (st:=[i0]) (en:=en) ix) rfl ?_;refine am (v:=.int R) (uR me (st:=[i0]) (en:=en) ix) ?_;have ln:∀ {l:List Nat},l.length<=4->opN .len [text l]=some (.int l.length):=fun h=>pC (zB1 h (by decide));refine am (v:=.int ds.length) ?_ (dY (l:=onD ds) rfl ?_)
  ·rw [hw];exact aa (vs:=[.int (R * (s0.length+s2.length)),.int (R * R * s1.length)]) (.two (aa (vs:=[.int R,.int (s0.length+s2.length)]) (.two ix (aa (vs:=[.int s0.length,.int s2.length]) (.two (aa (.one ix) (ln sk.la)) (aa (.one ix) (ln sk.lc))) rfl)) (lQ (.inr ha))) (aa (vs:=[.int (R * R),.int s1.length]) (.two (aa (vs:=[.int R,.int R]) (.two ix ix) (lQ (.inr ha))) (aa (.one ix) (ln sk.lb))) (lQ (.inl (by have:=sk.lb; omega))))) rfl
  ·have ev:opN .vals [.dict (onD ds)]=some (.list ((replicate ds.length (1:Int)).map .int)):=by
    rw [zx dk dz,onD,map_map,List.map_replicate];exact congrArg (fun l=>some (PyData.list l)) (List.eq_replicate_iff.mpr ⟨length_map _,fun b m=>by obtain ⟨w,_,rfl⟩:=zA7 m; rfl⟩)
   have el:opN .len [.dict (onD ds)]=some (.int ds.length):=by rw [vc dk dz,onD,zA4]
   exact aX (v:=.bool true) (fP (.go (b:=true) (ao (aa (vs:=[.dict (onD ds)]) (.one ix) el) ix (sS rfl)) (.one (ao (tO (n:=ds.length) (aa (vs:=[.dict (onD ds)]) (.one ix) ev) (zB1 (le_of_lt hl) (by decide))) ix (sS rfl))))) h
 ·rintro w B9 G Kt mw ⟨ds,t2,t3,e⟩ nx _;have od:∀ u∈ds,W.ok s0 s1 s2 R u:=fun u m=>ok u (by rw [<- e]; exact mem_append_left _ m);have wo:=ok w mw;have n:w.kv∉ds.map W.kv:=by
   rw [<- e,map_append] at nd;exact fun m=>(nodup_append.mp nd).2.2 _ m _ (.head _) rfl
  have dz:(onD ds).length < ac:=d8 (by rw [onD,zA4]; have:=congrArg List.length e; rw [zB5] at this; omega);have fin:∀ t2,exs cf [.mk (.setD 1) [adE (.nd .peek [.nd .getD [vv 1,vv 3,ii 0]]) (ii 1),vv 3] [] []] (g28 (aB (sg s0 s1 s2) R [i0] en (us.map W.v)) ds t2 (.v w.kv)) Kt:=fun t2=>by
   refine eB (l:=onD ds) rfl (zu sk od wo n) (x:=w.kv) ix (cG sk wo) dz (aM ?_);rw [zt sk od wo n];exact nx _ (.mk (ds++[w]) _ _ (by rw [append_assoc]; exact e))
  cases w with
  | on a c b=>exact am (v:=W.kv (.on a c b)) (aa (.two ix ix) rfl) (aW (bj (s:=kOn) (aa (.two ix ix) rfl) ok_on ok_close rfl) (fin _))
  | op a c b t=>exact am (v:=W.kv (.op a c b t)) (aa (.two ix ix) rfl) (aW (bj (s:=a6) (aa (.two ix ix) rfl) ok_open ok_close rfl) (fin _))
  | cl a b c t=>exact am (v:=.tuple [.str aE,.int a,.int b]) (aa (.two ix ix) rfl) (lF (bj (s:=aE) (aa (.two ix ix) rfl) ok_close ok_close rfl) (am (v:=W.kv (.cl a b c t)) (aa (.two ix ix) rfl) (fin _)))
noncomputable def R4 (r:Rw):V:=.tuple [.int r.1.1,.int r.1.2,.int r.2.1,.int r.2.2]
def pp {r t:Rw} (h:R4 r=R4 t):r=t:=by
 have h:=PyData.tuple.inj h;injection h with h0 h; injection h with h1 h; injection h with h2 h; injection h with h3 h
 exact Prod.ext (Prod.ext (PyData.int.inj h0) (PyData.int.inj h1)) (Prod.ext (PyData.int.inj h2) (PyData.int.inj h3))
def AK (r t:Rw):ltK (au (R4 r)) (au (R4 t))=true:=aO rfl fun U=>aO rfl fun U=>aO rfl fun U=>aO rfl fun U=>rfl
def vM (r:Rw):∀ x∈[PyData.int r.1.1,.int r.1.2,.int r.2.1,.int r.2.2],aG x=true:=fun x m=>by
 rcases mem_cons.mp m with rfl | m
 ·rfl
 rcases mem_cons.mp m with rfl | m
 ·rfl
 rcases mem_cons.mp m with rfl | m
 ·rfl
 obtain rfl:=zA6 m; rfl
def wl {r t:Rw} (h:bf (au (R4 r)) (au (R4 t))=false) (h':bf (au (R4 t)) (au (R4 r))=false):R4 r=R4 t:=congrArg PyData.tuple (keys_inj (vM r) (vM t) (i7 h h'))
structure TabOk (M:Sys) (rs:List Rw):Prop where
 nd:rs.Nodup
 mem:∀ r,r∈rs ↔ Rch M r
 up:fM (rs.map R4)
def tR {rs:List Rw} (h:rs.Nodup):(rs.map R4).Nodup:=pairwise_map.mpr (h.imp fun n e=>n (pp e))
theorem TabOk.uniq {M:Sys} (h:TabOk M rs) (h':TabOk M Fe):rs.map R4=Fe.map R4:=by
 refine Perm.eq_of_pairwise (le:=fun x y=>bf (au y) (au x)=false) (fun x y mx my a b=>?_) h.up h'.up (((List.perm_ext_iff_of_nodup h.nd h'.nd).mpr fun r=>(h.mem r).trans (h'.mem r).symm).map R4);obtain ⟨r,_,rfl⟩:=zA7 mx;obtain ⟨t,_,rfl⟩:=zA7 my;exact wl b a
theorem TabOk.len {M:Sys} (h:TabOk M rs) (mo:M.Ok):rs.length<=16:=zB1 (bB h.nd fun r m=>((h.mem r).mp m).rs mo) mo.rs_len
def nO {M:Sys} {ks:List Rw} {K:V->Prop} (mo:M.Ok) (h:Val cf G a v) (ht:vJ v=some (ks.map R4)) (nd:ks.Nodup) (mem:∀ r,r∈ks ↔ Rch M r) (k:∀ rs,TabOk M rs->K (.list (rs.map R4))):ev cf (.nd .sortedT [a]) G K:=by
 refine h _ (ad ht ⟨zA3 ⟨Jb.mpr fun x m=>?_,decide_eq_true ?_⟩,fun x mx y my=>?_,fun r p up=>?_⟩)
 ·obtain ⟨t,_,rfl⟩:=zA7 m; rfl
 ·rw [zA4]; exact J5 (zB1 (bB nd fun r m=>((mem r).mp m).rs mo) mo.rs_len) (by decide)
 ·obtain ⟨r,_,rfl⟩:=zA7 mx;obtain ⟨t,_,rfl⟩:=zA7 my;exact AK r t
 ·obtain ⟨rs,rfl,hr⟩:=dx fun y m=>p.mem_iff.mp m;have nr:rs.Nodup:=(pairwise_map.mp (p.nodup_iff.mpr (tR nd))).imp fun n e=>n (congrArg R4 e);refine k rs ⟨nr,fun r=>⟨fun m=>(mem r).mp (hr r m),fun q=>?_⟩,up⟩;obtain ⟨t,mt,e⟩:=zA7 (p.mem_iff.mpr (mem_map.mpr ⟨r,(mem r).mpr q,rfl⟩));exact pp e▸mt
structure Plain (s0 s1 s2:List Nat) (R:Int) (us:List W):Prop where
 n:(us.length:Int)=R * (s0.length+s2.length)+R * R * s1.length
 r1:1<=R
 r3:R<=3
def yN {K:Option V->Gs->Prop} (h:ev cf s G fun x=>exs cf (.mk .ret [.nd .sortedT [.nd (.comp k) [.nd (.lit x) [],e]]] [] [] :: r) G K):exs cf (.mk .ret [.nd .sortedT [.nd (.comp k) [s,e]]] [] [] :: r) G K:=h
def ev_call {K:V->Prop} (hv:eK cf G es vs) (h:cf.p f vs K):ev cf (.nd (.call f) es) G K:=hv _ h
def uN {K:Option V->Gs->Prop} (h:ev cf e G fun v=>K (some v) G):exs cf (.mk .ret [e] [] [] :: r) G K:=h
def S26 (cf:CallF):Prop:=∀ M R R' us vs en Ch K,Real M R R' us vs->Plain M.s0 M.s1 M.s2 R us->Plain M.s0 M.s1 M.s2 R' vs->(∀ rs,TabOk M rs->K (.list (rs.map R4)))->cf.p 26 [aB (sg M.s0 M.s1 M.s2) R [M.st.1] en (us.map W.v),aB (sg M.s0 M.s1 M.s2) R' [M.st.2] Ch (vs.map W.v)] K
def p26 (cf:CallF) (h25:S25 cf) (h28:S28 cf) (h31:S31 cf):S26 (step cf):=fun M R R' us vs en Ch K rl p1 p2 h=>by
 have tw:=rl.two;refine run (fn:=f26) rfl rfl rfl (pZ (vs:=[aB (sg M.s0 M.s1 M.s2) R [M.st.1] en (us.map W.v),aB (sg M.s0 M.s1 M.s2) R' [M.st.2] Ch (vs.map W.v)]) (.two ix ix) (h31 _ _ _ _ _ _ _ _ _ _ _ _ tw.sk ⟨rfl,?_⟩));refine aW (br (.go (b:=false) (ay (t:=true) (aD (.one ix) fun K h=>h28 _ _ _ _ _ _ _ K tw.sk tw.o1 tw.n1 tw.l1 p1.n p1.r1 p1.r3 h)) (.one' (ay (t:=true) (aD (.one ix) fun K h=>h28 _ _ _ _ _ _ _ K tw.sk tw.o2 tw.n2 tw.l2 p2.n p2.r1 p2.r3 h))))) ?_;refine yN (ev_call (vs:=[aB (sg M.s0 M.s1 M.s2) R [M.st.1] en (us.map W.v),aB (sg M.s0 M.s1 M.s2) R' [M.st.2] Ch (vs.map W.v)]) (.two ix ix) (h25 M R R' us vs en Ch _ rl fun kn nd mem=>uN ?_));have hz:kn.length<=5000:=by
  have:=bB nd fun r m=>((mem r).mp m).rs rl.mo;rw [zA4] at this;exact zB1 (zB1 this rl.mo.rs_len) (by decide)
 have hq:bM (.dict (knV kn))=some (kn.map fun e=>Rw.v e.1):=by
  refine (if_pos (vS kn)).trans ((if_pos (bU (by rw [knV,zA4]; exact hz))).trans (congrArg some ?_));rw [knV,map_map]; rfl
 refine nO (ks:=kn.map (·.1)) rl.mo (d4 (k:=2) (g:=fun e:Rw×Int×List Nat=>Rw.v e.1) (f:=fun e=>R4 e.1) (x:=.dict (knV kn)) ix hq fun e m=>aa (vs:=[Pr.v e.1.1,Pr.v e.1.2]) (.two (aa (.two ix ix) rfl) (aa (.two ix ix) rfl)) rfl) ?_ nd mem h;rw [map_map]; rfl
def AN {l m:List V} (h:l.length<=5000) (h':m.length<=5000):opN .zip [.list l,.list m]=some (.list (og l m)):=by
 refine (?_:(bN l l).bind _=_);rw [show bN l l=some l from if_pos (bU h)];refine (?_:(bN m m).map _=_);rw [show bN m m=some m from if_pos (bU h')]; rfl
def sY {α:Type} {f:α->V} (l:List α):og (l.map f) (l.map f)=l.map fun x=>.tuple [f x,f x]:=by unfold og; rw [List.zipWith_self,map_map]; rfl
noncomputable def g29 (v:V) (s2 s3 s4 s5:Slot):Gs:=[.v v,.v v,s2,s3,s4,s5]
inductive I29 (v:V):Gs->Prop where
 | mk (s2 s3 s4 s5:Slot):I29 v (g29 v s2 s3 s4 s5)
inductive J29 (v:V) (r:Rw):Gs->Prop where
 | mk (s4 s5:Slot):J29 v r (g29 v (.v (R4 r)) (.v (R4 r)) s4 s5)
def S29 (cf:CallF):Prop:=∀ (rs:List Rw) K,rs.length<=16->K (.bool true)->cf.p 29 [.list (rs.map R4),.list (rs.map R4)] K
def p29 (cf:CallF):S29 (step cf):=fun rs K hl h=>by
 have hz:(rs.map R4).length<=5000:=by rw [zA4]; exact zB1 hl (by decide)
 have ez:=sY (f:=R4) rs;have z2:(rs.map fun x=>PyData.tuple [R4 x,R4 x]).length<=5000:=by rw [zA4]; exact zB1 hl (by decide)
 refine run (fn:=f29) rfl rfl rfl (aW (br (.go (b:=false) (ay (t:=true) ix) (.one' (ao (aa (.one ix) (lR hz)) (aa (.one ix) (lR hz)) (oW rfl))))) ?_);refine kR (g:=fun x=>.tuple [R4 x,R4 x]) (ws:=rs) (v:=.list (rs.map fun x=>.tuple [R4 x,R4 x])) (I:=fun U=>I29 (.list (rs.map R4))) (aa (vs:=[.list (rs.map R4),.list (rs.map R4)]) (.two ix ix) (ez▸AN hz hz)) (aY z2) (.mk _ _ _ _) (fun U U=>aX (v:=.bool true) ix h) ?_;rintro r B9 G Kt mr ⟨s2,s3,s4,s5⟩ nx _;refine ad (z:=g29 (.list (rs.map R4)) (.v (R4 r)) (.v (R4 r)) s4 s5) rfl ?_;refine aW (br (.go (b:=false) (ay (t:=true) ix) (.one' (ao (x:=.int 4) (y:=.int 4) (aa (.one ix) rfl) (aa (.one ix) rfl) rfl)))) ?_;refine kR (g:=fun i:Int=>.tuple [.int i,.int i]) (ws:=[r.1.1,r.1.2,r.2.1,r.2.2]) (v:=.list ([r.1.1,r.1.2,r.2.1,r.2.2].map fun i:Int=>.tuple [.int i,.int i])) (I:=fun U=>J29 (.list (rs.map R4)) r) (aa (vs:=[R4 r,R4 r]) (.two ix ix) rfl) rfl (.mk _ _) ?_ ?_
 ·rintro G ⟨s4,s5⟩; exact aM (nx _ (.mk _ _ _ _))
 ·rintro i B9 G Kt mi ⟨s4,s5⟩ nx _;refine ad (z:=g29 (.list (rs.map R4)) (.v (R4 r)) (.v (R4 r)) (.v (.int i)) (.v (.int i))) rfl ?_;exact aW (br (.go (b:=false) (ao (x:=.bool false) (y:=.bool false) ix ix rfl) (.go (b:=false) ix (.one' (ao (x:=.int i) (y:=.int i) ix ix (oW rfl)))))) (aM (nx _ (.mk _ _)))
section
variable {s0 s1 s2:List Nat} {R R':Int} {us vs:List W}
theorem TwoW.to1 (T:TwoW s0 s1 s2 R R' us vs) (m:w∈us):opN .sub [.dict (toD us),w.kv]=some w.to:=fh (pf T.sk T.o1) (cG T.sk (T.o1 w m)) (dP T.sk T.o1 T.n1 m)
theorem TwoW.to2 (T:TwoW s0 s1 s2 R R' us vs) (m:w∈vs):opN .sub [.dict (toD vs),w.kv]=some w.to:=fh (pf T.sk T.o2) (cG T.sk (T.o2 w m)) (dP T.sk T.o2 T.n2 m)
end
def Br (p q:Pr):bo .Eq (Pr.v p) (Pr.v q)=some (decide (p=q)):=by
 refine (if_pos (e:=none) (zA3 ⟨eH (iB p) (by decide),eH (iB q) (by decide)⟩)).trans (congrArg some ?_);have e:=(bg _ _ (u3 p) (u3 q)).trans ⟨pr_inj,fun e=>e▸rfl⟩;by_cases z:p=q
 ·rw [e.mpr z,decide_eq_true z]
 ·rw [decide_eq_false z]; exact eq_false_iff.mpr fun w=>z (e.mp w)
noncomputable def bG (us vs:List W):V:=.tuple [.dict (toD us),.dict (toD vs)]
noncomputable def g33 (M:Sys) (us vs:List W) (rs:List Rw) (r:Rw) (acc:List Rw) (s6 s7 s8 s9 s10 s11:Slot):Gs:=[.v (.list (rs.map R4)),.v (sg M.s0 M.s1 M.s2),.v (bG us vs),.v (R4 r),.v (Pr.v r.1),.ownL (acc.map R4),s6,s7,s8,s9,s10,s11]
def pU {acc rest:List Rw} (h:acc++rest=T) (hT:T.length<=300):(acc.map R4).length < ac:=d8 (by rw [zA4]; have:=congrArg List.length h; rw [zB5] at this; omega)
def i5 {acc:List Rw} {g:Rw}:acc.map R4++[R4 g]=(acc++[g]).map R4:=by rw [map_append]; rfl
section
variable {cf:CallF} {M:Sys} {R R':Int} {us vs:List W} {rs T acc:List Rw} {r t:Rw} {s6 s7 s8 s9 s10 s11:Slot} {rest:List S} {K:Option V->Gs->Prop} {left:List Rw}
inductive J1 (M:Sys) (us vs:List W) (rs:List Rw) (r:Rw) (T:List Rw) (f:Nat->Rw) (left:List Rw) (B9:List Nat):Gs->Prop where
 | mk (acc:List Rw) (s6 s7:Slot) (e:acc++(B9.map f++left)=T):J1 M us vs rs r T f left B9 (g33 M us vs rs r acc s6 s7 .unset .unset .unset .unset)
def wW (rl:Real M R R' us vs) (ur:r.2∈M.un) (hT:T.length<=300) (e:acc++(M.s2.map (fun c=>(r.1,M.on r.2 c))++left)=T) (h:∀ acc s6 s7,acc++left=T->exs cf rest (g33 M us vs rs r acc s6 s7 .unset .unset .unset .unset) K) :
  exs cf (.mk (.forS 6) [sbE (vv 1) (ii 2)] yt [] :: rest) (g33 M us vs rs r acc s6 s7 .unset .unset .unset .unset) K:=by
 refine cH (g:=fun d=>text [d]) (ws:=M.s2) (v:=text M.s2) (I:=J1 M us vs rs r T (fun c=>(r.1,M.on r.2 c)) left) (aa (vs:=[sg M.s0 M.s1 M.s2,.int 2]) (.two ix ix) rfl) (cr rl.mo.l2) (.mk acc _ _ e) ?_ ?_
 ·rintro G ⟨acc,s6,s7,e⟩; exact h acc s6 s7 e
 ·rintro c B9 G Kt mc ⟨acc,s6,s7,e⟩ nx _;have on:=rl.on _ ur c mc;refine am (v:=Pr.v (M.on r.2 c)) (aa (vs:=[.int (M.on r.2 c).1,.int (M.on r.2 c).2]) (.two (aa (vs:=[.tuple [.int (M.on r.2 c).1],.int 0]) (.two (aa (vs:=[.dict (toD us),W.kv (.on r.2.1 c (M.on r.2 c).1)]) (.two (aa (vs:=[bG us vs,.int 0]) (.two ix ix) rfl) (aa (vs:=[.str kOn,.int r.2.1,text [c]]) (.cons ix (.two (aa (vs:=[R4 r,.int 2]) (.two ix ix) rfl) ix)) rfl)) (rl.two.to1 on.1)) ix) rfl) (aa (vs:=[.tuple [.int (M.on r.2 c).2],.int 0]) (.two (aa (vs:=[.dict (toD vs),W.kv (.on r.2.2 c (M.on r.2 c).2)]) (.two (aa (vs:=[bG us vs,.int 1]) (.two ix ix) rfl) (aa (vs:=[.str kOn,.int r.2.2,text [c]]) (.cons ix (.two (aa (vs:=[R4 r,.int 3]) (.two ix ix) rfl) ix)) rfl)) (rl.two.to2 on.2)) ix) rfl)) rfl) ?_;refine da (l:=acc.map R4) (v:=R4 (r.1,M.on r.2 c)) rfl (aa (vs:=[Pr.v r.1,Pr.v (M.on r.2 c)]) (.two ix ix) rfl) (pU e hT) (aM ?_);rw [i5];exact nx _ (.mk _ _ _ (by rw [append_assoc]; exact e))
noncomputable def enV (M:Sys) (r:Rw) (c:Nat):V:=.tuple [prV (M.ins r.2 c).1 (M.kp r.2 c).1,prV (M.ins r.2 c).2 (M.kp r.2 c).2]
inductive J4 (M:Sys) (us vs:List W) (rs:List Rw) (r:Rw) (T:List Rw) (c:Nat) (t:Rw) (left:List Rw) (B9:List Nat):Gs->Prop where
 | mk (acc:List Rw) (s7 s11:Slot) (e:acc++(B9.map (fun d=>(r.1,M.cl t.2 (M.kp r.2 c) d))++left)=T):J4 M us vs rs r T c t left B9 (g33 M us vs rs r acc (.v (text [c])) s7 (.v (enV M r c)) (.v (Pr.v (M.ins r.2 c))) (.v (R4 t)) s11)
def wX (rl:Real M R R' us vs) (ur:r.2∈M.un) (ut:t.2∈M.un) (mc:c∈M.s0) (hT:T.length<=300) (e:acc++(M.s1.map (fun d=>(r.1,M.cl t.2 (M.kp r.2 c) d))++left)=T) (h:∀ acc s7 s11,acc++left=T->exs cf rest (g33 M us vs rs r acc (.v (text [c])) s7 (.v (enV M r c)) (.v (Pr.v (M.ins r.2 c))) (.v (R4 t)) s11) K) :
  exs cf (.mk (.forS 11) [sbE (vv 1) (ii 1)] yr [] :: rest) (g33 M us vs rs r acc (.v (text [c])) s7 (.v (enV M r c)) (.v (Pr.v (M.ins r.2 c))) (.v (R4 t)) s11) K:=by
 refine cH (g:=fun d=>text [d]) (ws:=M.s1) (v:=text M.s1) (I:=J4 M us vs rs r T c t left) (aa (vs:=[sg M.s0 M.s1 M.s2,.int 1]) (.two ix ix) rfl) (cr rl.mo.l1) (.mk acc _ _ e) ?_ ?_
 ·rintro G ⟨acc,s7,s11,e⟩; exact h acc s7 s11 e
 ·rintro d B9 G Kt md ⟨acc,s7,s11,e⟩ nx _;have cl:=rl.cl _ ut _ (rl.mo.kp _ ur c mc) d md;refine am (v:=.tuple [.int (M.cl t.2 (M.kp r.2 c) d).1]) (aa (vs:=[.int (M.cl t.2 (M.kp r.2 c) d).1]) (.one (aa (vs:=[.dict (toD us),W.kv (.cl t.2.1 (M.kp r.2 c).1 d (M.cl t.2 (M.kp r.2 c) d).1)]) (.two (aa (vs:=[bG us vs,.int 0]) (.two ix ix) rfl) (aa (vs:=[.str aE,.int t.2.1,.int (M.kp r.2 c).1,text [d]]) (.cons ix (.cons (aa (vs:=[R4 t,.int 2]) (.two ix ix) rfl) (.two (aa (.two (aa (vs:=[enV M r c,.int 0]) (.two ix ix) rfl) ix) rfl) ix))) rfl)) (rl.two.to1 cl.1))) rfl) ?_;refine da (l:=acc.map R4) (v:=R4 (r.1,M.cl t.2 (M.kp r.2 c) d)) rfl (aa (vs:=[.tuple [.int r.1.1,.int r.1.2,.int (M.cl t.2 (M.kp r.2 c) d).1],.tuple [.int (M.cl t.2 (M.kp r.2 c) d).2]]) (.two (aa (vs:=[Pr.v r.1,.tuple [.int (M.cl t.2 (M.kp r.2 c) d).1]]) (.two ix ix) rfl) (aa (vs:=[.int (M.cl t.2 (M.kp r.2 c) d).2]) (.one (aa (vs:=[.dict (toD vs),W.kv (.cl t.2.2 (M.kp r.2 c).2 d (M.cl t.2 (M.kp r.2 c) d).2)]) (.two (aa (vs:=[bG us vs,.int 1]) (.two ix ix) rfl) (aa (vs:=[.str aE,.int t.2.2,.int (M.kp r.2 c).2,text [d]]) (.cons ix (.cons (aa (vs:=[R4 t,.int 3]) (.two ix ix) rfl) (.two (aa (.two (aa (vs:=[enV M r c,.int 1]) (.two ix ix) rfl) ix) rfl) ix))) rfl)) (rl.two.to2 cl.2))) rfl)) rfl) (pU e hT) (aM ?_);rw [i5];exact nx _ (.mk _ _ _ (by rw [append_assoc]; exact e))
noncomputable def clF (M:Sys) (r:Rw) (c:Nat) (t:Rw):List Rw:=if t.1=M.ins r.2 c then M.s1.map fun d=>(r.1,M.cl t.2 (M.kp r.2 c) d) else []
inductive J3 (M:Sys) (us vs:List W) (rs:List Rw) (r:Rw) (T:List Rw) (c:Nat) (left:List Rw) (B9:List Rw):Gs->Prop where
 | mk (acc:List Rw) (s7 s10 s11:Slot) (e:acc++(B9.flatMap (clF M r c)++left)=T):J3 M us vs rs r T c left B9 (g33 M us vs rs r acc (.v (text [c])) s7 (.v (enV M r c)) (.v (Pr.v (M.ins r.2 c))) s10 s11)
def wU (rl:Real M R R' us vs) (ur:r.2∈M.un) (FX:∀ t∈rs,Rch M t) (hl:rs.length<=16) (mc:c∈M.s0) (hT:T.length<=300) (e:acc++(rs.flatMap (clF M r c)++left)=T) (h:∀ acc s7 s10 s11,acc++left=T->exs cf rest (g33 M us vs rs r acc (.v (text [c])) s7 (.v (enV M r c)) (.v (Pr.v (M.ins r.2 c))) s10 s11) K) :
  exs cf (.mk (.forS 10) [vv 0] yq [] :: rest) (g33 M us vs rs r acc (.v (text [c])) s7 (.v (enV M r c)) (.v (Pr.v (M.ins r.2 c))) s10 s11) K:=by
 refine cH (g:=R4) (ws:=rs) (v:=.list (rs.map R4)) (I:=J3 M us vs rs r T c left) ix (aY (by rw [zA4]; exact zB1 hl (by decide))) (.mk acc _ _ _ e) ?_ ?_
 ·rintro G ⟨acc,s7,s10,s11,e⟩; exact h acc s7 s10 s11 e
 ·rintro t B9 G Kt mt ⟨acc,s7,s10,s11,e⟩ nx _;rw [flatMap_cons,append_assoc] at e;refine gT (t:=decide (t.1=M.ins r.2 c)) (ao (x:=Pr.v t.1) (aa (vs:=[R4 t,.int 2]) (.two ix ix) rfl) ix (Br _ _)) (fun z=>?_) fun z=>?_
  ·rw [clF,if_pos (of_decide_eq_true z)] at e;exact wX rl ur ((FX t mt).mem rl.mo).2 mc hT e fun acc s7 s11 e=>aM (nx _ (.mk _ _ _ _ e))
  ·rw [clF,if_neg (of_decide_eq_false z)] at e;exact aM (nx _ (.mk _ _ _ _ e))
noncomputable def opF (M:Sys) (rs:List Rw) (r:Rw) (c:Nat):List Rw:=(M.ins r.2 c,M.ins r.2 c) :: rs.flatMap (clF M r c)
inductive J2 (M:Sys) (us vs:List W) (rs:List Rw) (r:Rw) (T:List Rw) (B9:List Nat):Gs->Prop where
 | mk (acc:List Rw) (s6 s7 s8 s9 s10 s11:Slot) (e:acc++B9.flatMap (opF M rs r)=T):J2 M us vs rs r T B9 (g33 M us vs rs r acc s6 s7 s8 s9 s10 s11)
def wV (rl:Real M R R' us vs) (ur:r.2∈M.un) (FX:∀ t∈rs,Rch M t) (hl:rs.length<=16) (hT:T.length<=300) (e:acc++M.s0.flatMap (opF M rs r)=T) (h:∀ s6 s7 s8 s9 s10 s11,exs cf rest (g33 M us vs rs r T s6 s7 s8 s9 s10 s11) K) :
  exs cf (.mk (.forS 6) [sbE (vv 1) (ii 0)] yp [] :: rest) (g33 M us vs rs r acc s6 s7 s8 s9 s10 s11) K:=by
 refine cH (g:=fun d=>text [d]) (ws:=M.s0) (v:=text M.s0) (I:=J2 M us vs rs r T) (aa (vs:=[sg M.s0 M.s1 M.s2,.int 0]) (.two ix ix) rfl) (cr rl.mo.l0) (.mk acc _ _ _ _ _ _ e) ?_ ?_
 ·rintro G ⟨acc,s6,s7,s8,s9,s10,s11,e⟩;obtain rfl:acc=T:=(append_nil acc).symm.trans e;exact h s6 s7 s8 s9 s10 s11
 ·rintro c B9 G Kt mc ⟨acc,s6,s7,s8,s9,s10,s11,e⟩ nx _;have op:=rl.op _ ur c mc;refine am (v:=enV M r c) (aa (vs:=[prV (M.ins r.2 c).1 (M.kp r.2 c).1,prV (M.ins r.2 c).2 (M.kp r.2 c).2]) (.two (aa (vs:=[.dict (toD us),W.kv (.op r.2.1 c (M.ins r.2 c).1 (M.kp r.2 c).1)]) (.two (aa (vs:=[bG us vs,.int 0]) (.two ix ix) rfl) (aa (vs:=[.str a6,.int r.2.1,text [c]]) (.cons ix (.two (aa (vs:=[R4 r,.int 2]) (.two ix ix) rfl) ix)) rfl)) (rl.two.to1 op.1)) (aa (vs:=[.dict (toD vs),W.kv (.op r.2.2 c (M.ins r.2 c).2 (M.kp r.2 c).2)]) (.two (aa (vs:=[bG us vs,.int 1]) (.two ix ix) rfl) (aa (vs:=[.str a6,.int r.2.2,text [c]]) (.cons ix (.two (aa (vs:=[R4 r,.int 3]) (.two ix ix) rfl) ix)) rfl)) (rl.two.to2 op.2))) rfl) ?_;refine am (v:=Pr.v (M.ins r.2 c)) (aa (vs:=[.int (M.ins r.2 c).1,.int (M.ins r.2 c).2]) (.two (aa (.two (aa (vs:=[enV M r c,.int 0]) (.two ix ix) rfl) ix) rfl) (aa (.two (aa (vs:=[enV M r c,.int 1]) (.two ix ix) rfl) ix) rfl)) rfl) ?_;refine da (l:=acc.map R4) (v:=R4 (M.ins r.2 c,M.ins r.2 c)) rfl (aa (vs:=[Pr.v (M.ins r.2 c),Pr.v (M.ins r.2 c)]) (.two ix ix) rfl) (pU e hT) ?_;rw [i5];rw [flatMap_cons,opF,List.cons_append] at e;exact wU (left:=B9.flatMap (opF M rs r)) rl ur FX hl mc hT (by rw [append_assoc]; exact e) fun acc s7 s10 s11 e=>aM (nx _ (.mk _ _ _ _ _ _ _ e))
end
def S33 (cf:CallF):Prop:=∀ M R R' us vs (rs:List Rw) r K,Real M R R' us vs->Rch M r->(∀ t∈rs,Rch M t)->rs.length<=16->K (.list ((grow M rs r).map R4))->cf.p 33 [.list (rs.map R4),sg M.s0 M.s1 M.s2,bG us vs,R4 r] K
def p33 (cf:CallF):S33 (step cf):=fun M R R' us vs rs r K rl hr FX hl h=>by
 have ur:=(hr.mem rl.mo).2;have hT:=nH (r:=r) rl.mo hl;refine run (fn:=f33) rfl rfl rfl (am (v:=Pr.v r.1) (aa (vs:=[R4 r,.int 2]) (.two ix ix) rfl) (pb ?_));refine wW (acc:=[]) (left:=M.s0.flatMap (opF M rs r)) rl ur hT rfl fun acc s6 s7 e=>?_;exact wV rl ur FX hl hT e fun s6 s7 s8 s9 s10 s11=>dL (l:=(grow M rs r).map R4) rfl (aX (v:=.list ((grow M rs r).map R4)) ix h)
noncomputable def rwD (l:List (Rw×Unit)):List (V×V):=l.map fun e=>(R4 e.1,.bool true)
def sR (l:List (Rw×Unit)):dkV (rwD l)=true:=Jb.mpr fun p m=>by obtain ⟨e,_,rfl⟩:=zA7 m; rfl
def kW (l:List (Rw×Unit)):(rwD l).map (·.1)=(l.map (·.1)).map R4:=by rw [rwD,map_map,map_map]; rfl
def zg (l:List (Rw×Unit)) (r:Rw):cE (rwD l) (R4 r) (.bool true)=rwD (bv l r ()):=k4 (f:=R4) (g:=fun U=>.bool true) () (fun U U=>pp) (fun U U=>rfl) rfl
structure Tb (M:Sys) (kb:List Rw) (l:List (Rw×Unit)):Prop where
 nd:(l.map (·.1)).Nodup
 rch:∀ r∈l.map (·.1),Rch M r
 ext:∃ ex,l.map (·.1)=kb++ex
theorem Tb.len {M:Sys} (h:Tb M kb l) (mo:M.Ok):l.length<=16:=by
 have:=bB h.nd fun r m=>(h.rch r m).rs mo;rw [zA4] at this;exact zB1 this mo.rs_len
theorem Tb.sub {M:Sys} (h:Tb M kb l):∀ r∈kb,r∈l.map (·.1):=fun r m=>by obtain ⟨ex,e⟩:=h.ext; rw [e]; exact mem_append_left _ m
theorem Tb.put {M:Sys} (h:Tb M kb l) (hr:Rch M r):Tb M kb (bv l r ()):=by
 refine ⟨cW h.nd,fun t m=>(fS.mp m).elim (fun e=>e▸hr) (h.rch t),?_⟩;obtain ⟨ex,e⟩:=h.ext;by_cases z:r∈l.map (·.1)
 ·exact ⟨ex,by rw [set_keys,if_pos z,e]⟩
 ·exact ⟨ex++[r],by rw [set_keys,if_neg z,e,append_assoc]⟩
noncomputable def g34 (pv a:V) (l:List (Rw×Unit)) (st:V) (n:Nat) (s5 s6:Slot):Gs:=[.v pv,.v a,.v st,.ownD (rwD l),.v (.int n),s5,s6]
section
variable {cf:CallF} {M:Sys} {R R':Int} {us vs:List W} {kb:List Rw} {r:Rw} {pv st:V} {n:Nat} {s5 s6:Slot} {rest:List S} {K:Option V->Gs->Prop} {l:List (Rw×Unit)}
inductive L1 (M:Sys) (pv a st:V) (kb:List Rw) (r:Rw) (n:Nat) (D:List Rw) (L:List Rw) (B9:List Rw):Gs->Prop where
 | mk (l:List (Rw×Unit)) (s6:Slot) (h:Tb M kb l) (o:∀ g∈D,g∈l.map (·.1)) (i:∀ g∈L,g∈B9\/g∈l.map (·.1)):L1 M pv a st kb r n D L B9 (g34 pv a l st n (.v (R4 r)) s6)
def v9 {D:List Rw} (HY:S33 cf) (rl:Real M R R' us vs) (hp:Val cf (g34 pv (bG us vs) l st n (.v (R4 r)) s6) (sbE (sbE (vv 0) (ii 0)) (ii 0)) (sg M.s0 M.s1 M.s2)) (hr:Rch M r) (tb:Tb M kb l) (o:∀ g∈D,g∈l.map (·.1))
  (h:∀ l' s6,Tb M kb l'->(∀ g∈D,g∈l'.map (·.1))->(∀ g∈grow M kb r,g∈l'.map (·.1))->exs cf rest (g34 pv (bG us vs) l' st n (.v (R4 r)) s6) K) :
  exs cf (yo++rest) (g34 pv (bG us vs) l st n (.v (R4 r)) s6) K:=by
 have hl:=tb.len rl.mo;have kz:(l.map (·.1)).length<=16:=by rw [zA4]; exact hl
 have gz:((grow M (l.map (·.1)) r).map R4).length<=5000:=by rw [zA4]; exact zB1 (nH rl.mo kz) (by decide)
 have el:opN .listOf [.dict (rwD l)]=some (.list ((l.map (·.1)).map R4)):=by rw [<- kW]; exact lh (sR l) (by rw [rwD,zA4]; exact zB1 hl (by decide))
 have fl:eU (.list ((l.map (·.1)).map R4))=true:=Jb.mpr fun y m=>by obtain ⟨e,_,rfl⟩:=zA7 m; rfl
 refine cH (g:=R4) (ws:=grow M (l.map (·.1)) r) (v:=.list ((grow M (l.map (·.1)) r).map R4)) (I:=L1 M pv (bG us vs) st kb r n D (grow M (l.map (·.1)) r)) (aD (vs:=[.list ((l.map (·.1)).map R4),sg M.s0 M.s1 M.s2,bG us vs,R4 r]) (.cons (d0 (aa (vs:=[.dict (rwD l)]) (.one ix) el) fl) (.cons hp (.two ix ix))) fun K h=>HY M R R' us vs _ r K rl hr tb.rch kz h) (aY gz) (.mk l s6 tb o fun g m=>.inl m) ?_ ?_
 ·rintro G ⟨l',s6,Dn,o',i'⟩;exact h l' s6 Dn o' fun g m=>bD (i' g (sr tb.sub g m))
 ·rintro g B9 G Kt mg ⟨l',s6,Dn,o',i'⟩ nx _;have z:=Dn.len rl.mo;refine eB (l:=rwD l') (v:=.bool true) (x:=R4 g) rfl ix ix rfl (d8 (by rw [rwD,zA4]; exact zB1 z (by decide))) (aM ?_);rw [zg];exact nx _ (.mk _ _ (Dn.put (ul tb.rch hr g mg)) (fun g m=>fS.mpr (.inr (o' g m))) fun t m=>cD (p:=fun t=>t∈(bv l' g ()).map (·.1)) ((i' t m).imp id fun w=>fS.mpr (.inr w)) (fS.mpr (.inl rfl)))
end
noncomputable def pv2 (s0 s1 s2:List Nat) (R R' i0 j0:Int) (en Ch:List Int) (us vs:List W):V:=.list [aS (sg s0 s1 s2) R [i0] en us,aS (sg s0 s1 s2) R' [j0] Ch vs]
inductive L2 (M:Sys) (pv a st:V) (kb:List Rw) (B9:List Rw):Gs->Prop where
 | mk (l:List (Rw×Unit)) (s5 s6:Slot) (h:Tb M kb l) (i:∀ r∈kb,r∈B9\/∀ g∈grow M kb r,g∈l.map (·.1)):L2 M pv a st kb B9 (g34 pv a l st kb.length s5 s6)
inductive L3 (M:Sys) (pv a st:V) (n:Nat):Gs->Prop where
 | mk (l:List (Rw×Unit)) (b:Nat) (s5 s6:Slot) (h:Tb M [] l) (m:(M.st,M.st)∈l.map (·.1)) (e:17 - b=n) (le:b<=l.length) (sh:b=l.length->Shut M (l.map (·.1))):L3 M pv a st n (g34 pv a l st b s5 s6)
def S34 (cf:CallF):Prop:=∀ M R R' us vs en Ch K,Real M R R' us vs->(∀ rs,TabOk M rs->K (.list (rs.map R4)))->cf.p 34 [pv2 M.s0 M.s1 M.s2 R R' M.st.1 M.st.2 en Ch us vs] K
def p34 (cf:CallF) (h32:S32 cf) (HY:S33 cf):S34 (step cf):=fun M R R' us vs en Ch K rl h=>by
 have tw:=rl.two;refine run (fn:=f34) rfl rfl rfl ?_;refine am (v:=bG us vs) (aa (vs:=[.dict (toD us),.dict (toD vs)]) (.two (aD (vs:=[aS (sg M.s0 M.s1 M.s2) R [M.st.1] en us]) (.one (aa (.two ix ix) rfl)) fun K h=>h32 _ _ _ _ _ _ _ K tw.sk tw.o1 tw.n1 tw.l1 h) (aD (vs:=[aS (sg M.s0 M.s1 M.s2) R' [M.st.2] Ch vs]) (.one (aa (.two ix ix) rfl)) fun K h=>h32 _ _ _ _ _ _ _ K tw.sk tw.o2 tw.n2 tw.l2 h)) rfl) ?_;refine am (v:=Pr.v M.st) (aa (vs:=[.int M.st.1,.int M.st.2]) (.two (aa (vs:=[az [M.st.1],.int 0]) (.two (aa (vs:=[aS (sg M.s0 M.s1 M.s2) R [M.st.1] en us,.int 2]) (.two (aa (.two ix ix) rfl) ix) rfl) ix) rfl) (aa (vs:=[az [M.st.2],.int 0]) (.two (aa (vs:=[aS (sg M.s0 M.s1 M.s2) R' [M.st.2] Ch vs,.int 2]) (.two (aa (.two ix ix) rfl) ix) rfl) ix) rfl)) rfl) ?_;refine vZ (x:=R4 (M.st,M.st)) (v:=.bool true) (aa (vs:=[Pr.v M.st,Pr.v M.st]) (.two ix ix) rfl) ix rfl (am (v:=.int (0:Nat)) ix ?_);refine pX (m:=17) (P:=L3 M (pv2 M.s0 M.s1 M.s2 R R' M.st.1 M.st.2 en Ch us vs) (bG us vs) (Pr.v M.st)) (.mk [((M.st,M.st),())] 0 _ _ ⟨nodup_cons.mpr ⟨fun m=>nM m,nodup_nil⟩,fun r m=>zA6 m▸.start,⟨_,rfl⟩⟩ (.head _) rfl (zero_le _) fun e=>absurd e (ne_of_lt (Nat.zero_lt_one))) ?_;rintro n G ⟨l,b,s5,s6,tb,m,e,le,sh⟩;have hl:=tb.len rl.mo;have el:opN .len [.dict (rwD l)]=some (.int l.length):=by rw [vc (sR l) (by rw [rwD,zA4]; exact zB1 hl (by decide)),rwD,zA4]
 have ek:opN .listOf [.dict (rwD l)]=some (.list ((l.map (·.1)).map R4)):=by rw [<- kW]; exact lh (sR l) (by rw [rwD,zA4]; exact zB1 hl (by decide))
 have fl:eU (.list ((l.map (·.1)).map R4))=true:=Jb.mpr fun y m=>by obtain ⟨e,_,rfl⟩:=zA7 m; rfl
 have kz:((l.map (·.1)).map R4).length<=5000:=by rw [zA4,zA4]; exact zB1 hl (by decide)
 refine ⟨decide ((b:Int) < l.length),aF (ao (x:=.int b) (y:=.int l.length) ix (aa (vs:=[.dict (rwD l)]) (.one ix) el) rfl) rfl,fun t Kt nx U=>?_,fun t=>?_⟩
 ·have lt:b < l.length:=ofNat_lt.mp (of_decide_eq_true t);refine am (v:=.int (l.map (·.1)).length) (by rw [zA4]; exact aF (aa (vs:=[.dict (rwD l)]) (.one ix) el) rfl) ?_;refine cH (g:=R4) (ws:=l.map (·.1)) (v:=.list ((l.map (·.1)).map R4)) (I:=L2 M (pv2 M.s0 M.s1 M.s2 R R' M.st.1 M.st.2 en Ch us vs) (bG us vs) (Pr.v M.st) (l.map (·.1))) (d0 (aa (vs:=[.dict (rwD l)]) (.one ix) ek) fl) (aY kz) (.mk l s5 s6 ⟨tb.nd,tb.rch,[],(append_nil _).symm⟩ fun r m=>.inl m) ?_ ?_
  ·rintro G ⟨l',s5,s6,Dn,i⟩;have CP:=Dn.len rl.mo;obtain ⟨ex,ee⟩:=Dn.ext;have le':(l.map (·.1)).length<=l'.length:=by have:=congrArg List.length ee; rw [zB5,length_map (as:=l')] at this; rw [this]; exact le_add_right _ _
   refine aM (nx _ (17 - (l.map (·.1)).length) (by rw [zA4]; omega) (.mk l' _ s5 s6 ⟨Dn.nd,Dn.rch,_,rfl⟩ (Dn.sub _ m) rfl le' fun z=>⟨?_⟩));have e0:ex=[]:=List.eq_nil_of_length_eq_zero (by have:=congrArg List.length ee; rw [zB5,length_map (as:=l'),<- z] at this; omega);rw [e0,append_nil] at ee;rw [ee];exact fun r mr g mg=>ee▸bD (i r mr) g mg
  ·rintro r B9 G Kt mr ⟨l',s5,s6,Dn,i⟩ nx _;refine v9 (rest:=[]) (D:=l'.map (·.1)) HY rl (aa (vs:=[aS (sg M.s0 M.s1 M.s2) R [M.st.1] en us,.int 0]) (.two (aa (.two ix ix) rfl) ix) rfl) (tb.rch r mr) Dn (fun U m=>m) fun l'' s6 Ha o q=>aM (nx _ (.mk l'' _ s6 Ha fun t mt=>?_));exact cD (p:=fun t=>∀ g∈grow M (l.map (·.1)) t,g∈l''.map (·.1)) ((i t mt).imp id fun w g mg=>o g (w g mg)) q
 ·have nl:¬ b < l.length:=fun z=>(of_decide_eq_false t) (ofNat_lt.mpr z);have sh:=sh (le_antisymm le (not_lt.mp nl));refine dY (l:=rwD l) rfl (uN (nO (v:=.dict (rwD l)) rl.mo ix ((if_pos (sR l)).trans (congrArg some (kW l))) tb.nd (fun r=>⟨tb.rch r,sh.rch m⟩) h))
noncomputable def onE (R:Int) (ws:List W) (a:Int) (c:Nat):Int:=epsilon fun t=>.on a c t∈ws/\In R t
noncomputable def opE (R:Int) (ws:List W) (a:Int) (c:Nat):Int×Int:=epsilon fun t=>.op a c t.1 t.2∈ws/\In R t.1/\In R t.2
noncomputable def clE (R:Int) (ws:List W) (a b:Int) (c:Nat):Int:=epsilon fun t=>.cl a b c t∈ws/\In R t
noncomputable def unL (R R':Int):List Pr:=(List.range R.toNat).flatMap fun i:Nat=>(List.range R'.toNat).map fun j:Nat=>((i:Int),(j:Int))
noncomputable def BJ (s0 s1 s2:List Nat) (R R' i0 j0:Int) (ws CT:List W):Sys where
 s0:=s0
 s1:=s1
 s2:=s2
 un:=unL R R'
 st:=(i0,j0)
 on q c:=(onE R ws q.1 c,onE R' CT q.2 c)
 ins q c:=((opE R ws q.1 c).1,(opE R' CT q.2 c).1)
 kp q c:=((opE R ws q.1 c).2,(opE R' CT q.2 c).2)
 cl q k c:=(clE R ws q.1 k.1 c,clE R' CT q.2 k.2 c)
def aU {R R':Int} {q:Pr}:q∈unL R R' ↔ In R q.1/\In R' q.2:=by
 constructor
 ·intro m;obtain ⟨i,mi,m⟩:=mem_flatMap.mp m;obtain ⟨j,mj,rfl⟩:=zA7 m;exact ⟨⟨natCast_nonneg _,lt_toNat.mp (mem_range.mp mi)⟩,natCast_nonneg _,lt_toNat.mp (mem_range.mp mj)⟩
 ·intro ⟨h,h'⟩;have a:=iy h;have b:=iy h';rw [Int.zero_add] at a b;exact mem_flatMap.mpr ⟨q.1.toNat,mem_range.mpr a.1,mem_map.mpr ⟨q.2.toNat,mem_range.mpr b.1,Prod.ext a.2 b.2⟩⟩
theorem eg {α β:Type} {f:α->List β} {n:Nat} (h:∀ x,(f x).length=n):∀ l:List α,(l.flatMap f).length=l.length * n
 | []=>(Nat.zero_mul _).symm
 | x :: l=>by rw [flatMap_cons,zB5,zB4,succ_mul,eg h l,h x,add_comm]
def y2 (R R':Int):(unL R R').length=R.toNat * R'.toNat:=by
 rw [unL,eg (n:=R'.toNat) (fun i=>by rw [zA4,length_range]),length_range]
def ud (R:Nat) (s0 s1 s2:List Nat):(keysL R s0 s1 s2).length=R * (s2.length+s0.length+R * s1.length):=by
 rw [keysL,eg (n:=s2.length+s0.length+R * s1.length) (fun r=>?_),length_range];rw [keysR,zB5,zB5,zA4,zA4,eg (n:=s1.length) (fun k=>by rw [zA4]),length_range]
section
variable {s0 s1 s2:List Nat} {R R' i0 j0:Int} {ws CT us vs:List W}
theorem FullW.onE (F:FullW s0 s1 s2 R ws) (ha:In R a) (hc:c∈s2):.on a c (onE R ws a c)∈ws/\In R (onE R ws a c):=epsilon_spec (p:=fun t=>.on a c t∈ws/\In R t) (F.on ha hc)
theorem FullW.opE (F:FullW s0 s1 s2 R ws) (ha:In R a) (hc:c∈s0):.op a c (opE R ws a c).1 (opE R ws a c).2∈ws/\In R (opE R ws a c).1/\In R (opE R ws a c).2:=epsilon_spec (p:=fun t:Int×Int=>.op a c t.1 t.2∈ws/\In R t.1/\In R t.2) (by
 obtain ⟨t,u,h⟩:=F.op ha hc;exact ⟨(t,u),h⟩)
theorem FullW.clE (F:FullW s0 s1 s2 R ws) (ha:In R a) (hb:In R b) (hc:c∈s1):.cl a b c (clE R ws a b c)∈ws/\In R (clE R ws a b c):=epsilon_spec (p:=fun t=>.cl a b c t∈ws/\In R t) (F.cl ha hb hc)
def qv (sk:SgOk s0 s1 s2) (F:FullW s0 s1 s2 R ws) (F':FullW s0 s1 s2 R' CT) (hi:In R i0) (hj:In R' j0) (hu:∀ w,w∈us ↔ w∈ws) (hv:∀ w,w∈vs ↔ w∈CT) (nu:(us.map W.kv).Nodup) (nv:(vs.map W.kv).Nodup) (lu:us.length < 58) (lv:vs.length < 58) (h4:R.toNat * R'.toNat<=4):Real (BJ s0 s1 s2 R R' i0 j0 ws CT) R R' us vs where
 two:=⟨sk,fun w m=>F.ok w ((hu w).mp m),fun w m=>F'.ok w ((hv w).mp m),nu,nv,lu,lv⟩
 mo:={
  len:=by refine (?_:(unL R R').length<=4); rw [y2]; exact h4
  st:=aU.mpr ⟨hi,hj⟩
  on:=fun q m c mc=>aU.mpr ⟨(F.onE (aU.mp m).1 mc).2,(F'.onE (aU.mp m).2 mc).2⟩
  ins:=fun q m c mc=>aU.mpr ⟨(F.opE (aU.mp m).1 mc).2.1,(F'.opE (aU.mp m).2 mc).2.1⟩
  kp:=fun q m c mc=>aU.mpr ⟨(F.opE (aU.mp m).1 mc).2.2,(F'.opE (aU.mp m).2 mc).2.2⟩
  cl:=fun q m k mk c mc=>aU.mpr ⟨(F.clE (aU.mp m).1 (aU.mp mk).1 mc).2,(F'.clE (aU.mp m).2 (aU.mp mk).2 mc).2⟩
  l0:=sk.la
  l1:=sk.lb
  l2:=sk.lc }
 on q m c mc:=⟨(hu _).mpr (F.onE (aU.mp m).1 mc).1,(hv _).mpr (F'.onE (aU.mp m).2 mc).1⟩
 op q m c mc:=⟨(hu _).mpr (F.opE (aU.mp m).1 mc).1,(hv _).mpr (F'.opE (aU.mp m).2 mc).1⟩
 cl q m k mk c mc:=⟨(hu _).mpr (F.clE (aU.mp m).1 (aU.mp mk).1 mc).1,(hv _).mpr (F'.clE (aU.mp m).2 (aU.mp mk).2 mc).1⟩
def gE (h:(us.map W.kv).Nodup):us.Nodup:=(pairwise_map.mp h).imp fun n e=>n (congrArg W.kv e)
def m0 (sk:SgOk s0 s1 s2) (F:FullW s0 s1 s2 R ws) (hu:∀ w,w∈us ↔ w∈ws) (nu:(us.map W.kv).Nodup) (r1:1<=R) (r3:R<=3):Plain s0 s1 s2 R us:=by
 refine ⟨?_,r1,r3⟩;have p:=((List.perm_ext_iff_of_nodup (gE nu) (gE (F.kvs sk))).mpr hu).length_eq;have k:=congrArg List.length F.keys;rw [zA4,ud] at k;rw [p,k];have e:((R.toNat:Nat):Int)=R:=toNat_of_nonneg (le_trans (by decide) r1);rw [Int.natCast_mul,Int.natCast_add,Int.natCast_add,Int.natCast_mul,e,Int.mul_add,Int.mul_assoc,Int.add_comm (s2.length:Int)]
end
structure Cut (l:List Nat) (o:List Nat×List Nat×List Nat):Prop where
 sub:(o.1++o.2.1++o.2.2).Sublist l
 l0:o.1.length<=2
 l1:o.2.1.length<=2
 l2:o.2.2.length<=2
theorem Cut.ok {l:List Nat} (h:Cut l o) (nd:l.Nodup) (lo:∀ x∈l,low x=true):SgOk o.1 o.2.1 o.2.2:=⟨zB1 h.l0 (by decide),zB1 h.l1 (by decide),zB1 h.l2 (by decide),fun x m=>lo x (h.sub.subset m),nd.sublist h.sub⟩
noncomputable def sgO (o:List Nat×List Nat×List Nat):V:=sg o.1 o.2.1 o.2.2
noncomputable def AA (a b c d:Nat):List (List Nat×List Nat×List Nat):=[([a],[b],[c]),([a],[b],[]),([a],[b,c],[d])]
noncomputable def Az (a b c d:Nat):List (List Nat×List Nat×List Nat):=[([],[],[a,b]),([a,b],[c],[]),([a],[],[c,d]),([],[a],[b])]
def dU {n:Nat} (h:Nat.ble n 2=true):n<=2:=Nat.le_of_ble_eq_true h
def xA (a b c d:Nat):∀ o∈AA a b c d,Cut [a,b,c,d] o:=by
 refine zA1 ⟨⟨?_,dU rfl,dU rfl,dU rfl⟩,zA1 ⟨⟨?_,dU rfl,dU rfl,dU rfl⟩,forall_mem_singleton.mpr ⟨?_,dU rfl,dU rfl,dU rfl⟩⟩⟩ <;> repeat (first | exact .slnil | apply Sublist.cons_cons | apply Sublist.cons)
def xz (a b c d:Nat):∀ o∈Az a b c d,Cut [a,b,c,d] o:=by
 refine zA1 ⟨⟨?_,dU rfl,dU rfl,dU rfl⟩,zA1 ⟨⟨?_,dU rfl,dU rfl,dU rfl⟩,zA1 ⟨⟨?_,dU rfl,dU rfl,dU rfl⟩,forall_mem_singleton.mpr ⟨?_,dU rfl,dU rfl,dU rfl⟩⟩⟩⟩ <;> repeat (first | exact .slnil | apply Sublist.cons_cons | apply Sublist.cons)
def u7 {os:List (List Nat×List Nat×List Nat)} {x:Int} {n:Nat} (hn:os.length=n) (h0:0 < n) (h4:n<=4):∃ o∈os,opN .sub [.list (os.map sgO),.int (x.fmod n)]=some (sgO o):=by
 have a:=cB x (b:=n) (ofNat_lt.mpr h0);have b:=fV x (b:=n) (ofNat_lt.mpr h0);have h:(x.fmod n).toNat < os.length:=by rw [hn]; exact (toNat_lt a).mpr b
 refine ⟨_,getElem_mem h,gR (by rw [zA4,hn]; exact zB1 h4 (by decide)) a ?_⟩;rw [Jc,J9 h]; rfl
structure All (cf:CallF):Prop where
 h20:S20 cf
 h26:S26 cf
 h27:S27 cf
 h29:S29 cf
 h30:S30 cf
 h34:S34 cf
 h35:S35 cf
section
variable {cf:CallF} {G:Gs} {r:List S} {K:Option V->Gs->Prop} {k:Nat} {e a b:E}
def v0 (h:ev cf e G fun x=>[x].length<=ac/\exs cf r (G.set k (.ownL [x])) K):exs cf (.mk (.ownL k) [e] [] [] :: r) G K:=h
def yT {l:List V} (hl:gK G k=some l) (h:ev cf e G fun x=>l.length < ac/\exs cf r (G.set k (.ownL (l++[x]))) K):exs cf (.mk (.append k) [e] [] [] :: r) G K:=ad hl h
def yC {K:V->Prop} (h:Val cf G e x) (k:K x):ev cf e G K:=h _ k
def rG (h:ev cf e G fun x=>exs cf r (G.set k (.v x)) K):exs cf (.mk (.assign k) [e] [] [] :: r) G K:=h
def pY (hv:Val cf G a x) (h:cf.p 27 [x] fun u=>ev cf b G fun y=>cf.p 27 [y] fun v=>exs cf r (G.set k (.v (.list [u,v]))) K):exs cf (.mk (.assign k) [.nd .list [.nd (.call 27) [a],.nd (.call 27) [b]]] [] [] :: r) G K:=hv _ h
end
def te {e s:E} (h:Val cf G s v) (hq:bM v=some [a,b]) (h1:Val cf (G.set j (.v a)) e x) (h2:Val cf (G.set j (.v b)) e y):Val cf G (.nd (.comp j) [s,e]) (.list [x,y]):=d4 (ws:=[(a,x),(b,y)]) (g:=Prod.fst) (f:=Prod.snd) h hq (zA1 ⟨h1,forall_mem_singleton.mpr h2⟩)
def fX (h:gc n x) (hn:n<=m):gc m x:=⟨h.1,zB1 h.2 hn⟩
def j9 (is:List Int):gc 1 (az is):=c7 fun x m=>by obtain ⟨i,_,rfl⟩:=zA7 m; exact cS rfl
def q8 {ws:List W} (sk:SgOk s0 s1 s2) (ok:∀ w∈ws,W.ok s0 s1 s2 R w):gc 3 (ofV s0 s1 s2 R' st en (ws.map W.v)):=bZ (n:=2) (zA1 ⟨fX (q7 sk) (by decide),zA1 ⟨fX (cS (x:=.int R') rfl) (by decide),zA1 ⟨fX (j9 _) (by decide),zA1 ⟨fX (j9 _) (by decide),forall_mem_singleton.mpr (c7 fun x m=>by obtain ⟨w,mw,rfl⟩:=zA7 m; exact uo sk (ok w mw))⟩⟩⟩⟩)
def Bq (h:gC x=true):bo .Eq x x=some true:=by
 refine (?_:eqO x x=_);rw [show eqO x x=some (PyData.eqv x x) from if_pos (by rw [h]; rfl),PySem.SeqAt.eqv_refl x (zA2 h).1]
def zB {a b:List V} (h:(a++b).length<=5000):opN (.bin .Add) [.list a,.list b]=some (.list (a++b)):=if_pos (bU h)
structure Mch (s0 s1 s2:List Nat) (R i0:Int) (en:List Int) (ws:List W):Prop where
 sk:SgOk s0 s1 s2
 r1:1<=R
 r3:R<=3
 hi:In R i0
 ke:RoomsOk R en
 F:FullW s0 s1 s2 R ws
theorem Mch.good (p:Mch s0 s1 s2 R i0 en ws):ai s0 s1 s2 R [i0] en ws:=⟨p.sk,p.r1,le_trans p.r3 (by decide),⟨show 1<=40 by decide,nodup_cons.mpr ⟨fun m=>nM m,nodup_nil⟩,forall_mem_singleton.mpr p.hi⟩,p.ke,zB1 (le_of_lt p.F.len) (by decide),p.F.ok⟩
structure Hd (s0 s1 s2:List Nat) (R i0:Int) (en:List Int) (ws:List W) (Ch:List Int) (us:List W):Prop where
 mem:∀ w,w∈us ↔ w∈ws
 nd:(us.map W.kv).Nodup
 len:us.length < 58
 h:Held [i0] en (ws.map W.v) [i0] Ch (us.map W.v)
section
variable {s0 s1 s2:List Nat} {R R' i0 j0:Int} {en Ch DB D5:List Int} {ws CT us vs:List W} {cf:CallF}
theorem Mch.held (A:All cf) (p:Mch s0 s1 s2 R i0 en ws) {K:V->Prop} (h:∀ Ch us,Hd s0 s1 s2 R i0 en ws Ch us->K (aB (sg s0 s1 s2) R [i0] Ch (us.map W.v))):cf.p 27 [aS (sg s0 s1 s2) R [i0] en ws] K:=A.h27 _ _ _ _ _ _ _ _ p.good fun B8 Ch r q=>by
 obtain rfl:=List.perm_singleton.mp q.p1;obtain ⟨us,rfl,m,nd,l⟩:=sn p.F p.sk q;exact h Ch us ⟨m,nd,l,q⟩
theorem Hd.uniq (p:Mch s0 s1 s2 R i0 en ws) (a:Hd s0 s1 s2 R i0 en ws DB us) (b:Hd s0 s1 s2 R i0 en ws D5 vs):aB (sg s0 s1 s2) R [i0] DB (us.map W.v)=aB (sg s0 s1 s2) R [i0] D5 (vs.map W.v):=by
 rw [se a.h.p2 a.h.o2 b.h.p2 b.h.o2,rW p.sk p.F.ok a.h.nd a.h.mem a.h.up b.h.nd b.h.mem b.h.up]
theorem Hd.le (p:Mch s0 s1 s2 R i0 en ws) (a:Hd s0 s1 s2 R i0 en ws DB us):DB.length<=40:=a.h.p2.length_eq▸p.ke.len
end
noncomputable def g36 (scr:List Int) (c:Int) (l:List Nat) (z4:Slot) (sv:V) (s6 s7 s8 s9 s10 s11 s12 s13 s14:Slot):Gs:=[.v (mR scr),.v (.int c),.v (.str abc),.v (text l),z4,.v sv,s6,s7,s8,s9,s10,s11,s12,s13,s14]
noncomputable def nR (rs:List Rw):V:=.list (rs.map R4++[.int 0])
inductive I36 (f:Slot->Slot->Slot->Gs) (rs:List Rw) (B9:List Nat):Gs->Prop where
 | mk (m:Nat) (s10 s11:Slot) (e:m+B9.length=2):I36 f rs B9 (f (.ownL (replicate m (nR rs))) s10 s11)
def uq (rs:List Rw):gc 2 (nR rs):=c7 fun x m=>by
 rcases mem_append.mp m with m | m
 ·obtain ⟨r,_,rfl⟩:=zA7 m; exact bZ fun x m=>cS (vM r x m)
 ·obtain rfl:=zA6 m; exact fX (cS rfl) (zero_le _)
section
variable {s0 s1 s2:List Nat} {R R' i0 j0:Int} {en Ch DB D5:List Int} {ws CT us vs:List W} {cf:CallF} {scr:List Int} {c:Int} {l:List Nat} {z4:Slot} {K:V->Prop} {rs:List Rw}
def zF (A:All cf) {M:Sys} (rl:Real M R R' us vs) (p1:Plain M.s0 M.s1 M.s2 R us) (p2:Plain M.s0 M.s1 M.s2 R' vs) (tb:TabOk M rs) {pv:V} {rest:List S} {K:Option V->Gs->Prop}
  (h:∀ s10 s11,exs cf rest (g36 scr c l z4 (sg M.s0 M.s1 M.s2) (.v pv) (.v (.list [aB (sg M.s0 M.s1 M.s2) R [M.st.1] DB (us.map W.v),aB (sg M.s0 M.s1 M.s2) R' [M.st.2] D5 (vs.map W.v)])) (.v (.list (rs.map R4))) (.ownL (replicate 2 (nR rs))) s10 s11 .unset .unset .unset) K) :
  exs cf (.mk (.forS 10) [.nd .range [ii 2]] yn [] :: rest) (g36 scr c l z4 (sg M.s0 M.s1 M.s2) (.v pv) (.v (.list [aB (sg M.s0 M.s1 M.s2) R [M.st.1] DB (us.map W.v),aB (sg M.s0 M.s1 M.s2) R' [M.st.2] D5 (vs.map W.v)])) (.v (.list (rs.map R4))) (.ownL []) .unset .unset .unset .unset .unset) K:=by
 have hl:=tb.len rl.mo;refine pc (n:=2) (I:=I36 (fun s9 s10 s11=>g36 scr c l z4 (sg M.s0 M.s1 M.s2) (.v pv) (.v (.list [aB (sg M.s0 M.s1 M.s2) R [M.st.1] DB (us.map W.v),aB (sg M.s0 M.s1 M.s2) R' [M.st.2] D5 (vs.map W.v)])) (.v (.list (rs.map R4))) s9 s10 s11 .unset .unset .unset) rs) ix (by decide) (by decide) (.mk 0 _ _ rfl) ?_ ?_
 ·rintro G ⟨m,s10,s11,e⟩;obtain rfl:m=2:=e;exact h s10 s11
 ·rintro i B9 G Kt hi ⟨m,s10,s11,e⟩ nx _;refine yO (vs:=[aB (sg M.s0 M.s1 M.s2) R [M.st.1] DB (us.map W.v),aB (sg M.s0 M.s1 M.s2) R' [M.st.2] D5 (vs.map W.v)]) (.two (aa (.two ix ix) rfl) (aa (.two ix ix) rfl)) (A.h26 M R R' us vs DB D5 _ rl p1 p2 fun Fe Dn=>⟨?_,ad (z:=Fe.map R4) rfl ?_⟩)
  ·exact Jb.mpr fun x m=>by obtain ⟨r,_,rfl⟩:=zA7 m; rfl
  rw [Dn.uniq tb];refine aW (ay (t:=true) (aF (aD (vs:=[.list (rs.map R4),.list (rs.map R4)]) (.two ix ix) fun K h=>A.h29 rs K hl h) rfl)) ?_;have hz:(rs.map R4).length < ac:=d8 (by rw [zA4]; exact zB1 hl (by decide));refine da (l:=rs.map R4) (v:=.int 0) rfl ix hz (dL (l:=rs.map R4++[.int 0]) rfl ?_);refine da (l:=replicate m (nR rs)) (v:=nR rs) rfl ix (d8 (by rw [List.length_replicate,]; have:=le_add_right m (i :: B9).length; rw [e] at this; exact zB1 this (by decide))) (aM ?_);rw [<- List.replicate_succ'];exact nx _ (.mk (m+1) _ _ (by rw [<- e,zB4,add_right_comm]; rfl))
def Bo (A:All cf) (p:Mch s0 s1 s2 R i0 en ws) (p':Mch s0 s1 s2 R' j0 Ch CT) (h4:R.toNat * R'.toNat<=4) (h:K (.bool true)) :
  exs cf (f36.body.drop 9) (g36 scr c l z4 (sg s0 s1 s2) (.v (pv2 s0 s1 s2 R R' i0 j0 en Ch ws CT)) .unset .unset .unset .unset .unset .unset .unset .unset) fun fl U=>K (fl.getD .none):=by
 refine pY (x:=aS (sg s0 s1 s2) R [i0] en ws) (aa (.two ix ix) rfl) (p.held A fun DB us d=>?_);refine yC (x:=aS (sg s0 s1 s2) R' [j0] Ch CT) (aa (vs:=[pv2 s0 s1 s2 R R' i0 j0 en Ch ws CT,.int 1]) (.two ix ix) rfl) (p'.held A fun D5 vs d'=>?_);have rl:=qv p.sk p.F p'.F p.hi p'.hi d.mem d'.mem d.nd d'.nd d.len d'.len h4;have r0:=qv p.sk p.F p'.F p.hi p'.hi (fun U=>Iff.rfl) (fun U=>Iff.rfl) (p.F.kvs p.sk) (p'.F.kvs p.sk) p.F.len p'.F.len h4;refine rG (ev_call (vs:=[pv2 s0 s1 s2 R R' i0 j0 en Ch ws CT]) (.one ix) (A.h34 _ R R' ws CT en Ch _ r0 fun rs tb=>pb ?_));refine zF A rl (m0 p.sk p.F d.mem d.nd p.r1 p.r3) (m0 p.sk p'.F d'.mem d'.nd p'.r1 p'.r3) tb fun s10 s11=>?_;refine dL (l:=replicate 2 (nR rs)) rfl ?_;have hz:(rs.map R4++[PyData.int 0]).length<=5000:=by rw [zB5,zA4]; exact zB1 (add_le_add_right (tb.len rl.mo) 1) (by decide)
 refine aW (ao (x:=.list []) (y:=.list []) (iU (k:=13) (ws:=replicate 2 (nR rs)) (g:=id) (p:=fun U=>false) (f:=id) (x:=.list (replicate 2 (nR rs))) ix rfl (fun w m=>.one ?_) fun w m q=>nB q) ix (oW rfl)) ?_
 ·obtain rfl:=(List.mem_replicate.mp m).2;exact ao (x:=nR rs) (y:=nR rs) ix (aa (vs:=[.list (rs.map R4),.list [.int 0]]) (.two ix ix) (zB hz)) (oW (eH (uq rs) (by decide)))
 refine pY (x:=aS (sg s0 s1 s2) R [i0] en ws) (aa (.two ix ix) rfl) (p.held A fun en3 us' t=>?_);refine yC (x:=aS (sg s0 s1 s2) R' [j0] Ch CT) (aa (vs:=[pv2 s0 s1 s2 R R' i0 j0 en Ch ws CT,.int 1]) (.two ix ix) rfl) (p'.held A fun en4 G8 t'=>?_);rw [t.uniq p d,t'.uniq p' d'];have vo:∀ {G:Gs} {s:E},Val cf G s (.list [aB (sg s0 s1 s2) R [i0] DB (us.map W.v),aB (sg s0 s1 s2) R' [j0] D5 (vs.map W.v)])->(∀ x,Val cf (G.set 13 (.v x)) (vv 13) x)->Val cf G (.nd (.comp 13) [s,.nd (.call 35) [vv 13]]) (.list [ofV s0 s1 s2 R [i0] DB (us.map W.v),ofV s0 s1 s2 R' [j0] D5 (vs.map W.v)]):=fun hv hx=>te hv rfl (aD (.one (hx _)) fun K k=>A.h35 s0 s1 s2 _ _ _ _ K (show 1<=40 by decide) (d.le p) (by rw [zA4]; exact zB1 (le_of_lt d.len) (by decide)) k) (aD (.one (hx _)) fun K k=>A.h35 s0 s1 s2 _ _ _ _ K (show 1<=40 by decide) (d'.le p') (by rw [zA4]; exact zB1 (le_of_lt d'.len) (by decide)) k);exact aX (v:=.bool true) (ao (vo ix fun U=>ix) (vo ix fun U=>ix) (Bq (eH (n:=4) (c7 (zA1 ⟨q8 p.sk rl.two.o1,forall_mem_singleton.mpr (q8 p.sk rl.two.o2)⟩)) (by decide)))) h
end
def xx {R:Int} (r1:1<=R) (r3:R<=3):[PyData.int 3,.int 2,.int 1][(R - 1).toNat]?=some (.int (4 - R)):=by
 have:R=1\/R=2\/R=3:=by omega
 rcases this with rfl | rfl | rfl <;> rfl
def AJ {R x:Int} (r1:1<=R) (r3:R<=3) (x1:1<=x) (x2:x<=4 - R):R.toNat * x.toNat<=4:=by
 have:R=1\/R=2\/R=3:=by omega
 rcases this with rfl | rfl | rfl
 ·refine (?_:1 * x.toNat<=4); omega
 ·refine (?_:2 * x.toNat<=4); omega
 ·refine (?_:3 * x.toNat<=4); omega
def S36 (cf:CallF):Prop:=∀ scr:List Int,scr.length<=63->∀ K:V->Prop,K (.bool true)->cf.p 36 [mR scr] K
def p36 (cf:CallF) (A:All cf):S36 (step cf):=fun scr hs K h=>by
 refine run (fn:=f36) rfl rfl rfl ?_;have cell:∀ {G:Gs} {b:E} {i:Int},Val cf G (vv 0) (mR scr)->Val cf G b (.int i)->0<=i->Val cf G (.nd (.call 20) [vv 0,b]) (.int (bp scr i)):=fun ha hb hi=>aD (.two ha hb) fun K h=>A.h20 scr _ K hs hi h;refine am (v:=.int (bp scr 0)) (cell ix ix (by decide)) (am (v:=.str abc) ix ?_);generalize hc0:bp scr 0=c0;refine am (v:=text (qu c0 5 4)) (v5 (c:=c0) (n:=4) (k:=13) (by decide) ix fun i=>?_) ?_
 ·have lt:=ve c0 5 i;exact aa (vs:=[.str abc,.int ((c0+5 * (0+(i:Int))).fmod 26)]) (.two ix (aa (vs:=[.int (c0+5 * (0+(i:Int))),.int 26]) (.two (aa (vs:=[.int c0,.int (5 * (0+(i:Int)))]) (.two ix (aa (.two ix ix) (lQ (.inr (by decide))))) rfl) ix) (dD (by decide)))) (qQ (f:=fun c=>text [c]) (by decide) (cB _ (by decide)) (vD _ lt).1)
 have nd:=rX (n:=4) c0 (by decide);have lo:=wh c0 5 4;obtain ⟨a,b,c,d,el⟩:∃ a b c d,qu c0 5 4=[a,b,c,d]:=⟨_,_,_,_,rfl⟩;rw [el] at nd lo ⊢;have Gy:∀ {o:List Nat×List Nat×List Nat} {z4:Slot},Cut [a,b,c,d] o->exs cf (f36.body.drop 6) (g36 scr c0 [a,b,c,d] z4 (sgO o) .unset .unset .unset .unset .unset .unset .unset .unset .unset) fun fl U=>K (fl.getD .none):=fun {o z4} q=>by
  have sk:=q.ok nd lo;have m1:=cB (bp scr 1) (b:=3) (by decide);have m2:=fV (bp scr 1) (b:=3) (by decide);have r1:1<=1+(bp scr 1).fmod 3:=by omega
  have r3:1+(bp scr 1).fmod 3<=3:=by omega
  refine v0 (ev_call (vs:=[mR scr,.int 2,sgO o,.int (1+(bp scr 1).fmod 3)]) (.cons ix (.cons ix (.two ix (aa (.two ix (aa (.two (cell ix ix (by decide)) ix) (dD (by decide)))) rfl)))) (A.h30 scr 2 o.1 o.2.1 o.2.2 _ _ hs (by decide) sk q.l0 q.l1 q.l2 r1 r3 fun i0 en ws hi he F=>⟨(by decide:1<=ac),?_⟩));generalize 1+(bp scr 1).fmod 3=R at r1 r3 hi he F ⊢;have hd:0 < 4 - R:=by omega
  have k1:=cB ((bp scr 1).fdiv 3) hd;have k2:=fV ((bp scr 1).fdiv 3) hd;have FB:1<=1+((bp scr 1).fdiv 3).fmod (4 - R):=by omega
  have r3':1+((bp scr 1).fdiv 3).fmod (4 - R)<=4 - R:=by omega
  refine yT (l:=[aS (sgO o) R [i0] en ws]) rfl (ev_call (vs:=[mR scr,.int 11,sgO o,.int (1+((bp scr 1).fdiv 3).fmod (4 - R))]) (.cons ix (.cons ix (.two ix (aa (vs:=[.int 1,.int (((bp scr 1).fdiv 3).fmod (4 - R))]) (.two ix (aa (vs:=[.int ((bp scr 1).fdiv 3),.int (4 - R)]) (.two (aa (.two (cell ix ix (by decide)) ix) (lS (by decide) (by decide))) (aF (aa (vs:=[.list [.int 3,.int 2,.int 1],.int (R - 1)]) (.two ix (aa (vs:=[.int R,.int 1]) (.two (aa (vs:=[aS (sgO o) R [i0] en ws,.int 1]) (.two (aa (vs:=[.list [aS (sgO o) R [i0] en ws],.int 0]) (.two ix ix) rfl) ix) rfl) ix) rfl)) (gR (by decide:3<=5000) (by omega) (xx r1 r3))) rfl)) (dD hd))) rfl)))) (A.h30 scr 11 o.1 o.2.1 o.2.2 _ _ hs (by decide) sk q.l0 q.l1 q.l2 FB (by omega) fun j0 Ch CT hj EF F'=>⟨(by decide:1 < ac),?_⟩));exact dL (l:=[aS (sgO o) R [i0] en ws,aS (sgO o) (1+((bp scr 1).fdiv 3).fmod (4 - R)) [j0] Ch CT]) rfl (Bo A ⟨sk,r1,r3,hi,he,F⟩ ⟨sk,FB,by omega,hj,EF,F'⟩ (AJ r1 r3 FB r3') h)
 refine am (v:=.list ((AA a b c d).map sgO)) ix ?_;obtain ⟨o,mo,eo⟩:=u7 (os:=AA a b c d) (x:=c0.fdiv 26) (n:=3) rfl (by decide) (by decide);refine am (v:=sgO o) (aa (.two ix (aa (.two (aa (.two ix ix) (lS (by decide) (by decide))) ix) (dD (by decide)))) eo) ?_;refine gT (ao (aa (.two (aa (.two ix ix) (lS (by decide) (by decide))) ix) (dD (by decide))) ix BG) (fun U=>?_) fun U=>Gy (xA a b c d o mo);obtain ⟨o',mo',EM⟩:=u7 (os:=Az a b c d) (x:=c0.fdiv 624) (n:=4) rfl (by decide) (by decide);refine am (v:=.list ((Az a b c d).map sgO)) ix ?_;exact am (v:=sgO o') (aa (.two ix (aa (.two (aa (.two ix ix) (lS (by decide) (by decide))) ix) (dD (by decide)))) EM) (Gy (xz a b c d o' mo'))
def meths (cf:CallF):MethOk (step cf):=⟨fun U U U U U U=>p15,fun U U U U U U=>p16,fun U U U U U U=>p17,fun U U U U U U=>p18,fun U U U U U U=>p19⟩
def Af (scr:List Int) (hs:scr.length<=63):(ak prog 8).p 36 [.list (scr.map .int)] fun y=>y=.bool true:=by
 have b:∀ n,S14 (ak prog (n+4)):=fun n=>p14 _ (p2 _ (p1 _ (p0 (ak prog n)))) (p10 (ak prog (n+2))) (p11 _ (p10 (ak prog (n+1)))) (p13 _ (p12 _ (p3 (ak prog n)) (p10 (ak prog n))));have A:All (ak prog 7):={
  h20:=p20 (ak prog 6)
  h26:=p26 _ (p25 _ (meths (ak prog 4)) (p4 _ (meths (ak prog 3)) (p5 _ (meths (ak prog 2)))) (p9 (ak prog 4)) (p22 (ak prog 4)) (p24 _ (p6 (ak prog 3)) (p7 (ak prog 3)) (p22 (ak prog 3)) (p23 _ (p8 (ak prog 2)) (p22 (ak prog 2))))) (p28 _ (meths (ak prog 4))) (p31 _ (meths (ak prog 4)))
  h27:=p27 _ (b 2)
  h29:=p29 (ak prog 6)
  h30:=p30 _ (p20 (ak prog 5)) (p21 (ak prog 5))
  h34:=p34 _ (p32 (ak prog 5)) (p33 (ak prog 5))
  h35:=p35 _ (meths (ak prog 5)) }
 exact p36 _ A scr hs _ rfl
end Mine.L10
end
noncomputable section
open PySem PySem.W PyProof.Rows
namespace Mine.L10
def said:PySem.Challenge.rw_uf010006_10.wellSaid=true:=by kernel_rfl
def law10:PySem.Challenge.rw_uf010006_10.Holds:=by
 w_on
 refine holds_law said fun said=>?_;refine holds_open (q:=vw) (loose:=[]) (Xt:=vwX) (XP:=XL vw []) (Yf:=Hook.obs oJ) (Ya:=Hook.val oJ) (YP:=Hook.says oJ) (N:=6014) zI (Hook.of oJ) (Hook.keeps oJ) (fun s e=>xl_of s (Bool.and_eq_true_iff.mp e).1) XL.keeps (by rfl) (by rfl) (by rfl) (fun s e=>recFacts_of (Bool.and_eq_true_iff.mp e).2) (by rfl) said (by decide +kernel) ⟨rfl,rfl,rfl,rfl,rfl,by decide +kernel⟩ ?hw ?hc
 case hw=>w_witness2
 intro w B0 s₁ mg mb G Y fa o pm cd doc dV kV ho hd hcd hD hmg hg args vals as EY hlay hrd Hx hlo;obtain ⟨K,KX,e,HR⟩:=Y;have c:=xH (g:=⟨PySem.Challenge.rw_uf010006_10.row.prog,w,s₁.heap,mg,mb,fun f=>fnA.getD f 0,fun c=>vA.getD c 0,K,fun c=>fldN.getD c [],s₁.os,prog,newf,fnN,conN⟩) KX e HR rfl rfl rfl rfl rfl rfl rfl G.T.g G.T.b G.T.nolimit G.T.builtins 8;have hm:some (Value.ref fa)=some (Value.ref 377):=hmg.symm.trans (c.1.fns "law" 36 rfl);cases hm
 exact uc (l:=PySem.Challenge.rw_uf010006_10) rfl rfl c.2 rfl rfl rfl hg (f:=36) (by decide) EY Hx (fun scr hs=>Af scr hs)
end Mine.L10
theorem PySem.Challenge.cw_uf010006_10_holds : PySem.Challenge.rw_uf010006_10.Holds :=
 Mine.L10.law10
end

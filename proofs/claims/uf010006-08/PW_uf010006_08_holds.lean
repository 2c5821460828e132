import PyProof.Rows.All
import PySem.SetTable
import PyProof.WalkLemmas
import PyProof.CollectWalk
import PyProof.DictIter
import PyProof.TupleKey
import PyProof.DictRoadsH
import PyProof.Rows.RowHeap
import PyProof.DictWalks
import PyProof.IsRules
import PyProof.EqKinds
import PyProof.P3Eq
import PyProof.ExcAttrAll.ValueError
import PyProof.ListNew
import PyProof.ListMulAny
import PyProof.SetKind
import PyProof.TupleOfSeq
import PyProof.Rows.SortRunsK
import PyProof.SetRoads
import PyProof.SetNew
import PyProof.Rows.SetFrom
import PyProof.Rows.ExtendIn
import OpenK.KDescr
import OpenK.KCls
import Open.Line
import OpenK.KWalk
import OpenK.KMore
import Wide.FinOn
import Wide.All
import Lean
import PySem.Challenge.RW_uf010006_08
set_option Elab.async false
set_option linter.all false
set_option genSizeOf false
set_option tactic.hygienic false
set_option genSizeOfSpec false
set_option genInjectivity false
set_option maxRecDepth 100000
set_option linter.unusedVariables false
set_option maxHeartbeats 4000000
set_option maxHeartbeats 8000000
open PySem.Around (under_plainId)
open Array (all_toList any_toList forIn_toList getElem?_eq_none getElem?_toList length_toList perm_iff_toList_perm size_append size_extract toList_append toList_extract toList_filterMap toList_inj toList_map toList_push toList_reverse)
open Bool (and_eq_true eq_false_iff false_eq_true not_eq_true' or_eq_true)
open Classical (byContradiction)
open PySem.Heap (SameBut get?_push_of_some get?_push_size get?_update_ne get?_update_other get?_update_self lt_size size_push)
open Int (add_nonneg eq_ofNat_of_zero_le le_natAbs le_trans mul_nonneg natAbs_of_nonneg natCast_add natCast_nonneg ofNat ofNat_le ofNat_lt toNat_le toNat_lt toNat_of_nonneg)
open PyProof.Rows.KeyOrd (kle_antisymm kle_of_klt kle_refl kle_trans)
open List (Pairwise Perm all_eq_true any_eq_false any_eq_true append_assoc append_nil drop_drop drop_zero elem_iff extract_eq_take_drop filter filterMap_cons foldl foldl_cons forIn_cons forIn_nil forall_mem_cons forall_mem_singleton getD_eq_getElem?_getD getElem?_append_left getElem?_append_right getElem?_drop getElem?_eq_getElem getElem?_inj getElem?_map getElem?_of_mem getElem?_take_of_lt getElem_mem isEmpty_iff length length_append length_drop length_eq_zero_iff length_flatMap length_map length_nil length_pos_iff length_range length_reverse length_set length_singleton length_take length_take_le lookup lookup_cons mapM_cons map_append map_cons map_const' map_eq_nil_iff map_map mem_append mem_append_left mem_append_right mem_cons mem_cons_self mem_filter mem_filterMap mem_flatMap mem_map mem_of_getElem? mem_of_mem_take mem_range mem_singleton nil_append nodup_append nodup_cons nodup_nil not_mem_nil pairwise_append pairwise_flatMap pairwise_iff_getElem pairwise_map pairwise_singleton perm_ext_iff_of_nodup perm_singleton replicate reverse_append reverse_cons set_set size_toArray sum_cons sum_replicate_nat take_add take_add_one take_append_drop take_length take_nil take_sublist toArray zipIdx_cons zipWith)
open Nat (Coprime add_assoc add_comm add_le_add add_le_add_left add_le_add_right add_lt_add_left add_lt_of_lt_sub' add_mod add_right_comm add_sub_cancel' add_sub_cancel_left add_zero le_add_left le_add_right le_add_right_of_le le_antisymm le_min le_of_add_right_le le_of_lt le_of_lt_succ le_of_not_lt le_of_succ_le le_pred_of_lt le_refl le_sub_of_add_le' le_sub_one_of_lt le_succ le_succ_of_le le_zero lt_asymm lt_irrefl lt_of_le_of_lt lt_of_le_of_ne lt_of_lt_of_le lt_of_mul_lt_mul_right lt_of_not_le lt_of_succ_lt lt_or_ge lt_succ_of_le lt_succ_self lt_trans lt_trichotomy max_eq_right max_le min_eq_left min_le_left min_le_right mod_lt mul_comm mul_le_mul_left mul_two ne_of_gt ne_of_lt not_le not_lt not_lt_zero one_mul pow_succ sub_add_cancel sub_le sub_lt_left_of_lt_add sub_lt_sub_right sub_one_lt_of_lt sub_pos_of_lt sub_self sub_zero succ_add succ_le_succ succ_ne_self succ_ne_zero succ_pos two_mul two_pos zero_add zero_le)
open PySem.Obj (cls_mapSeq data_mapFields data_mapSeq isFreed_of_fields isFreed_of_seq mapFields mapSeq putSet)
open Option (bind_eq_some_iff bind_some getD getD_some isNone_iff_eq_none isSome_iff_exists map_eq_some_iff map_some)
open PySem.PyData (canLayAll0 depthAll eqvAll keyHash strOk)
open PySem.Str (ofString)
noncomputable section
namespace Mine
open PySem
abbrev Q0:=@Nat.lt_of_lt_of_le
abbrev Q1:=@Nat.lt_of_le_of_lt
abbrev Q2:=@Array.getElem?_toList
abbrev Q3:=@Nat.le_add_right
abbrev Q4:=@PySem.Heap.get?_push_of_some
abbrev Q5:=@Nat.add_sub_cancel'
abbrev Q6:=@Nat.add_le_add_left
abbrev Q7:=@PySem.Heap.get?_push_size
abbrev Q8:=@Nat.le_of_lt_succ
abbrev Q9:=@List.getElem?_eq_getElem
abbrev Qa:=@List.all_eq_true
def zA1 {α:Type _} {p:α->Prop} {a:α} {l:List α} (h:p a/\∀ x∈l,p x):∀ x∈a::l,p x:=forall_mem_cons.mpr h
def zA2 {a b:Bool} (h:(a&&b)=true):a=true/\b=true:=(and_eq_true _ _).mp h
def zA3 {a b:Bool} (h:a=true/\b=true):(a&&b)=true:=(and_eq_true _ _).mpr h
def zA4 {α:Type _} {β:Type _} {f:α->β} {l:List α}:(l.map f).length=l.length:=length_map _
def zA5 {α:Type _} {a b:α} {l m:List α} (h:a::l=b::m):a=b/\l=m:=List.cons.inj h
def zA6 {α:Type _} {a b:α} (h:a∈[b]):a=b:=mem_singleton.mp h
def zB1 {n m k:Nat} (a:n<=m) (b:m<=k):n<=k:=Nat.le_trans a b
def zB2 {n m:Nat} (a:n=m):n<=m:=Nat.le_of_eq a
def zB3 {α:Type _} {a:Array α}:a.toList.length=a.size:=length_toList
def zB4 {α:Type _} {a:α} {l:List α}:(a::l).length=l.length+1:=rfl
def zB5 {α:Type _} {l m:List α}:(l++m).length=l.length+m.length:=length_append
def zC1 {α:Type _} {β:Type _} {M:Model} {A:Around} {m:Sem α} {f:α->Sem β} {Q:β->Shared->Prop} {E:Value->Shared->Prop} {s:Shared} (h:wpAny M A m (fun a s'=>wpAny M A (f a) Q E s') E s):wpAny M A (m>>=f) Q E s:=wpAny_bind h
def zC2 {α:Type _} {M:Model} {A:Around} {a:α} {Q:α->Shared->Prop} {E:Value->Shared->Prop} {s:Shared} (h:Q a s):wpAny M A (pure a) Q E s:=wpAny_pure h
def zA7 {α:Type _} {β:Type _} {f:α->β} {b:β} {l:List α} (h:b∈l.map f):∃ a,a∈l/\f a=b:=mem_map.mp h
def nB {C:Prop} (h:false=true):C:=absurd h Bool.false_ne_true
def nM {α:Type} {x:α} {C:Prop} (h:x∈([]:List α)):C:=absurd h not_mem_nil
def nN {α:Type} {x:α} {C:Prop} (h:some x=none):C:=absurd h (Option.some_ne_none x)
def av {G:Prop} (h:∀ P:Prop,(G->P)->P):G:=h G id
def bSt {β:Type} {pos:Pos} {f:Unit->Sem β} {Q:β->Shared->Prop} (h:wpAny M A (f ()) Q E s):wpAny M A (standAt pos >>= f) Q E s:=zC1 (wpAny_standAt h)
def bPu {α β:Type} {a:α} {f:α->Sem β} {Q:β->Shared->Prop} (h:wpAny M A (f a) Q E s):wpAny M A (pure a >>= f) Q E s:=zC1 (wpAny_pure h)
def bRu {β:Type} {f:Unit->Sem β} {Q:β->Shared->Prop} (h:wpAny M A (f ()) Q E s):wpAny M A (rule t >>= f) Q E s:=zC1 (wpAny_rule h)
def bFi {β:Type} {a:Addr} {o:Obj} {vs} {i:Nat} {x:Value} {f:Value->Sem β} {Q:β->Shared->Prop} (ho:s.heap.get? a=some o) (hd:o.data=.fields vs) (hi:vs[i]?=some x) (h:wpAny M A (f x) Q E s):wpAny M A (field (.ref a) i >>= f) Q E s:=zC1 (wpAny_field ho hd hi h)
def bu [Decidable c] (h:¬ c) (x:wpAny M A e Q E s):wpAny M A (if c then t else e) Q E s:=if_neg h▸x
def dO [Decidable c] (h:c) (x:wpAny M A t Q E s):wpAny M A (if c then t else e) Q E s:=if_pos h▸x
noncomputable abbrev V:=PyData
noncomputable abbrev Sc:=Int ⊕ Str
inductive Slot where
 | unset
 | v (x:V)
 | ownL (l:List V)
 | ownD (l:List (V×V))
 | ownI (l:List V)
noncomputable abbrev Gs:=List Slot
set_option genCtorIdx false in
inductive Op where
 | lit (x:V)
 | var (k:Nat)
 | own (k:Nat)
 | bin (o:Operator)
 | cmp (o:CmpOp)
 | chain (lt:Bool)
 | and | or | not | neg | ite
 | tuple | list | sub
 | slice (lo hi:Bool)
 | call (f:Nat)
 | meth (f:Nat)
 | attr (j:Nat)
 | isinst (t:Nat)
 | len | listOf | sorted | sortedSet | lenSet
 | join | count
 | isExc (c:Nat) (tb:List Bool)
 | isCls | tupleOf
 | itemL (k:Nat)
 | lend (k:Nat)
 | comp (k:Nat)
 | compM (ks:List Nat)
 | range | zip
inductive E where
 | nd (o:Op) (es:List E)
set_option genCtorIdx false in
inductive SOp where
 | assign (k:Nat)
 | assignM (ks:List Nat)
 | ownL (k:Nat)
 | ownD (k:Nat)
 | append (k:Nat)
 | extend (k:Nat)
 | setD (k:Nat)
 | setAttr (k j:Nat)
 | setAttrN (k j:Nat)
 | call (f:Nat)
 | ret
 | retC (f:Nat)
 | tryC (f c k:Nat)
 | setL (k:Nat)
 | popC (j k f:Nat)
 | ite
 | forS (k:Nat)
 | forM (ks:List Nat)
 | freeze (k:Nat)
 | freezeD (k:Nat)
 | raise (c:Nat)
inductive S where
 | mk (o:SOp) (es:List E) (a b:List S)
section
variable {α:Type}
noncomputable def am:Nat:=2 ^ 20
noncomputable def dw (l:List α) (z:β):Option β:=if l.length<=am then some z else none
noncomputable def text (l:List Nat):V:=.str ⟨l.toArray⟩
noncomputable def dH (v:V):Bool:=v.canLay0&&decide (v.depth<=64)
noncomputable def cL (x:V) (f:Bool->Option α):Option α:=match x with
 | .bool b=>f b
 | _=>none
noncomputable def lI (x:V) (f:Int->Option α):Option α:=match x with
 | .int i=>f i
 | _=>none
noncomputable def wl (x:V) (f:List Nat->Option α):Option α:=match x with
 | .str s=>f s.cps.toList
 | _=>none
noncomputable def dY (x:V) (f:List V->Option α):Option α:=match x with
 | .list l=>f l
 | _=>none
noncomputable def Di (x:V) (f:List V->Option α):Option α:=match x with
 | .tuple l=>f l
 | _=>none
noncomputable def ph (x y:V) (f:Int->Int->Option α):Option α:=lI x fun a=>lI y (f a)
end
noncomputable def DD (x y:V):Option V:=match x with
 | .int a=>lI y fun b=>some (.int (a+b))
 | .str a=>wl y fun b=>dw (a.cps.toList++b) (text (a.cps.toList++b))
 | .list a=>dY y fun b=>dw (a++b) (.list (a++b))
 | .tuple a=>Di y fun b=>dw (a++b) (.tuple (a++b))
 | _=>none
noncomputable def uC (o:Operator) (x y:V):Option V:=match o with
 | .Add=>DD x y
 | .Sub=>ph x y fun a b=>some (.int (a - b))
 | .Mult=>ph x y fun a b=>if b.natAbs<=1000000\/a.natAbs<=1000000 then some (.int (a * b)) else none
 | .FloorDiv=>ph x y fun a b=>if b=0\/1000000 < b.natAbs then none else some (.int (a.fdiv b))
 | .Mod=>ph x y fun a b=>if b=0 then none else some (.int (a.fmod b))
 | _=>none
noncomputable def eqO (a b:V):Option Bool:=if (dH a&&dH b)=true then some (PyData.eqv a b) else none
noncomputable def isNone:V->Bool
 | .none=>true
 | _=>false
noncomputable def inO (a b:V):Option Bool:=match b with
 | .str t=>wl a fun s=>match s with | [c]=>some (t.cps.toList.elem c) | _=>none
 | .list l=>if (dH a&&dH (.list l))=true then some (l.any fun x=>PyData.eqv x a) else none
 | .tuple l=>if (dH a&&dH (.tuple l))=true then some (l.any fun x=>PyData.eqv x a) else none
 | _=>none
noncomputable def aX (o:CmpOp) (x y:V):Option Bool:=match o with
 | .Eq=>eqO x y
 | .NotEq=>(eqO x y).map (!·)
 | .Lt=>ph x y fun a b=>some (decide (a < b))
 | .LtE=>ph x y fun a b=>some (decide (a<=b))
 | .Gt=>ph x y fun a b=>some (decide (b < a))
 | .GtE=>ph x y fun a b=>some (decide (b<=a))
 | .Is=>if isNone y=true then some (isNone x) else none
 | .IsNot=>if isNone y=true then some (!isNone x) else none
 | .In=>inO x y
 | .NotIn=>(inO x y).map (!·)
noncomputable def bq (s:List Nat):List V:=s.map fun c=>text [c]
noncomputable def a9 (a b:Int):List V:=(List.range (b - a).toNat).map fun (i:Nat)=>.int (a+i)
noncomputable def rOk (i:Int):Bool:=Nat.ble i.natAbs 4611686018427387903
noncomputable def nA (a b:Int):Option V:=if rOk a=true/\rOk b=true then dw (a9 a b) (.list (a9 a b)) else none
noncomputable def aS (x:V):Bool:=match x with
 | .int _=>true
 | .str s=>strOk s
 | _=>false
noncomputable def itV (x:V):Bool:=match x with
 | .none=>true
 | .tuple l=>l.all aS
 | x=>aS x
noncomputable def dJ (x:V):Bool:=match x with
 | .tuple l=>l.all itV
 | _=>false
noncomputable def dkV (Eg:List (V×V)):Bool:=Eg.all fun p=>dJ p.1
noncomputable def qy (Eg:List (V×V)) (y:V):Option V:=(Eg.find? fun p=>PyData.eqv p.1 y).map (·.2)
noncomputable def r9 (Eg:List (V×V)) (y v:V):List (V×V):=if (Eg.any fun p=>PyData.eqv p.1 y)=true then Eg.map fun p=>if PyData.eqv p.1 y=true then (p.1,v) else p else Eg++[(y,v)]
noncomputable def jy (l:List α) (f:α->V) (y:V):Option V:=lI y fun i=>if l.length<=am then (if 0<=i then l[i.toNat]? else if 0<=i+l.length then l[(i+l.length).toNat]? else none).map f else none
noncomputable def um (x y:V):Option V:=match x with
 | .list l=>jy l id y
 | .tuple l=>jy l id y
 | .str s=>jy s.cps.toList (fun c=>text [c]) y
 | .dict Eg=>if (dkV Eg&&dJ y)=true then qy Eg y else none
 | _=>none
noncomputable def pF (d n:Nat) (y:Option V):Option Nat:=match y with
 | none=>some d
 | some x=>lI x fun i=>some (if 0<=i then min i.toNat n else (i+n).toNat)
noncomputable def mT (f:List α->V) (l:List α) (lo hi:Option V):Option V:=
 if l.length<=am then (pF 0 l.length lo).bind fun i=>(pF l.length l.length hi).bind fun j=>if i<=j then some (f ((l.drop i).take (j - i))) else none else none
noncomputable def dP (a:V) (lo hi:Option V):Option V:=match a with
 | .list l=>mT .list l lo hi
 | .tuple l=>mT .tuple l lo hi
 | .str s=>mT text s.cps.toList lo hi
 | _=>none
noncomputable def iT:List String:=["str", "tuple", "list", "int", "bool"]
noncomputable def isT (x:V) (t:Nat):Option Bool:=match x with
 | .none=>some false
 | .bool _=>some (t==4||t==3)
 | .int _=>some (t==3)
 | .str _=>some (t==0)
 | .list _=>some (t==2)
 | .tuple _=>some (t==1)
 | .dict Eg=>if Eg.isEmpty=true then some false else none
noncomputable def xN (x:V):Option (List V):=match x with
 | .list l=>dw l l
 | .tuple l=>dw l l
 | .str s=>dw s.cps.toList (bq s.cps.toList)
 | _=>none
noncomputable def bK (x:V):Option (List V):=match x with
 | .dict Eg=>if dkV Eg=true then dw Eg (Eg.map (·.1)) else none
 | x=>xN x
noncomputable def gb (l:List V):Option (List (List Nat)):=l.mapM fun x=>wl x some
noncomputable def eS (l:List V):Option (List Int):=l.mapM fun x=>lI x some
noncomputable def iq (E8:List Nat):List (List Nat)->List Nat
 | []=>[]
 | [x]=>x
 | x :: r=>x++E8++iq E8 r
def okK {α:Type} (o:Option α) (K:α->Prop):Prop:=match o with
 | some z=>K z
 | none=>False
noncomputable abbrev D:=Gs->(V->Prop)->Prop
noncomputable abbrev B:=Gs->(Option V->Gs->Prop)->Prop
noncomputable abbrev ai:=Nat->List V->(V->Prop)->Prop
noncomputable def getSlot (G:Gs) (k:Nat):Slot:=G.getD k .unset
noncomputable def y1 (G:Gs) (k:Nat):Option V:=match getSlot G k with
 | .v x=>some x
 | _=>none
noncomputable def bz (G:Gs) (k:Nat):Option (List V):=match getSlot G k with
 | .ownL l=>some l
 | _=>none
noncomputable def jg (G:Gs) (k:Nat):Option (List (V×V)):=match getSlot G k with
 | .ownD l=>some l
 | _=>none
noncomputable def dX (G:Gs) (k:Nat):Option (List V):=match getSlot G k with
 | .ownI l=>some l
 | _=>none
def bR (ds:List D) (G:Gs):(List V->Prop)->Prop:=
 List.rec (motive:=fun U=>(List V->Prop)->Prop) (fun f=>f []) (fun d U ih f=>d G fun x=>ih fun xs=>f (x :: xs)) ds
def fz (ds:List D) (G:Gs) (f:V->Prop):Prop:=match ds with
 | [d]=>d G f
 | _=>False
def cw (b:Bool) (ds:List D) (G:Gs):(Bool->Prop)->Prop:=
 List.rec (motive:=fun U=>(Bool->Prop)->Prop) (fun f=>f b) (fun d U ih f=>d G fun x=>okK (cL x some) fun c=>if c=b then ih f else f c) ds
def By (lt:Bool) (ds:List D) (G:Gs) (K:V->Prop):Prop:=match ds with
 | [a,b,c]=>a G fun x=>b G fun y=>okK (aX .LtE x y) fun t=>if t=true then c G fun z=>okK (aX (if lt=true then .Lt else .LtE) y z) fun u=>K (.bool u) else K (.bool false)
 | _=>False
def DT (ds:List D) (G:Gs) (K:V->Prop):Prop:=match ds with
 | [c,a,b]=>c G fun x=>okK (cL x some) fun t=>if t=true then a G K else b G K
 | _=>False
noncomputable def kA (k:Nat) (G:Gs) (x:V):Option Gs:=some (G.set k (.v x))
noncomputable def aO (ks:List Nat) (G:Gs) (x:V):Option Gs:=match x with
 | .tuple xs=>if xs.length=ks.length then some ((ks.zip xs).foldl (fun G p=>G.set p.1 (.v p.2)) G) else none
 | _=>none
def jH (e:D) (ts:List D) (b:Gs->V->Option Gs) (G:Gs) (xs:List V):(List V->Prop)->Prop:=
 List.rec (motive:=fun U=>(List V->Prop)->Prop) (fun f=>f [])
  (fun x U ih f=>okK (b G x) fun G'=>cw true ts G' fun c=>if c=true then e G' fun y=>ih fun ys=>f (y :: ys) else ih f) xs
def uz (b:Gs->V->Option Gs) (ds:List D) (G:Gs) (K:V->Prop):Prop:=match ds with
 | s :: e :: ts=>s G fun x=>okK (bK x) fun xs=>jH e ts b G xs fun ys=>K (.list ys)
 | _=>False
noncomputable def one {α:Type} (xs:List V) (f:V->Option α):Option α:=match xs with
 | [x]=>f x
 | _=>none
noncomputable def two {α:Type} (xs:List V) (f:V->V->Option α):Option α:=match xs with
 | [x,y]=>f x y
 | _=>none
noncomputable def At (lo hi:Bool) (xs:List V):Option V:=match xs,lo,hi with
 | [x],false,false=>dP x none none
 | [x,y],true,false=>dP x (some y) none
 | [x,y],false,true=>dP x none (some y)
 | [x,y,z],true,true=>dP x (some y) (some z)
 | _,_,_=>none
noncomputable def wc (l r:List V):List V:=zipWith (fun a b=>.tuple [a,b]) l r
noncomputable def jf (x:V):Option (List V):=match x with
 | .list l=>dw l l
 | .tuple l=>dw l l
 | _=>none
noncomputable def kOf (x:V):Sc:=match x with
 | .int i=>.inl i
 | .str t=>.inr t
 | _=>.inl 0
noncomputable def fv (x:V):Bool:=match x with
 | .tuple (.str s :: l)=>(aS (.str s)&&l.all aS)
 | _=>false
noncomputable def aU (x:V):List Sc:=match x with
 | .tuple l=>l.map kOf
 | _=>[]
noncomputable def ltK:List Sc->List Sc->Bool
 | k :: ks,m :: ms=>if k=m then ltK ks ms else k.isLeft==m.isLeft
 | _,_=>true
noncomputable def ib:Sc->Sc->Bool
 | .inl a,.inl b=>decide (a < b)
 | .inr x,.inr y=>decide (x.cps.toList < y.cps.toList)
 | .inl _,.inr _=>true
 | .inr _,.inl _=>false
noncomputable def bM:List Sc->List Sc->Bool
 | k :: ks,m :: ms=>if k=m then bM ks ms else ib k m
 | [],_ :: _=>true
 | _,[]=>false
def lex_cc (k m:Sc) (ks ms:List Sc):bM (k :: ks) (m :: ms)=if k=m then bM ks ms else ib k m:=rfl
def AW (k m:Sc) (ks ms:List Sc):ltK (k :: ks) (m :: ms)=if k=m then ltK ks ms else k.isLeft==m.isLeft:=rfl
def gD (r:List V):Prop:=r.Pairwise fun x y=>bM (aU y) (aU x)=false
open Classical in
noncomputable def fQ (x:V):Option Nat:=match x with
 | .str s=>if s.cps.toList.Nodup/\s.cps.size < 4000 then some s.cps.size else none
 | .list l=>if l.all fv=true then (if l.Nodup/\l.length < 4500 then some l.length else none) else (eS l).bind fun is=>if is.Nodup/\is.length < 4000 then some is.length else none
 | _=>none
noncomputable def qG (Eg:List (V×V)):Bool:=match Eg with
 | (.none,_) :: _=>true
 | _=>false
noncomputable def fK (c:Nat):V:=.dict [(.int c,.none)]
noncomputable def mL (x:V):Option Nat:=match x with
 | .dict [(.int c,.none)]=>some c.toNat
 | _=>none
noncomputable def noX (x:V):Bool:=(mL x).isNone
noncomputable def opN (o:Op) (xs:List V):Option V:=match o with
 | .bin o=>two xs (uC o)
 | .neg=>one xs fun x=>lI x fun i=>some (.int (-i))
 | .tuple=>dw xs (.tuple xs)
 | .list=>dw xs (.list xs)
 | .sub=>two xs um
 | .slice lo hi=>At lo hi xs
 | .attr j=>one xs fun x=>match x with | .dict Eg=>if qG Eg=true then (Eg[j]?).map (·.2) else none | _=>none
 | .isinst t=>one xs fun x=>(isT x t).map .bool
 | .len=>one xs fun x=>(xN x).map fun l=>.int l.length
 | .listOf=>one xs fun x=>(jf x).map .list
 | .isExc _ tb=>one xs fun x=>((mL x).bind fun e=>tb[e]?).map .bool
 | .tupleOf=>one xs fun x=>dY x fun l=>dw l (.tuple l)
 | .lenSet=>one xs fun x=>(fQ x).map fun (n:Nat)=>PyData.int n
 | .join=>two xs fun x y=>wl x fun E8=>dY y fun l=>(gb l).bind fun ss=>if (ss.map length).sum+ss.length * E8.length<=am then some (text (iq E8 ss)) else none
 | .count=>two xs fun x y=>dY x fun l=>if (dH y&&dH (.list l))=true then some (.int (l.countP fun z=>PyData.eqv z y)) else none
 | .range=>match xs with
  | [x]=>lI x fun b=>nA 0 b
  | [x,y]=>ph x y nA
  | _=>none
 | .zip=>two xs fun x y=>(jf x).bind fun l=>(jf y).map fun r=>.list (wc l r)
 | _=>none
noncomputable def isStr (x:V):Bool:=match x with
 | .str _=>true
 | _=>false
noncomputable def kK (x:V):Bool:=match x with
 | .list _=>true
 | _=>false
def Dp (ok:V->Bool) (ds:List D) (G:Gs) (f:V->V->Prop):Prop:=match ds with
 | [a,b]=>a G fun x=>ok x=true/\b G fun y=>f x y
 | _=>False
noncomputable def qI (l:List V):V:=.dict (l.map fun x=>(.none,x))
noncomputable def iG (x:V):Bool:=match x with
 | .dict Eg=>qG Eg
 | _=>false
def bC (cf:ai) (o:Op) (ds:List D) (G:Gs) (K:V->Prop):Prop:=match o with
 | .lit x=>K x
 | .var k=>okK (y1 G k) K
 | .own k=>okK (bz G k) fun l=>K (.list l)
 | .cmp o=>bR ds G fun xs=>okK (two xs (aX o)) fun b=>K (.bool b)
 | .not=>fz ds G fun x=>okK (cL x some) fun b=>K (.bool (!b))
 | .chain lt=>By lt ds G K
 | .and=>cw true ds G fun b=>K (.bool b)
 | .or=>cw false ds G fun b=>K (.bool b)
 | .call f=>bR ds G fun xs=>cf f xs fun y=>noX y=true/\K y
 | .meth f=>fz ds G fun x=>iG x=true/\cf f [x] fun y=>noX y=true/\K y
 | .sorted=>fz ds G fun x=>okK (dY x eS) fun is=>is.length < 64/\∀ r:List Int,r.Perm is->r.Pairwise (·<=·)->K (.list (r.map .int))
 | .sortedSet=>fz ds G fun x=>okK (dY x some) fun l=>(l.all fv&&decide (l.length<=am))=true/\(∀ x∈l,∀ y∈l,ltK (aU x) (aU y)=true)/\(∃ m:List V,m.length < 4500/\∀ x∈l,x∈m)/\∀ r:List V,r.Nodup->(∀ y,y∈r ↔ y∈l)->gD r->K (.list r)
 | .ite=>DT ds G K
 | .isCls=>fz ds G fun x=>iG x=true/\K (.bool true)
 | .itemL k=>okK (bz G k) fun l=>fz ds G fun y=>okK (jy l id y) K
 | .lend k=>okK (bz G k) fun l=>fz ds (G.set k (.v (.list l))) fun x=>okK (cL x some) fun b=>K (.bool b)
 | .comp k=>uz (kA k) ds G K
 | .compM ks=>uz (aO ks) ds G K
 | .join=>Dp isStr ds G fun x y=>okK (opN .join [x,y]) K
 | .count=>Dp kK ds G fun x y=>okK (opN .count [x,y]) K
 | o=>bR ds G fun xs=>okK (opN o xs) K
noncomputable def ev (cf:ai) (e:E):D:=
 E.rec (motive_1:=fun U=>D) (motive_2:=fun U=>List D) (fun o U ih=>bC cf o ih) [] (fun U U i is=>i :: is) e
noncomputable def eF (b:Gs->V->Option Gs) (A:B) (xs:List V):B:=
 List.rec (motive:=fun U=>B) (fun G K=>K none G)
  (fun x U ih G K=>okK (b G x) fun G'=>A G' fun fl HK=>match fl with | none=>ih HK K | some y=>noX y=true/\K (some y) HK) xs
def Ce (cf:ai) (j k f:Nat) (ds:List D) (G:Gs) (K:Option V->Gs->Prop):Prop:=match ds with
 | [a,b,c]=>a G fun x=>okK (bz G k) fun l=>l.length<=am/\okK l.getLast? fun y=>b (G.set k (.ownL l.dropLast)) fun u=>c (G.set k (.ownL l.dropLast)) fun w=>cf f [x,y,u,w] fun z=>noX z=true/\K none ((G.set k (.ownL l.dropLast)).set j (.v z))
 | _=>False
def d7 (sup:Nat->Nat->Bool) (cf:ai) (o:SOp) (ds:List D) (X Y:B) (G:Gs) (K:Option V->Gs->Prop):Prop:=match o with
 | .assign k=>fz ds G fun x=>K none (G.set k (.v x))
 | .assignM ks=>fz ds G fun x=>okK (aO ks G x) (K none)
 | .ownL k=>bR ds G fun xs=>xs.length<=am/\K none (G.set k (.ownL xs))
 | .ownD k=>K none (G.set k (.ownD []))
 | .append k=>okK (bz G k) fun l=>fz ds G fun x=>l.length < am/\K none (G.set k (.ownL (l++[x])))
 | .extend k=>okK (bz G k) fun l=>fz ds G fun x=>okK (dY x some) fun m=>l.length+m.length<=am/\K none (G.set k (.ownL (l++m)))
 | .setD k=>okK (jg G k) fun l=>bR ds G fun xs=>okK (two xs fun v x=>if (dJ x&&decide (l.length < am))=true then some (r9 l x v) else none) fun l'=>K none (G.set k (.ownD l'))
 | .setAttr k j=>fz ds G fun x=>kK x=false/\okK (dX G k) fun l=>l.length=j/\K none (G.set k (.ownI (l++[x])))
 | .setAttrN k j=>fz ds G fun x=>okK (dX G k) fun l=>l.length=j/\K none (G.set k (.ownI (l++[x])))
 | .call f=>bR ds G fun xs=>cf f xs fun y=>if noX y=true then isNone y=true/\K none G else K (some y) G
 | .ret=>fz ds G fun x=>noX x=true/\K (some x) G
 | .retC f=>bR ds G fun xs=>cf f xs fun y=>K (some y) G
 | .tryC f c k=>bR ds G fun xs=>cf f xs fun y=>match mL y with
  | none=>K (some y) G
  | some d=>sup d c=true/\X (G.set k (.v y)) fun fl G'=>(match fl with | some x=>noX x=true | none=>False)/\K fl (G'.set k .unset)
 | .popC j k f=>Ce cf j k f ds G K
 | .setL k=>okK (bz G k) fun l=>bR ds G fun xs=>okK (two xs fun v y=>lI y fun i=>if 0<=i/\i < l.length/\l.length<=am then some (l.set i.toNat v) else none) fun l'=>K none (G.set k (.ownL l'))
 | .ite=>fz ds G fun x=>okK (cL x some) fun t=>if t=true then X G K else Y G K
 | .forS k=>fz ds G fun x=>okK (bK x) fun xs=>eF (kA k) X xs G K
 | .forM ks=>fz ds G fun x=>okK (bK x) fun xs=>eF (aO ks) X xs G K
 | .freeze k=>okK (bz G k) fun l=>K none (G.set k (.v (.list l)))
 | .freezeD k=>okK (jg G k) fun l=>K none (G.set k (.v (.dict l)))
 | .raise c=>K (some (fK c)) G
noncomputable def ex (sup:Nat->Nat->Bool) (cf:ai) (s:S):B:=
 S.rec (motive_1:=fun U=>B) (motive_2:=fun U=>B) (fun o es U U x y=>d7 sup cf o (es.map (ev cf)) x y) (fun G K=>K none G)
  (fun U U i is G K=>i G fun fl G'=>match fl with | none=>is G' K | some x=>K (some x) G') s
noncomputable def exs (sup:Nat->Nat->Bool) (cf:ai) (l:List S):B:=
 List.rec (motive:=fun U=>B) (fun G K=>K none G) (fun s U is G K=>ex sup cf s G fun fl G'=>match fl with | none=>is G' K | some x=>K (some x) G') l
structure Fn where
 npar:Nat
 nslots:Nat
 init:Bool
 body:List S
structure Prog where
 fns:List Fn
 sup:Nat->Nat->Bool
noncomputable def c6 (fn:Fn) (args:List V):Gs:=(if fn.init=true then [.ownI []] else [])++args.map .v++replicate (fn.nslots - fn.npar) .unset
noncomputable def ao (P:Prog) (d:Nat):ai:=
 Nat.rec (motive:=fun U=>ai) (fun U U U=>False)
  (fun U cf f args K=>okK (P.fns[f]?) fun fn=>args.length+(if fn.init=true then 1 else 0)=fn.npar/\exs P.sup cf fn.body (c6 fn args) fun fl G=>
   if fn.init=true then (match fl with | none=>okK (dX G 0) fun l=>l.length=5/\K (qI l) | some y=>noX y=false/\K y) else K (fl.getD .none)) d
end Mine
end
noncomputable section
namespace Mine
open PySem PySem.Calls PyProof.Rows PySem.W
noncomputable def re (a:List Nat):List Nat->Bool:=List.rec (motive:=fun U=>List Nat->Bool) (fun b=>match b with | []=>true | _=>false) (fun x U ih b=>match b with | []=>false | y :: r=>Nat.beq x y&&ih r) a
theorem listEq_iff:∀ a b:List Nat,re a b=true ↔ a=b
 | [],[]=>⟨fun U=>rfl,fun U=>rfl⟩
 | [],_ :: _=>⟨fun h=>(nomatch h),fun h=>(nomatch h)⟩
 | _ :: _,[]=>⟨fun h=>(nomatch h),fun h=>(nomatch h)⟩
 | x :: a,y :: b=>by
  refine (?_:(Nat.beq x y&&re a b)=true ↔ _);rw [and_eq_true,listEq_iff a b,Nat.beq_eq,List.cons.injEq]
set_option warn.classDefReducibility false in
noncomputable def mJ:BEq Str:=⟨fun a b=>re a.cps.toList b.cps.toList⟩
def sR:mJ=instBEqOfDecidableEq:=congrArg BEq.mk (funext fun a=>funext fun b=>by
 rw [Bool.eq_iff_iff,listEq_iff,decide_eq_true_iff];exact ⟨fun h=>by cases a; cases b; exact congrArg Str.mk (toList_inj.mp h),fun h=>by rw [h]⟩)
noncomputable def q8 [BEq Str]:List Str->Bool
 | []=>true
 | x :: r=>!r.elem x&&q8 r
theorem oZ:∀ {l:List Str},q8 l=true->l.Nodup
 | [],_=>nodup_nil
 | x :: r,h=>by
  have h:=zA2 h;exact nodup_cons.mpr ⟨fun m=>by rw [elem_iff.mpr m] at h; exact (nB h.1),oZ h.2⟩
noncomputable def aV [BEq Str] (x:Str):Bool:=!(x==("__debug__" : Str))&&!(x==("__classdict__" : Str))
noncomputable def bI:List (Str×Value):=[("len",.builtin "len"),("isinstance",.builtin "isinstance"),("str",.type "str"),("int",.type "int"),("bool",.type "bool"),("list",.type "list"),("tuple",.type "tuple"),
 ("set",.type "set"),("range",.type "range"),("zip",.type "zip"),("sorted",.builtin "sorted"),("ValueError",.type "ValueError")]
noncomputable def bE (e:Expr):Bool:=e.ctorIdx != 7
noncomputable def aq (e:Expr):Bool:=e.ctorIdx != 22
noncomputable def br [BEq Str] (sc:List (Str×NameKind)) (x:Str):Bool:=(sc.lookup x==some .globalImplicit)&&aV x
noncomputable def ta (c:Const) (x:V):Bool:=match x with
 | .none=>c==.none
 | .bool b=>c==.bool b
 | .int i=>c==.int i
 | .str t=>c==.str t
 | _=>false
noncomputable def b0 (e:Expr):Bool:=!(Nat.ble 8 e.ctorIdx&&Nat.ble e.ctorIdx 10)
noncomputable def nF (e:Expr):Bool:=b0 e&&e.ctorIdx != 25
noncomputable def ip [BEq Str] (sc names:List (Str×NameKind)):List (Str×NameKind):=names.map fun (n,k)=>if k==.free&&sc.lookup n==some .cell then (n,.cell) else (n,k)
structure Sx where
 sc:List (Str×NameKind)
 ρ:List (Str×Nat)
 nf:Nat
 ns:Nat
 hm:Bool
 nw:Bool
set_option genCtorIdx false in
inductive Pz where
 | val
 | test
 | new
 | src (st:Bool) (T:Expr)
 | asg (y:Str) (py sp:Pos)
noncomputable abbrev Kid:=Sx×Pz×Expr
structure Zx where
 fns:List (Str×Nat)
 cons:List (Str×V)
 flds:List Str
 meths:List (Str×Nat)
 clss:List (Str×Nat)
 nc:Nat
 sup:Nat->Nat->Bool
 safe:Nat->Bool
 newf:Nat->Bool
 cf:Nat
noncomputable def cu (xs:List Expr):Bool:=xs.all aq
noncomputable def bg (x:Expr):Option (Str×Pos):=if h:x.ctorIdx=23 then some (Expr.Name.elim (motive_1:=fun U=>Str×Pos) x h fun n p=>(n,p)) else none
noncomputable def rP (x:Expr):Option (List Expr×Nat×Pos):=if h:x.ctorIdx=25 then some (Expr.Tuple.elim (motive_1:=fun U=>List Expr×Nat×Pos) x h fun xs k p=>(xs,k,p)) else none
noncomputable def xB (x:Expr):Option (List Expr×Pos):=if h:x.ctorIdx=24 then some (Expr.List.elim (motive_1:=fun U=>List Expr×Pos) x h fun xs p=>(xs,p)) else none
noncomputable def rQ (x:Expr):Option (Expr×Expr×Pos):=if h:x.ctorIdx=21 then some (Expr.Subscript.elim (motive_1:=fun U=>Expr×Expr×Pos) x h fun v s p=>(v,s,p)) else none
noncomputable def y5 (x:Expr):Option (Option Expr×Option Expr×Option Expr×Pos):=if h:x.ctorIdx=26 then some (Expr.Slice.elim (motive_1:=fun U=>Option Expr×Option Expr×Option Expr×Pos) x h fun l u st p=>(l,u,st,p)) else none
noncomputable def iS (x:Expr):Option (Expr×List Expr×List Keyword×Pos):=if h:x.ctorIdx=16 then some (Expr.Call.elim (motive_1:=fun U=>Expr×List Expr×List Keyword×Pos) x h fun u xs ks p=>(u,xs,ks,p)) else none
noncomputable def vIf (x:Expr):Option (Expr×Expr×Expr×Pos):=if h:x.ctorIdx=5 then some (Expr.IfExp.elim (motive_1:=fun U=>Expr×Expr×Expr×Pos) x h fun t y z p=>(t,y,z,p)) else none
noncomputable def ci (e:Expr):Bool:=e.ctorIdx==19||e.ctorIdx==23||(iS e).any fun c=>!c.2.1.isEmpty
noncomputable def kP (x:Expr):Option (Expr×Str×Pos):=if h:x.ctorIdx=20 then some (Expr.Attribute.elim (motive_1:=fun U=>Expr×Str×Pos) x h fun o n q=>(o,n,q)) else none
noncomputable def ul (x:Expr):Option (List (Option Expr)×List Expr×Pos):=if h:x.ctorIdx=6 then some (Expr.Dict.elim (motive_1:=fun U=>List (Option Expr)×List Expr×Pos) x h fun ks vs p=>(ks,vs,p)) else none
noncomputable def kr {α:Type}:List α->Option α
 | [y]=>some y
 | _=>none
noncomputable def two? {α:Type}:List α->Option (α×α)
 | [y,z]=>some (y,z)
 | _=>none
noncomputable def zx (x y:V):Bool:=match x with
 | .int i=>(match y with | .int j=>i==j | _=>false)
 | .str s=>(match y with | .str t=>s==t | _=>false)
 | _=>false
noncomputable def kq (x:Expr):Option (Const×Nat×Pos):=if h:x.ctorIdx=19 then some (Expr.Constant.elim (motive_1:=fun U=>Const×Nat×Pos) x h fun c k p=>(c,k,p)) else none
noncomputable def y8 (x:Expr):Option (Expr×Operator×Expr×Pos):=if h:x.ctorIdx=2 then some (Expr.BinOp.elim (motive_1:=fun U=>Expr×Operator×Expr×Pos) x h fun l o r p=>(l,o,r,p)) else none
noncomputable def xD (x:Expr):Option (Expr×List CmpOp×List Expr×Pos):=if h:x.ctorIdx=15 then some (Expr.Compare.elim (motive_1:=fun U=>Expr×List CmpOp×List Expr×Pos) x h fun l o r p=>(l,o,r,p)) else none
noncomputable def qd (x:Expr):Option (BoolOp×List Expr×Pos):=if h:x.ctorIdx=0 then some (Expr.BoolOp.elim (motive_1:=fun U=>BoolOp×List Expr×Pos) x h fun o xs p=>(o,xs,p)) else none
noncomputable def vUn (x:Expr):Option (UnaryOp×Expr×Pos):=if h:x.ctorIdx=3 then some (Expr.UnaryOp.elim (motive_1:=fun U=>UnaryOp×Expr×Pos) x h fun o y p=>(o,y,p)) else none
noncomputable def pZ (x:Expr):Option (Expr×List Comprehension×Scope×Pos):=if h:x.ctorIdx=8 then some (Expr.ListComp.elim (motive_1:=fun U=>Expr×List Comprehension×Scope×Pos) x h fun y gs sc p=>(y,gs,sc,p)) else none
@[irreducible] def nCall [BEq Str] (X:Sx) (nm:Str) (x:Expr) (f:List Expr->Bool):Bool:=(iS x).any fun c=>(bg c.1).any fun n=>n.1==nm&&(br X.sc nm&&(c.2.2.1.isEmpty&&f c.2.1))
noncomputable def fc [BEq Str] (X:Sx) (nm:Str) (x:Expr) (f:Expr->Bool):Bool:=nCall X nm x fun xs=>(kr xs).any f
@[irreducible] def mCall (x:Expr) (f:Expr->Str->List Expr->Bool):Bool:=(iS x).any fun c=>(kP c.1).any fun a=>c.2.2.1.isEmpty&&(a.2.2.endLine==c.2.2.2.line&&f a.1 a.2.1 c.2.1)
noncomputable def rd [BEq Str] (X:Sx) (k:List Kid->Bool) (nm:Str) (x:Expr):Bool:=mCall x fun y n xs=>n==nm&&(ci y&&(kr xs).any fun e=>aq e&&k [(X,.val,y),(X,.val,e)])
noncomputable def jI [BEq Str] (X:Sx) (scope:Scope) (x x':Str):Bool:=scope.kind==.function&&(scope.names.lookup x==some .local&&(scope.names.lookup x'==some .local&&(scope.names.all (fun p=>p.2 != .cell)&&(scope.names.all (fun p=>p.2 != .local||scope.names.lookup p.1==some .local)&&(scope.names.all (fun p=>p.2 != .free||((X.sc.lookup p.1==some .cell||X.sc.lookup p.1==some .free)&&(X.ρ.lookup p.1).isSome))&&decide (X.nf+2<=X.ns))))))
noncomputable def Sx.comp [BEq Str] (X:Sx) (scope:Scope) (x x':Str):Sx:=⟨ip X.sc scope.names,(x,X.nf) :: (x',X.nf+1) :: X.ρ.filter (fun p=>scope.names.lookup p.1==some .free),X.nf+2,X.ns,X.hm,X.nw⟩
@[irreducible] def cCall [BEq Str] (Z:Zx) (X:Sx) (f:Nat) (x:Expr) (k:List Expr->Bool):Bool:=(iS x).any fun c=>(bg c.1).any fun n=>Z.fns.lookup n.1==some f&&(br X.sc n.1&&((!X.hm||Z.safe f)&&(c.2.2.1.isEmpty&&k c.2.1)))
noncomputable def zI:Pz->Bool
 | .val=>true
 | _=>false
noncomputable def isComp (o:Op):Bool:=match o with
 | .comp _=>true
 | .compM _=>true
 | _=>false
def oy {C:Op->Prop} (h:isComp o=true) (a:∀ j,C (.comp j)) (b:∀ j,C (.compM j)):C o:=by
 cases o <;> first | exact nB h | exact a _ | exact b _
section
variable [BEq Str] (Z:Zx) (o:Op) (k:List Kid->Bool) (X:Sx)
noncomputable def lM (p:Pz) (x:Expr):Bool:=match o with
 | .lit v=>(kq x).any (fun q=>ta q.1 v&&k [])||(bg x).any fun m=>br X.sc m.1&&((Z.cons.lookup m.1).any (zx v)&&k [])
 | .var j=>(bg x).any fun m=>X.ρ.lookup m.1==some j&&(aV m.1&&k [])
 | .bin op=>(y8 x).any fun q=>decide (op=q.2.1)&&k [(X,.val,q.1),(X,.val,q.2.2.1)]
 | .cmp c=>(xD x).any fun q=>(kr q.2.1).any fun c'=>decide (c=c')&&(kr q.2.2.1).any fun r=>bE r&&k [(X,.val,q.1),(X,.val,r)]
 | .chain lt=>(xD x).any fun q=>(two? q.2.1).any fun c=>decide (.LtE=c.1)&&(decide ((if lt=true then CmpOp.Lt else .LtE)=c.2)&&(two? q.2.2.1).any fun r=>bE r.2&&k [(X,.val,q.1),(X,.val,r.1),(X,.val,r.2)])
 | .and=>(qd x).any fun q=>decide (.And=q.1)&&(!q.2.1.isEmpty&&k (q.2.1.map fun x=>(X,p,x)))
 | .or=>(qd x).any fun q=>decide (.Or=q.1)&&(!q.2.1.isEmpty&&k (q.2.1.map fun x=>(X,p,x)))
 | .not=>(vUn x).any fun q=>decide (.Not=q.1)&&k [(X,p,q.2.1)]
 | .neg=>(vUn x).any fun q=>decide (.USub=q.1)&&(zI p&&k [(X,.val,q.2.1)])
 | .tuple=>(rP x).any fun q=>cu q.1&&k (q.1.map fun x=>(X,.val,x))
 | .list=>(xB x).any fun q=>cu q.1&&k (q.1.map fun x=>(X,.val,x))
 | .sub=>(rQ x).any fun q=>k [(X,.val,q.1),(X,.val,q.2.1)]
 | .slice bl bh=>(rQ x).any fun v=>(y5 v.2.1).any fun q=>q.2.2.1.isNone&&(q.1.isSome==bl&&(q.2.1.isSome==bh&&k ((X,.val,v.1) :: (q.1.toList++q.2.1.toList).map fun x=>(X,.val,x))))
 | .attr j=>(kP x).any fun q=>ci q.1&&(Z.flds[j]?==some q.2.1&&k [(X,.val,q.1)])
 | .comp j=>!X.hm&&(pZ x).any fun q=>(kr q.2.1).any fun c=>c.is_async==0&&(bg c.target).any fun n=>jI X q.2.2.1 n.1 n.1&&(j==X.nf&&(bE c.iter&&k ((X,.src false (.Name n.1 n.2),c.iter) :: (X.comp q.2.2.1 n.1 n.1,.val,q.1) :: c.ifs.map fun x=>(X.comp q.2.2.1 n.1 n.1,.test,x))))
 | .compM js=>!X.hm&&(pZ x).any fun q=>(kr q.2.1).any fun c=>c.is_async==0&&(rP c.target).any fun T=>(two? T.1).any fun y=>(bg y.1).any fun n=>(bg y.2).any fun n'=>jI X q.2.2.1 n.1 n'.1&&(!(n'.1==n.1)&&(js==[X.nf,X.nf+1]&&(bE c.iter&&k ((X,.src false (.Tuple [.Name n.1 n.2,.Name n'.1 n'.2] T.2.1 T.2.2),c.iter) :: (X.comp q.2.2.1 n.1 n'.1,.val,q.1) :: c.ifs.map fun x=>(X.comp q.2.2.1 n.1 n'.1,.test,x)))))
 | .ite=>(vIf x).any fun q=>zI p&&k [(X,.test,q.1),(X,.val,q.2.1),(X,.val,q.2.2.1)]
 | .isCls=>nCall X "isinstance" x fun xs=>(two? xs).any fun y=>aq y.1&&(bg y.2).any fun T=>br X.sc T.1&&(Z.fns.lookup T.1==some Z.cf&&k [(X,.val,y.1)])
 | .itemL j=>(rQ x).any fun q=>(bg q.1).any fun m=>X.ρ.lookup m.1==some j&&(aV m.1&&k [(X,.val,q.2.1)])
 | .tupleOf=>nCall X "tuple" x fun xs=>cu xs&&k (xs.map fun x=>(X,.val,x))
 | .lend _=>k [(X,p,x)]
 | .isinst t=>nCall X "isinstance" x fun xs=>(two? xs).any fun y=>aq y.1&&(bg y.2).any fun T=>br X.sc T.1&&((iT[t]?).any (fun T'=>T.1==ofString T')&&k [(X,.val,y.1)])
 | .len=>fc X "len" x fun y=>aq y&&k [(X,.val,y)]
 | .lenSet=>!X.hm&&fc X "len" x fun y=>fc X "set" y fun z=>aq z&&k [(X,.val,z)]
 | .listOf=>fc X "list" x fun y=>aq y&&k [(X,.val,y)]
 | .sorted=>fc X "sorted" x fun y=>aq y&&k [(X,.val,y)]
 | .sortedSet=>!X.hm&&fc X "sorted" x fun y=>fc X "set" y fun z=>aq z&&k [(X,.val,z)]
 | .call f=>cCall Z X f x fun xs=>cu xs&&k (xs.map fun x=>(X,.val,x))
 | .join=>rd X k "join" x
 | .count=>rd X k "count" x
 | .meth f=>mCall x fun y nm xs=>ci y&&(xs.isEmpty&&((!X.hm||Z.safe f)&&(Z.meths.lookup nm==some f&&k [(X,.val,y)])))
 | .isExc c tb=>nCall X "isinstance" x fun xs=>(two? xs).any fun y=>aq y.1&&(bg y.2).any fun T=>br X.sc T.1&&((Z.clss.lookup T.1==some c||(T.1==("ValueError" : Str)&&c==Z.nc))&&((List.range Z.nc).all (fun e=>tb[e]?==some (Z.sup e c))&&k [(X,.val,y.1)]))
 | _=>false
noncomputable def BZ (f:Str) (x:Expr):Bool:=nCall X f x fun xs=>cu xs&&k (xs.map fun x=>(X,.val,x))
noncomputable def zY (x:Expr):Bool:=b0 x&&lM Z o k X .val x||isComp o&&lM Z o k X .val x
noncomputable def Dm:Bool:=match o with
 | .tuple=>true
 | .listOf=>true
 | .sorted=>true
 | .sortedSet=>true
 | .call f=>Z.newf f
 | .meth f=>Z.newf f
 | _=>false
noncomputable def zX (p:Pz) (x:Expr):Bool:=match p with
 | .val=>lM Z o k X .val x
 | .test=>lM Z o k X .test x
 | .new=>Dm Z o&&lM Z o k X .val x
 | .src st T=>!X.hm&&(match o with
  | .own j=>!st&&(bg x).any fun m=>X.ρ.lookup m.1==some j&&(aV m.1&&k [])
  | .range=>BZ k X "range" x
  | .zip=>(rP T).any fun U=>BZ k X "zip" x
  | _=>lM Z o k X .val x)
 | .asg _ _ _=>zY Z o k X x
end
noncomputable abbrev Ck:=Kid->Bool
noncomputable def qE (cs:List Ck):List Kid->Bool:=
 List.rec (motive:=fun U=>List Kid->Bool) (fun ts=>ts.isEmpty) (fun c U ih ts=>match ts with | []=>false | t :: r=>c t&&ih r) cs
noncomputable def yU [BEq Str] (Z:Zx) (e:E):Ck:=
 E.rec (motive_1:=fun U=>Ck) (motive_2:=fun U=>List Ck) (fun o U ih t=>zX Z o (qE ih) t.1 t.2.1 t.2.2) [] (fun U U i is=>i :: is) e
noncomputable def kQ [BEq Str] (X:Sx) (m:Str) (j:Nat):Bool:=X.ρ.lookup m==some j&&!(X.sc.lookup m==some .free)
noncomputable def ny [BEq Str] (X:Sx):List Expr->List Nat->Bool
 | [],js=>js.isEmpty
 | t :: r,js=>(bg t).any fun m=>match js with | []=>false | j :: q=>kQ X m.1 j&&ny X r q
noncomputable def kY (x:Stmt) (f:Expr->Expr->Pos->Bool):Bool:=if h:x.ctorIdx=5 then Stmt.Assign.elim (motive_2:=fun U=>Bool) x h fun ts v p=>(kr ts).any fun t=>f t v p else false
noncomputable def wk (x:Stmt) (f:Expr->Bool):Bool:=if h:x.ctorIdx=24 then Stmt.Expr.elim (motive_2:=fun U=>Bool) x h fun e U=>f e else false
noncomputable def wj (x:Stmt) (f:Expr->Bool):Bool:=if h:x.ctorIdx=3 then Stmt.Return.elim (motive_2:=fun U=>Bool) x h fun e U=>e.any f else false
noncomputable def y6 (x:Stmt) (f:Expr->List Stmt->List Stmt->Bool):Bool:=if h:x.ctorIdx=12 then Stmt.If.elim (motive_2:=fun U=>Bool) x h fun c a b U=>f c a b else false
noncomputable def xC (x:Stmt) (f:Expr->Expr->List Stmt->Bool):Bool:=if h:x.ctorIdx=9 then Stmt.For.elim (motive_2:=fun U=>Bool) x h fun T it body el U=>el.isEmpty&&f T it body else false
noncomputable def vRs (x:Stmt) (f:Expr->Bool):Bool:=if h:x.ctorIdx=16 then Stmt.Raise.elim (motive_2:=fun U=>Bool) x h fun e c U=>c.isNone&&e.any f else false
noncomputable def y4 (x:Stmt) (f:Stmt->Option Expr->Option Str->List Stmt->Bool):Bool:=if h:x.ctorIdx=17 then Stmt.Try.elim (motive_2:=fun U=>Bool) x h fun bd hs el fi U=>el.isEmpty&&(fi.isEmpty&&(kr bd).any fun b=>(kr hs).any fun hd=>match hd with | .ExceptHandler t n hb _=>f b t n hb) else false
noncomputable def y7 {α:Type}:List α->Option (α×α×α×α)
 | [a,b,c,d]=>some (a,b,c,d)
 | _=>none
noncomputable def Dh [BEq Str] (X:Sx) (i:Nat) (x:Expr):Bool:=mCall x fun y nm xs=>nm==("pop" : Str)&&(xs.isEmpty&&(bg y).any fun m=>X.ρ.lookup m.1==some i&&aV m.1)
noncomputable abbrev CkS:=Sx->List Stmt->Bool
noncomputable abbrev CkM:=Sx->List Stmt->(List Stmt->Bool)->Bool
noncomputable def Dk (c:Stmt->Bool) (rest:List Stmt->Bool):List Stmt->Bool
 | []=>false
 | x :: r=>c x&&rest r
section
variable [BEq Str] (Z:Zx) (o:SOp) (k:List Kid->Bool) (ca cb:CkS) (X:Sx)
noncomputable def xm (x:Stmt):Bool:=match o with
 | .assign j=>kY x fun t v p=>(bg t).any fun m=>kQ X m.1 j&&k [(X,.asg m.1 m.2 p,v)]
 | .assignM js=>!X.hm&&kY x fun t v p=>(rP t).any fun q=>ny X q.1 js&&(nF v&&k [(X,.val,v)])
 | .ownL j=>kY x fun t v p=>(bg t).any fun m=>kQ X m.1 j&&(xB v).any fun q=>cu q.1&&k (q.1.map fun x=>(X,.val,x))
 | .ownD j=>kY x fun t v p=>(bg t).any fun m=>kQ X m.1 j&&(ul v).any fun q=>q.1.isEmpty&&(q.2.1.isEmpty&&k [])
 | .setD j=>kY x fun t v p=>(rQ t).any fun q=>(bg q.1).any fun m=>X.ρ.lookup m.1==some j&&(aV m.1&&(nF v&&k [(X,.val,v),(X,.val,q.2.1)]))
 | .setAttr i j=>kY x fun t v p=>(kP t).any fun u=>(bg u.1).any fun m=>X.ρ.lookup m.1==some i&&(aV m.1&&(Z.flds[j]?==some u.2.1&&(b0 v&&k [(X,.val,v)])))
 | .setAttrN i j=>kY x fun t v p=>(kP t).any fun u=>(bg u.1).any fun m=>X.ρ.lookup m.1==some i&&(aV m.1&&(Z.flds[j]?==some u.2.1&&(b0 v&&k [(X,.new,v)])))
 | .call f=>wk x fun e=>cCall Z X f e fun xs=>cu xs&&k (xs.map fun x=>(X,.val,x))
 | .append j=>wk x fun e=>mCall e fun y nm xs=>nm==("append" : Str)&&((kr xs).any (fun e=>aq e&&k [(X,.val,e)])&&(bg y).any fun m=>X.ρ.lookup m.1==some j&&aV m.1)
 | .extend j=>wk x fun e=>mCall e fun y nm xs=>nm==("extend" : Str)&&((kr xs).any (fun e=>aq e&&k [(X,.val,e)])&&(bg y).any fun m=>X.ρ.lookup m.1==some j&&aV m.1)
 | .ret=>wj x fun e=>if X.nw then k [(X,.new,e)] else k [(X,.val,e)]
 | .retC f=>wj x fun e=>!X.nw&&cCall Z X f e fun xs=>cu xs&&k (xs.map fun x=>(X,.val,x))
 | .setL j=>kY x fun t v p=>(rQ t).any fun q=>(bg q.1).any fun m=>X.ρ.lookup m.1==some j&&(aV m.1&&(b0 v&&k [(X,.val,v),(X,.val,q.2.1)]))
 | .tryC f c j=>y4 x fun b t n hb=>!X.hm&&(t.any fun t=>(bg t).any fun C=>br X.sc C.1&&(Z.clss.lookup C.1==some c&&n.any fun n=>X.ρ.lookup n==some j&&(X.sc.lookup n==some .local&&(!hb.isEmpty&&(ca { X with hm:=true } hb&&wj b fun e=>!X.nw&&cCall Z X f e fun xs=>cu xs&&k (xs.map fun x=>(X,.val,x)))))))
 | .popC j i f=>!X.hm&&kY x fun t v p=>(bg t).any fun m=>kQ X m.1 j&&cCall Z X f v fun xs=>(y7 xs).any fun y=>Dh X i y.2.1&&(cu [y.1,y.2.2.1,y.2.2.2]&&k [(X,.val,y.1),(X,.val,y.2.2.1),(X,.val,y.2.2.2)])
 | .ite=>y6 x fun c a b=>k [(X,.test,c)]&&(ca X a&&cb X b)
 | .forS j=>!X.hm&&xC x fun T it body=>bE it&&(ca X body&&(bg T).any fun m=>kQ X m.1 j&&k [(X,.src true (.Name m.1 m.2),it)])
 | .forM js=>!X.hm&&xC x fun T it body=>bE it&&(ca X body&&(rP T).any fun q=>ny X q.1 js&&k [(X,.src true (.Tuple q.1 q.2.1 q.2.2),it)])
 | .raise c=>!X.hm&&vRs x fun e=>(iS e).any fun u=>(bg u.1).any fun n=>br X.sc n.1&&(Z.clss.lookup n.1==some c&&(u.2.2.1.isEmpty&&(kr u.2.1).any fun z=>(kq z).any fun q=>match q.1 with | .str _=>true | _=>false))
 | _=>false
noncomputable def xn (EF:List Stmt) (rest:List Stmt->Bool):Bool:=match o with
 | .freeze _=>rest EF
 | .freezeD _=>rest EF
 | _=>Dk (xm Z o k ca cb X) rest EF
end
noncomputable def BY [BEq Str] (Z:Zx) (s:S):CkM:=
 S.rec (motive_1:=fun U=>CkM) (motive_2:=fun U=>CkS) (fun o es U U a b X EF rest=>xn Z o (qE (es.map (yU Z))) a b X EF rest) (fun U EF=>EF.isEmpty) (fun U U i is X EF=>i X EF (is X)) s
noncomputable def chkSs [BEq Str] (Z:Zx) (l:List S):CkS:=List.rec (motive:=fun U=>CkS) (fun U EF=>EF.isEmpty) (fun s U is X EF=>BY Z s X EF (is X)) l
noncomputable def mV [BEq Str] (K:Frag) (cd:Value) (q:Str):Bool:=match cd with
 | .ref c=>(match K.lookup c with
  | some ⟨_,_,.fields vs,_⟩=>(match (vs[1]?:Option Value) with | some (.str q' _)=>q'==q | _=>false)
  | _=>false)
 | _=>false
noncomputable def Cg:Value->Bool
 | .none=>true
 | _=>false
noncomputable abbrev gF:=List Stmt×Scope×Arguments
noncomputable def fm (K:Frag) (a:Addr):Option gF:=match K.lookup a with
 | some ⟨_,_,.func fd,_⟩=>(match fd.body with
  | .stmts body=>some (body,fd.scope,fd.params)
  | _=>none)
 | _=>none
noncomputable def rn [BEq Str] (K:Frag) (a:Addr):Bool:=match K.lookup a with
 | some ⟨_,_,.func fd,_⟩=>mV K fd.code fd.qualname&&(fd.globals==mainGlobals&&(fd.builtins==builtinsNs&&(fd.closure.isEmpty&&Cg fd.defaults)))
 | _=>false
noncomputable def jN [BEq Str] (Z:Zx) (fn:Fn) (nms:List Str) (safe nw:Bool) (b:Option gF):Bool:=match b with
 | some (body,scope,params)=>!scope.isCoroutine&&(!scope.isGenerator&&(scope.kind==.function&&(params.posonlyargs.isEmpty&&((params.args.map (·.arg))==nms.take fn.npar&&(params.kwonlyargs.isEmpty&&(params.vararg.isNone&&(params.kwarg.isNone &&
    (q8 nms&&(decide (fn.npar<=nms.length)&&(decide (nms.length<=fn.nslots)&&(nms.all (fun x=>scope.names.lookup x==some .local||scope.names.lookup x==some .cell) &&
    (chkSs Z fn.body ⟨scope.names,nms.zipIdx,nms.length,fn.nslots,false,nw⟩ body&&(!safe||chkSs Z fn.body ⟨scope.names,nms.zipIdx,nms.length,fn.nslots,true,nw⟩ body)))))))))))))
 | none=>false
noncomputable def pI (K:Frag) (u:Value) (v:V):Bool:=match v with
 | .int j=>Value.isInt j u
 | .str l=>Value.isStrOf l u
 | _=>false
noncomputable def nsF [BEq Str] (K:Frag) (ns:Addr) (name:Str):Option (Option Value):=match K.lookup ns with
 | some ⟨_,_,.dict es _,_⟩=>(match es.toList.find? (fun e=>match e.key with | .str s _=>s==name | _=>false) with
   | some e=>some (some e.val)
   | none=>if es.toList.any (·.refKey) then none else some none)
 | _=>none
set_option tactic.hygienic true in
def wB (K:Frag) (ns:Addr) (name:Str):nsF K ns name=nsIn K ns name:=by
 unfold nsF nsIn;split
 ·rename_i c d es n sl h;have e:(fun e:DictEntry=>match e.key with | .str s _=>s==name | _=>false)=fun e=>e.key.isStr name:=funext fun e=>by cases e.key <;> rfl
  rw [h,e]; rfl
 ·rename_i h;split
  ·rename_i c d es n sl h';exact (h c d es n sl h').elim
  ·rfl
noncomputable def rC [BEq Str] (K:Frag) (p:Str×V):Bool:=match nsF K mainGlobals p.1 with | some (some u)=>pI K u p.2 | _=>false
noncomputable def rE (K:Frag) (C:Addr) (flds:List Str):Bool:=
 findIn K (.ref C) "__getattribute__"==some (some (.builtin "object.__getattribute__"))&&(findIn K (.ref C) "__getattr__"==some none&&(findIn K (.ref C) "__setattr__"==some (some (.builtin "object.__setattr__"))&&(plainOver K C&&((clsIn K C).any (·.hasDict) &&
 (flds.all (fun x=>findIn K (.ref C) x==some none)&&(makesIn K C&&(decide flds.Nodup&&decide (flds.length<=1000))))))))
noncomputable def wM [BEq Str] (K:Frag) (C:Addr) (flds:List Str) (fn:Nat->Addr) (p:Str×Nat):Bool:=!flds.elem p.1&&(findIn K (.ref C) p.1==some (some (.ref (fn p.2)))&&(typeIn K (.ref (fn p.2))==some (.type "function")&&keepIn K (.ref (fn p.2))))
noncomputable def l7 (K:Frag) (sup:Nat->Nat->Bool) (nc:Nat) (clsA:Nat->Addr) (c:Nat):Bool:=
 findIn K (.ref (clsA c)) "__getattribute__"==some (some (.builtin "BaseException.__getattribute__"))&&(findIn K (.ref (clsA c)) "__getattr__"==some none&&(hasDictIn K (clsA c)&&(findIn K (.ref (clsA c)) "__class__"==some (some (.builtin "object.__class__"))&&(mroIn K (clsA c) (.type "object")==some true&&(mroIn K (clsA c) (.type "BaseException")==some true &&
 (typeIn K (.ref (clsA c))==some (.type "type")&&(mroIn K (clsA c) (.type "ValueError")==some (sup c nc)&&(sup c c &&
 (List.range nc).all fun c'=>mroIn K (clsA c) (.ref (clsA c'))==some (sup c c')))))))))
end Mine
end
noncomputable section
namespace Mine.L08
open PySem
noncomputable def abc:Str:=⟨#[97,98,99,100,101,102,103,104,105,106,107,108,109,110,111,112,113,114,115,116,117,118,119,120,121,122]⟩
noncomputable def aZ:Str:=⟨#[111,112,101,110]⟩
noncomputable def aP:Str:=⟨#[99,108,111,115,101]⟩
noncomputable def kOn:Str:=⟨#[111,110]⟩
noncomputable def k0:Str:=⟨#[]⟩
noncomputable def ii (i:Int):E:=.nd (.lit (.int i)) []
noncomputable def ss (t:Str):E:=.nd (.lit (.str t)) []
noncomputable def bb (b:Bool):E:=.nd (.lit (.bool b)) []
noncomputable def nn:E:=.nd (.lit .none) []
noncomputable def vv (k:Nat):E:=.nd (.var k) []
noncomputable def sup (e c:Nat):Bool:=c==e||c==0||c==8
noncomputable abbrev sbE (a b:E):E:=.nd .sub [a,b]
noncomputable abbrev mdE (a b:E):E:=.nd (.bin .Mod) [a,b]
noncomputable abbrev fdE (a b:E):E:=.nd (.bin .FloorDiv) [a,b]
noncomputable abbrev adE (a b:E):E:=.nd (.bin .Add) [a,b]
noncomputable abbrev mlE (a b:E):E:=.nd (.bin .Mult) [a,b]
noncomputable abbrev siE (a b:E):E:=.nd (.bin .Sub) [a,b]
noncomputable abbrev eqE (a b:E):E:=.nd (.cmp .Eq) [a,b]
noncomputable abbrev neE (a b:E):E:=.nd (.cmp .NotEq) [a,b]
noncomputable abbrev lnE (a:E):E:=.nd .len [a]
noncomputable def xx (c:Nat) (x:E):E:=.nd (.isExc c [sup 0 c,sup 1 c,sup 2 c,sup 3 c,sup 4 c,sup 5 c,sup 6 c,sup 7 c]) [x]
noncomputable def Eb:List S:=[.mk .ite [.nd (.cmp .NotIn) [vv 1,ss abc]] [.mk .ret [bb false] [] []] []]
noncomputable def f0:Fn:=⟨1,2,false,[.mk .ite [.nd .or [.nd .not [.nd (.isinst 0) [vv 0]],.nd (.cmp .Gt) [(lnE (vv 0)),ii 4]]] [.mk .ret [bb false] [] []] [],
  .mk (.forS 1) [vv 0] Eb [],
  .mk .ret [bb true] [] []]⟩
noncomputable def n0:List Str:=["thing", "sign"]
noncomputable def Ea:List S:=[.mk .ite [.nd .not [.nd (.call 0) [vv 1]]] [.mk .ret [bb false] [] []] []]
noncomputable def f1:Fn:=⟨1,3,false,[.mk .ite [.nd .or [.nd .not [.nd (.isinst 1) [vv 0]],neE (lnE (vv 0)) (ii 3)]] [.mk .ret [bb false] [] []] [],
  .mk (.forS 1) [vv 0] Ea [],
  .mk (.assign 2) [adE (adE (sbE (vv 0) (ii 0)) (sbE (vv 0) (ii 1))) (sbE (vv 0) (ii 2))] [] [],
  .mk .ret [eqE (.nd .lenSet [vv 2]) (lnE (vv 2))] [] []]⟩
noncomputable def n1:List Str:=["thing", "text", "whole"]
noncomputable def f2:Fn:=⟨1,1,false,[.mk .ite [.nd .not [.nd (.call 1) [vv 0]]] [.mk (.raise 1) [] [] []] []]⟩
noncomputable def n2:List Str:=["signs"]
noncomputable def yB:List S:=[.mk .ite [.nd (.cmp .In) [vv 1,vv 2]] [.mk .ret [vv 3] [] []] []]
noncomputable def f3:Fn:=⟨2,4,false,[.mk .ite [.nd .or [.nd .not [.nd (.isinst 0) [vv 1]],neE (lnE (vv 1)) (ii 1)]] [.mk .ret [ss k0] [] []] [],
  .mk (.forM [2,3]) [.nd .zip [vv 0,.nd .list [ss aZ,ss aP,ss kOn]]] yB [],
  .mk .ret [ss k0] [] []]⟩
noncomputable def n3:List Str:=["signs", "thing", "text", "kind"]
noncomputable def D9:List S:=[.mk (.assign 4) [.nd (.call 3) [vv 0,vv 3]] [] [],
  .mk .ite [eqE (vv 4) (ss aZ)] [.mk (.assign 2) [adE (vv 2) (ii 1)] [] []] [.mk .ite [eqE (vv 4) (ss aP)] [.mk (.assign 2) [siE (vv 2) (ii 1)] [] []] []],
  .mk .ite [.nd .or [(eqE (vv 4) (ss k0)),.nd (.cmp .Lt) [vv 2,ii 0]]] [.mk .ret [bb false] [] []] []]
noncomputable def f4:Fn:=⟨2,5,false,[.mk .ite [.nd .not [.nd (.isinst 0) [vv 1]]] [.mk .ret [bb false] [] []] [],
  .mk (.assign 2) [ii 0] [] [],
  .mk (.forS 3) [vv 1] D9 [],
  .mk .ret [eqE (vv 2) (ii 0)] [] []]⟩
noncomputable def n4:List Str:=["signs", "word", "depth", "sign", "kind"]
noncomputable def f5:Fn:=⟨2,2,false,[.mk .ite [.nd .not [.nd (.call 4) [vv 0,vv 1]]] [.mk (.raise 2) [] [] []] []]⟩
noncomputable def n5:List Str:=["signs", "word"]
noncomputable def D8:List S:=[.mk .ite [.nd .and [(eqE (sbE (vv 6) (ii 0)) (ss kOn)),eqE (sbE (vv 6) (ii 1)) (vv 5),eqE (sbE (vv 6) (ii 2)) (vv 2)]] [.mk (.setD 3) [bb true,.nd .tuple [vv 4,sbE (vv 6) (ii 3)]] [] []] []]
noncomputable def D7:List S:=[.mk (.forS 6) [vv 0] D8 []]
noncomputable def f6:Fn:=⟨3,7,false,[.mk (.ownD 3) [] [] [],
  .mk (.forM [4,5]) [vv 1] D7 [],
  .mk (.freezeD 3) [] [] [],
  .mk .ret [vv 3] [] []]⟩
noncomputable def n6:List Str:=["ways", "here", "sign", "found", "begun", "room", "way"]
noncomputable def D6:List S:=[.mk .ite [.nd .and [(eqE (sbE (vv 6) (ii 0)) (ss aZ)),eqE (sbE (vv 6) (ii 1)) (vv 5),eqE (sbE (vv 6) (ii 2)) (vv 2)]] [.mk (.setD 3) [bb true,.nd .tuple [vv 6,sbE (vv 6) (ii 3)]] [] []] []]
noncomputable def D5:List S:=[.mk (.forS 6) [vv 0] D6 []]
noncomputable def f7:Fn:=⟨3,7,false,[.mk (.ownD 3) [] [] [],
  .mk (.forM [4,5]) [vv 1] D5 [],
  .mk (.freezeD 3) [] [] [],
  .mk .ret [vv 3] [] []]⟩
noncomputable def n7:List Str:=["ways", "here", "sign", "found", "begun", "room", "way"]
noncomputable def D4:List S:=[.mk .ite [eqE (vv 9) (sbE (vv 5) (ii 1))] [.mk (.setD 4) [bb true,.nd .tuple [vv 8,sbE (vv 7) (ii 4)]] [] []] []]
noncomputable def D3:List S:=[.mk .ite [.nd .and [(eqE (sbE (vv 7) (ii 0)) (ss aP)),eqE (sbE (vv 7) (ii 1)) (vv 6),eqE (sbE (vv 7) (ii 2)) (sbE (vv 5) (ii 4)),eqE (sbE (vv 7) (ii 3)) (vv 3)]] [.mk (.forM [8,9]) [vv 1] D4 []] []]
noncomputable def D2:List S:=[.mk (.forS 7) [vv 0] D3 []]
noncomputable def f8:Fn:=⟨4,10,false,[.mk (.ownD 4) [] [] [],
  .mk (.forM [5,6]) [vv 2] D2 [],
  .mk (.freezeD 4) [] [] [],
  .mk .ret [vv 4] [] []]⟩
noncomputable def n8:List Str:=["ways", "outer", "inner", "sign", "found", "opening", "room", "way", "begun", "last"]
noncomputable def D1:List S:=[.mk (.setD 3) [bb true,.nd .tuple [nn,vv 4]] [] []]
noncomputable def DZ:List S:=[.mk .ite [eqE (vv 7) (ss aZ)] [.mk (.append 5) [vv 3] [] [],
  .mk (.assign 3) [.nd (.call 7) [vv 2,vv 3,vv 6]] [] []] [.mk (.popC 3 5 8) [vv 2,vv 3,vv 6] [] []]]
noncomputable def DY:List S:=[.mk (.assign 7) [.nd (.call 3) [.nd (.meth 15) [vv 0],vv 6]] [] [],
  .mk .ite [eqE (vv 7) (ss kOn)] [.mk (.assign 3) [.nd (.call 6) [vv 2,vv 3,vv 6]] [] []] DZ]
noncomputable def Dy:List S:=[.mk .ite [.nd (.cmp .In) [vv 4,vv 8]] [.mk .ret [bb true] [] []] []]
noncomputable def f9:Fn:=⟨2,10,false,[.mk (.call 5) [.nd (.meth 15) [vv 0],vv 1] [] [],
  .mk (.assign 2) [.nd (.meth 19) [vv 0]] [] [],
  .mk (.ownD 3) [] [] [],
  .mk (.forS 4) [.nd (.meth 17) [vv 0]] D1 [],
  .mk (.ownL 5) [] [] [],
  .mk (.freezeD 3) [] [] [],
  .mk (.forS 6) [vv 1] DY [],
  .mk (.assign 8) [.nd (.meth 18) [vv 0]] [] [],
  .mk (.forM [9,4]) [vv 3] Dy [],
  .mk .ret [bb false] [] []]⟩
noncomputable def n9:List Str:=["machine", "word", "ways", "here", "room", "outside", "sign", "kind", "ends", "begun"]
noncomputable def f10:Fn:=⟨2,2,false,[.mk .ret [.nd .and [.nd (.isinst 3) [vv 0],.nd .not [.nd (.isinst 4) [vv 0]],.nd (.chain true) [ii 0,vv 0,vv 1]]] [] []]⟩
noncomputable def n10:List Str:=["thing", "rooms"]
noncomputable def C1:List S:=[.mk .ite [.nd .not [.nd (.call 10) [vv 2,vv 1]]] [.mk .ret [bb false] [] []] []]
noncomputable def f11:Fn:=⟨2,3,false,[.mk .ite [.nd .not [.nd (.isinst 2) [vv 0]]] [.mk .ret [bb false] [] []] [],
  .mk (.forS 2) [vv 0] C1 [],
  .mk .ret [eqE (.nd .lenSet [vv 0]) (lnE (vv 0))] [] []]⟩
noncomputable def n11:List Str:=["thing", "rooms", "room"]
noncomputable def C0:List S:=[.mk .ret [.nd .and [(eqE (lnE (vv 0)) (ii 4)),eqE (.nd (.call 3) [vv 1,sbE (vv 0) (ii 2)]) (ss kOn),.nd (.call 10) [(sbE (vv 0) (ii 3)),vv 2]]] [] []]
noncomputable def f12:Fn:=⟨3,3,false,[.mk .ite [.nd .or [.nd .not [.nd (.isinst 1) [vv 0]],.nd (.cmp .Lt) [(lnE (vv 0)),ii 4],.nd .not [.nd (.call 10) [(sbE (vv 0) (ii 1)),vv 2]]]] [.mk .ret [bb false] [] []] [],
  .mk .ite [.nd .not [.nd (.isinst 0) [(sbE (vv 0) (ii 0))]]] [.mk .ret [bb false] [] []] [],
  .mk .ite [eqE (sbE (vv 0) (ii 0)) (ss kOn)] C0 [],
  .mk .ite [.nd .or [(neE (lnE (vv 0)) (ii 5)),.nd .not [.nd (.call 10) [(sbE (vv 0) (ii 4)),vv 2]]]] [.mk .ret [bb false] [] []] [],
  .mk .ite [eqE (sbE (vv 0) (ii 0)) (ss aZ)] [.mk .ret [.nd .and [(eqE (.nd (.call 3) [vv 1,sbE (vv 0) (ii 2)]) (ss aZ)),.nd (.call 10) [(sbE (vv 0) (ii 3)),vv 2]]] [] []] [],
  .mk .ret [.nd .and [(eqE (sbE (vv 0) (ii 0)) (ss aP)),.nd (.call 10) [(sbE (vv 0) (ii 2)),vv 2],eqE (.nd (.call 3) [vv 1,sbE (vv 0) (ii 3)]) (ss aP)]] [] []]⟩
noncomputable def n12:List Str:=["thing", "signs", "rooms"]
noncomputable def CZ:List S:=[.mk .ite [.nd .not [.nd (.call 12) [vv 3,vv 1,vv 2]]] [.mk .ret [bb false] [] []] []]
noncomputable def f13:Fn:=⟨3,4,false,[.mk .ite [.nd .or [.nd .not [.nd (.isinst 2) [vv 0]],.nd (.cmp .Gt) [(lnE (vv 0)),ii 4000]]] [.mk .ret [bb false] [] []] [],
  .mk (.forS 3) [vv 0] CZ [],
  .mk .ret [bb true] [] []]⟩
noncomputable def n13:List Str:=["thing", "signs", "rooms", "way"]
noncomputable def f14:Fn:=⟨6,6,true,[.mk (.call 2) [vv 1] [] [],
  .mk .ite [.nd .or [.nd .not [.nd (.call 10) [vv 2,adE (ii 40) (ii 1)]],.nd (.cmp .Lt) [vv 2,ii 1]]] [.mk (.raise 3) [] [] []] [],
  .mk .ite [.nd .or [.nd .not [.nd (.call 11) [vv 3,vv 2]],.nd .not [.nd (.call 11) [vv 4,vv 2]],.nd .not [.nd (.call 13) [vv 5,vv 1,vv 2]]]] [.mk (.raise 3) [] [] []] [],
  .mk (.setAttr 0 0) [vv 1] [] [],
  .mk (.setAttr 0 1) [vv 2] [] [],
  .mk (.setAttrN 0 2) [.nd .sorted [vv 3]] [] [],
  .mk (.setAttrN 0 3) [.nd .sorted [vv 4]] [] [],
  .mk (.setAttrN 0 4) [.nd .sortedSet [vv 5]] [] []]⟩
noncomputable def n14:List Str:=["self", "signs", "rooms", "starts", "ends", "ways"]
noncomputable def f15:Fn:=⟨1,1,false,[.mk .ret [.nd (.attr 0) [vv 0]] [] []]⟩
noncomputable def n15:List Str:=["self"]
noncomputable def f16:Fn:=⟨1,1,false,[.mk .ret [.nd (.attr 1) [vv 0]] [] []]⟩
noncomputable def n16:List Str:=["self"]
noncomputable def f17:Fn:=⟨1,1,false,[.mk .ret [.nd .listOf [.nd (.attr 2) [vv 0]]] [] []]⟩
noncomputable def n17:List Str:=["self"]
noncomputable def f18:Fn:=⟨1,1,false,[.mk .ret [.nd .listOf [.nd (.attr 3) [vv 0]]] [] []]⟩
noncomputable def n18:List Str:=["self"]
noncomputable def f19:Fn:=⟨1,1,false,[.mk .ret [.nd .listOf [.nd (.attr 4) [vv 0]]] [] []]⟩
noncomputable def n19:List Str:=["self"]
noncomputable def f20:Fn:=⟨2,2,false,[.mk .ite [.nd (.cmp .Lt) [vv 1,lnE (vv 0)]] [.mk .ret [sbE (vv 0) (vv 1)] [] []] [],
  .mk .ret [ii 0] [] []]⟩
noncomputable def n20:List Str:=["_law_script", "_law_k"]
noncomputable def f21:Fn:=⟨2,2,false,[.mk .ret [mdE (adE (mlE (vv 0) (ii 48271)) (mlE (ii 7919) (vv 1))) (ii 1000003)] [] []]⟩
noncomputable def n21:List Str:=["_law_cell", "_law_k"]
noncomputable def f22:Fn:=⟨2,3,false,[.mk (.assign 2) [.nd .list [xx 1 (vv 0),xx 2 (vv 0),xx 3 (vv 0),xx 4 (vv 0)]] [] [],
  .mk (.assign 2) [adE (vv 2) (.nd .list [xx 5 (vv 0),xx 6 (vv 0),xx 7 (vv 0)])] [] [],
  .mk .ret [.nd .and [(eqE (.nd .count [vv 2,bb true]) (ii 1)),sbE (vv 2) (vv 1),xx 0 (vv 0),xx 8 (vv 0)]] [] []]⟩
noncomputable def n22:List Str:=["_law_e", "_law_own", "_law_some"]
noncomputable def xk:E:=(sbE (vv 1) (mdE (adE (vv 0) (mlE (vv 2) (vv 6))) (ii 26)))
noncomputable def f23:Fn:=⟨1,8,false,[.mk (.assign 1) [ss abc] [] [],
  .mk (.assign 2) [adE (ii 1) (mlE (ii 2) (mdE (fdE (vv 0) (ii 26)) (ii 5)))] [] [],
  .mk (.assign 3) [.nd .join [ss k0,.nd (.comp 6) [.nd .range [ii 6],xk]]] [] [],
  .mk (.assign 4) [sbE (.nd .list [ii 1,ii 1,ii 2,ii 0]) (mdE (fdE (vv 0) (ii 130)) (ii 4))] [] [],
  .mk (.assign 5) [adE (vv 4) (sbE (.nd .list [ii 1,ii 2,ii 1,ii 1,ii 0]) (mdE (fdE (vv 0) (ii 520)) (ii 5)))] [] [],
  .mk .ret [.nd .tuple [.nd (.slice false true) [vv 3,vv 4],.nd (.slice true true) [vv 3,vv 4,vv 5],.nd (.slice true true) [vv 3,vv 5,adE (vv 5) (mdE (fdE (vv 0) (ii 2600)) (ii 3))]]] [] []]⟩
noncomputable def n23:List Str:=["_law_cell", "_law_letters", "_law_step_here", "_law_row", "_law_one", "_law_other"]
noncomputable def CY:E:=(sbE (vv 1) (mdE (adE (vv 0) (mlE (vv 2) (vv 6))) (ii 26)))
noncomputable def f24:Fn:=⟨1,8,false,[.mk .ite [neE (mdE (fdE (vv 0) (ii 7800)) (ii 8)) (ii 3)] [.mk .ret [.nd (.call 23) [vv 0]] [] []] [],
  .mk (.assign 1) [ss abc] [] [],
  .mk (.assign 2) [adE (ii 1) (mlE (ii 2) (mdE (fdE (vv 0) (ii 26)) (ii 5)))] [] [],
  .mk (.assign 3) [.nd .join [ss k0,.nd (.comp 6) [.nd .range [ii 12],CY]]] [] [],
  .mk (.assign 4) [adE (ii 1) (mdE (fdE (vv 0) (ii 130)) (ii 4))] [] [],
  .mk (.assign 5) [adE (adE (vv 4) (ii 1)) (mdE (fdE (vv 0) (ii 520)) (ii 4))] [] [],
  .mk .ret [.nd .tuple [.nd (.slice false true) [vv 3,vv 4],.nd (.slice true true) [vv 3,vv 4,vv 5],.nd (.slice true true) [vv 3,vv 5,adE (adE (vv 5) (ii 1)) (mdE (fdE (vv 0) (ii 2600)) (ii 4))]]] [] []]⟩
noncomputable def n24:List Str:=["_law_cell", "_law_letters", "_law_step_here", "_law_row", "_law_one", "_law_other"]
noncomputable def CX:List S:=[.mk .ret [.nd .tuple [ss aZ,siE (siE (vv 2) (ii 1)) (sbE (sbE (vv 3) (ii 0)) (ii 1)),sbE (sbE (vv 3) (ii 0)) (ii 2),vv 6,vv 7]] [] []]
noncomputable def zU:List S:=[.mk .ite [.nd .and [(neE (vv 3) (.nd .list [])),eqE (mdE (fdE (vv 0) (ii 1024)) (ii 3)) (ii 0)]] [.mk .ret [adE (.nd (.slice false true) [(sbE (vv 3) (ii 0)),ii 3]) (.nd .tuple [vv 6,vv 7])] [] []] [],
  .mk .ite [.nd .and [(neE (vv 3) (.nd .list [])),eqE (mdE (fdE (vv 0) (ii 1024)) (ii 3)) (ii 1)]] CX [],
  .mk .ret [.nd .tuple [ss aZ,vv 5,sbE (sbE (vv 1) (ii 0)) (mdE (fdE (vv 0) (ii 256)) (lnE (sbE (vv 1) (ii 0)))),vv 6,vv 7]] [] []]
noncomputable def zT:List S:=[.mk .ite [.nd .and [(neE (vv 3) (.nd .list [])),.nd (.cmp .Gt) [(mdE (fdE (vv 0) (ii 1024)) (ii 4)),ii 0]]] [.mk (.assignM [5,6]) [.nd (.slice true false) [(sbE (vv 3) (mdE (fdE (vv 0) (ii 16)) (lnE (vv 3)))),ii 3]] [] []] [],
  .mk .ret [.nd .tuple [ss aP,vv 5,vv 6,sbE (sbE (vv 1) (ii 1)) (mdE (fdE (vv 0) (ii 256)) (lnE (sbE (vv 1) (ii 1)))),vv 7]] [] []]
noncomputable def CW:List S:=[.mk .ret [.nd .tuple [ss kOn,vv 5,sbE (sbE (vv 1) (ii 2)) (mdE (fdE (vv 0) (ii 256)) (lnE (sbE (vv 1) (ii 2)))),vv 6]] [] []]
noncomputable def f25:Fn:=⟨5,8,false,[.mk (.assign 5) [mdE (fdE (vv 0) (ii 4)) (vv 2)] [] [],
  .mk (.assign 6) [mdE (fdE (vv 0) (ii 16)) (vv 2)] [] [],
  .mk (.assign 7) [mdE (fdE (vv 0) (ii 64)) (vv 2)] [] [],
  .mk .ite [.nd .and [(eqE (mdE (vv 0) (ii 4)) (ii 0)),.nd (.cmp .Lt) [(lnE (vv 3)),vv 4],neE (sbE (vv 1) (ii 0)) (ss k0)]] zU [],
  .mk .ite [.nd .and [.nd (.cmp .Lt) [(mdE (vv 0) (ii 4)),ii 2],neE (sbE (vv 1) (ii 1)) (ss k0)]] zT [],
  .mk .ite [neE (sbE (vv 1) (ii 2)) (ss k0)] CW [],
  .mk .ret [nn] [] []]⟩
noncomputable def n25:List Str:=["_law_cell", "_law_signs", "_law_rooms", "_law_opens", "_law_most", "_law_one", "_law_other", "_law_third"]
noncomputable def f26c0:E:=(vv 12)
noncomputable def f26c1:E:=(vv 12)
noncomputable def f26c2:E:=(vv 12)
noncomputable def CV:List S:=[.mk (.assign 10) [.nd (.comp 12) [.nd (.own 8) [],f26c2,eqE (sbE (vv 12) (ii 0)) (ss aZ)]] [] [],
  .mk (.assign 11) [.nd (.call 25) [.nd (.call 21) [.nd (.call 20) [vv 0,adE (adE (vv 1) (ii 2)) (vv 9)],vv 9],vv 2,vv 4,vv 10,vv 5]] [] [],
  .mk .ite [.nd (.cmp .IsNot) [vv 11,nn]] [.mk (.append 8) [vv 11] [] []] []]
noncomputable def f26:Fn:=⟨4,14,false,[.mk (.assign 4) [adE (ii 1) (mdE (.nd (.call 20) [vv 0,vv 1]) (vv 3))] [] [],
  .mk (.assign 5) [sbE (.nd .list [ii 4,ii 2,ii 1,ii 1]) (siE (vv 4) (ii 1))] [] [],
  .mk (.assign 6) [.nd (.comp 12) [.nd .range [vv 4],f26c0,.nd (.cmp .Gt) [(mdE (fdE (.nd (.call 20) [vv 0,adE (vv 1) (ii 1)]) (adE (mlE (ii 4) (vv 12)) (ii 1))) (ii 3)),ii 0]]] [] [],
  .mk (.assign 7) [.nd (.comp 12) [.nd .range [vv 4],f26c1,eqE (mdE (fdE (.nd (.call 20) [vv 0,adE (vv 1) (ii 1)]) (adE (mlE (ii 5) (vv 12)) (ii 7))) (ii 2)) (ii 0)]] [] [],
  .mk (.ownL 8) [] [] [],
  .mk (.forS 9) [.nd .range [(adE (ii 2) (mdE (fdE (.nd (.call 20) [vv 0,vv 1]) (ii 4)) (ii 9)))]] CV [],
  .mk (.freeze 8) [] [] [],
  .mk .ret [.nd .tuple [vv 2,vv 4,vv 6,vv 7,vv 8]] [] []]⟩
noncomputable def n26:List Str:=["_law_script", "_law_at", "_law_signs", "_law_most", "_law_rooms", "_law_many", "_law_starts", "_law_ends", "_law_ways", "_law_k", "_law_opens", "_law_way"]
noncomputable def f27:Fn:=⟨1,1,false,[.mk .ret [.nd (.call 14) [(sbE (vv 0) (ii 0)),sbE (vv 0) (ii 1),.nd .listOf [(sbE (vv 0) (ii 2))],.nd .listOf [(sbE (vv 0) (ii 3))],.nd .listOf [(sbE (vv 0) (ii 4))]]] [] []]⟩
noncomputable def n27:List Str:=["_law_parts"]
noncomputable def CU:List S:=[.mk .ite [.nd .or [(eqE (vv 2) (.nd .list [])),neE (sbE (vv 0) (ii 2)) (sbE (vv 2) (.nd .neg [ii 1])),neE (sbE (vv 0) (ii 3)) (vv 3)]] [.mk .ret [nn] [] []] [],
  .mk .ret [.nd .tuple [(sbE (vv 0) (ii 4)),.nd (.slice false true) [vv 2,.nd .neg [ii 1]]]] [] []]
noncomputable def f28:Fn:=⟨4,4,false,[.mk .ite [neE (sbE (vv 0) (ii 1)) (vv 1)] [.mk .ret [nn] [] []] [],
  .mk .ite [eqE (sbE (vv 0) (ii 0)) (ss aP)] CU [],
  .mk .ite [neE (sbE (vv 0) (ii 2)) (vv 3)] [.mk .ret [nn] [] []] [],
  .mk .ite [eqE (sbE (vv 0) (ii 0)) (ss aZ)] [.mk .ret [.nd .tuple [(sbE (vv 0) (ii 3)),adE (vv 2) (.nd .list [(sbE (vv 0) (ii 4))])]] [] []] [],
  .mk .ret [.nd .tuple [(sbE (vv 0) (ii 3)),vv 2]] [] []]⟩
noncomputable def n28:List Str:=["_law_way", "_law_room", "_law_pile", "_law_sign"]
noncomputable def CT:E:=(.nd .tuple [vv 9,.nd .list []])
noncomputable def CS:List S:=[.mk (.assign 8) [.nd (.call 28) [vv 7,vv 5,vv 6,vv 3]] [] [],
  .mk .ite [.nd .and [.nd (.cmp .IsNot) [vv 8,nn],.nd (.lend 4) [.nd (.cmp .NotIn) [vv 8,vv 4]]]] [.mk (.append 4) [vv 8] [] []] []]
noncomputable def CQ:List S:=[.mk (.forS 7) [sbE (vv 0) (ii 4)] CS []]
noncomputable def CP:List S:=[.mk (.ownL 4) [] [] [],
  .mk (.forM [5,6]) [vv 2] CQ [],
  .mk (.freeze 4) [] [] [],
  .mk (.assign 2) [vv 4] [] []]
noncomputable def f29c4:E:=(vv 9)
noncomputable def f29:Fn:=⟨2,11,false,[.mk (.assign 2) [.nd (.comp 9) [(sbE (vv 0) (ii 2)),CT]] [] [],
  .mk (.forS 3) [vv 1] CP [],
  .mk .ret [neE (.nd (.compM [9,10]) [vv 2,f29c4,.nd (.cmp .In) [vv 9,sbE (vv 0) (ii 3)]]) (.nd .list [])] [] []]⟩
noncomputable def n29:List Str:=["_law_parts", "_law_word", "_law_now", "_law_sign", "_law_found", "_law_room", "_law_pile", "_law_way", "_law_state"]
noncomputable def CO:List S:=[.mk (.assign 2) [adE (vv 2) (sbE (sbE (vv 0) (ii 0)) (mdE (fdE (vv 4) (ii 3)) (lnE (sbE (vv 0) (ii 0)))))] [] [],
  .mk (.assign 3) [adE (vv 3) (ii 1)] [] []]
noncomputable def CN:List S:=[.mk (.assign 2) [adE (vv 2) (sbE (sbE (vv 0) (ii 1)) (mdE (fdE (vv 4) (ii 3)) (lnE (sbE (vv 0) (ii 1)))))] [] [],
  .mk (.assign 3) [siE (vv 3) (ii 1)] [] []]
noncomputable def CM:List S:=[.mk .ite [neE (sbE (vv 0) (ii 2)) (ss k0)] [.mk (.assign 2) [adE (vv 2) (sbE (sbE (vv 0) (ii 2)) (mdE (fdE (vv 4) (ii 3)) (lnE (sbE (vv 0) (ii 2)))))] [] []] []]
noncomputable def CL:List S:=[.mk .ite [.nd .and [(eqE (mdE (vv 4) (ii 3)) (ii 0)),.nd (.cmp .Lt) [vv 3,ii 4],neE (sbE (vv 0) (ii 0)) (ss k0),neE (sbE (vv 0) (ii 1)) (ss k0)]] CO [.mk .ite [.nd .and [(eqE (mdE (vv 4) (ii 3)) (ii 1)),.nd (.cmp .Gt) [vv 3,ii 0]]] CN CM]]
noncomputable def CK:List S:=[.mk (.assign 2) [adE (vv 2) (sbE (sbE (vv 0) (ii 1)) (mdE (adE (lnE (vv 2)) (vv 5)) (lnE (sbE (vv 0) (ii 1)))))] [] []]
noncomputable def f30:Fn:=⟨2,6,false,[.mk (.assign 2) [ss k0] [] [],
  .mk (.assign 3) [ii 0] [] [],
  .mk (.forS 4) [vv 1] CL [],
  .mk (.forS 5) [.nd .range [vv 3]] CK [],
  .mk .ret [vv 2] [] []]⟩
noncomputable def n30:List Str:=["_law_signs", "_law_cells", "_law_word", "_law_deep", "_law_cell", "_law_k"]
noncomputable def f31:Fn:=⟨2,2,false,[.mk .ite [neE (.nd (.meth 15) [vv 0]) (.nd (.meth 15) [vv 1])] [.mk (.raise 6) [] [] []] []]⟩
noncomputable def n31:List Str:=["one", "other"]
noncomputable def f32:Fn:=⟨5,5,false,[.mk .ite [.nd .or [.nd (.cmp .Gt) [vv 1,ii 40],.nd (.cmp .Gt) [.nd .lenSet [vv 4],ii 4000]]] [.mk (.raise 4) [] [] []] [],
  .mk .ret [.nd (.call 14) [vv 0,vv 1,vv 2,vv 3,.nd .sortedSet [vv 4]]] [] []]⟩
noncomputable def n32:List Str:=["signs", "rooms", "starts", "ends", "ways"]
noncomputable def f33:Fn:=⟨1,1,false,[.mk .ite [eqE (sbE (vv 0) (ii 0)) (ss aP)] [.mk .ret [sbE (vv 0) (ii 3)] [] []] [],
  .mk .ret [sbE (vv 0) (ii 2)] [] []]⟩
noncomputable def n33:List Str:=["way"]
noncomputable def gy:List S:=[.mk .ite [.nd (.isinst 3) [vv 4]] [.mk (.append 3) [adE (mlE (vv 4) (vv 2)) (vv 5)] [] []] [.mk (.append 3) [vv 4] [] []]]
noncomputable def f34:Fn:=⟨3,6,false,[.mk (.ownL 3) [] [] [],
  .mk (.forM [4,5]) [.nd .zip [vv 0,vv 1]] gy [],
  .mk (.freeze 3) [] [] [],
  .mk .ret [.nd .tupleOf [vv 3]] [] []]⟩
noncomputable def n34:List Str:=["way", "last", "rooms", "parts", "part", "more"]
noncomputable def CJ:E:=(adE (mlE (vv 4) (vv 2)) (vv 5))
noncomputable def CI:List S:=[.mk (.extend 3) [.nd (.comp 5) [vv 1,CJ]] [] []]
noncomputable def f35:Fn:=⟨3,7,false,[.mk (.ownL 3) [] [] [],
  .mk (.forS 4) [vv 0] CI [],
  .mk (.freeze 3) [] [] [],
  .mk .ret [vv 3] [] []]⟩
noncomputable def n35:List Str:=["some", "others", "rooms", "found", "room"]
noncomputable def CH:List S:=[.mk .ite [.nd .and [(eqE (sbE (vv 4) (ii 0)) (sbE (vv 5) (ii 0))),eqE (.nd (.call 33) [vv 4]) (.nd (.call 33) [vv 5])]] [.mk (.append 3) [.nd (.call 34) [vv 4,vv 5,vv 2]] [] []] []]
noncomputable def CG:List S:=[.mk (.forS 5) [.nd (.meth 19) [vv 1]] CH []]
noncomputable def f36:Fn:=⟨2,8,false,[.mk (.call 31) [vv 0,vv 1] [] [],
  .mk (.assign 2) [.nd (.meth 16) [vv 1]] [] [],
  .mk .ite [.nd (.cmp .Gt) [(mlE (.nd (.meth 16) [vv 0]) (vv 2)),ii 40]] [.mk (.raise 4) [] [] []] [],
  .mk (.ownL 3) [] [] [],
  .mk (.forS 4) [.nd (.meth 19) [vv 0]] CG [],
  .mk (.assign 6) [.nd (.call 35) [.nd (.meth 17) [vv 0],.nd (.meth 17) [vv 1],vv 2]] [] [],
  .mk (.assign 7) [.nd (.call 35) [.nd (.meth 18) [vv 0],.nd (.meth 18) [vv 1],vv 2]] [] [],
  .mk (.freeze 3) [] [] [],
  .mk (.retC 32) [.nd (.meth 15) [vv 0],mlE (.nd (.meth 16) [vv 0]) (vv 2),vv 6,vv 7,vv 3] [] []]⟩
noncomputable def n36:List Str:=["one", "other", "rooms", "ways", "way", "last", "starts", "ends"]
noncomputable def f37:Fn:=⟨1,1,false,[.mk .ret [.nd .tuple [.nd (.meth 15) [vv 0],.nd (.meth 16) [vv 0],.nd (.meth 17) [vv 0],.nd (.meth 18) [vv 0],.nd (.meth 19) [vv 0]]] [] []]⟩
noncomputable def n37:List Str:=["_law_machine"]
noncomputable def f38:Fn:=⟨2,3,false,[.mk (.tryC 36 0 2) [vv 0,vv 1] [.mk .ret [.nd .tuple [ss (⟨#[114,101,102,117,115,101,100]⟩),.nd (.call 22) [vv 2,ii 3]]] [] []] []]⟩
noncomputable def n38:List Str:=["_law_one", "_law_other", "_law_e"]
noncomputable def xj:E:=(.nd .ite [(neE (vv 7) (vv 5)),adE (mlE (sbE (vv 3) (vv 7)) (vv 1)) (sbE (vv 4) (vv 7)),sbE (vv 3) (vv 7)])
noncomputable def zS:List S:=[.mk (.assign 6) [adE (.nd .list [(sbE (vv 3) (ii 0))]) (.nd (.comp 7) [.nd .range [ii 1,lnE (vv 3)],xj])] [] [],
  .mk (.append 2) [.nd .tupleOf [vv 6]] [] []]
noncomputable def CF:List S:=[.mk (.assign 5) [.nd .ite [(eqE (sbE (vv 3) (ii 0)) (ss aP)),ii 3,ii 2]] [] [],
  .mk .ite [.nd .and [(eqE (sbE (vv 3) (ii 0)) (sbE (vv 4) (ii 0))),eqE (sbE (vv 3) (vv 5)) (sbE (vv 4) (vv 5))]] zS []]
noncomputable def CE:List S:=[.mk (.forS 4) [sbE (sbE (vv 0) (ii 1)) (ii 4)] CF []]
noncomputable def f39:Fn:=⟨2,9,false,[.mk (.ownL 2) [] [] [],
  .mk (.forS 3) [sbE (sbE (vv 0) (ii 0)) (ii 4)] CE [],
  .mk (.freeze 2) [] [] [],
  .mk .ret [.nd .sortedSet [vv 2]] [] []]⟩
noncomputable def n39:List Str:=["_law_parts", "_law_many", "_law_found", "_law_way", "_law_other", "_law_sign", "_law_row"]
noncomputable def zR:E:=(.nd .tuple [ss aZ,vv 3,vv 0,vv 4,vv 5])
noncomputable def CD:List S:=[.mk (.assign 2) [adE (vv 2) (.nd (.comp 5) [.nd .range [vv 1],zR])] [] []]
noncomputable def CC:List S:=[.mk (.forS 4) [.nd .range [vv 1]] CD []]
noncomputable def f40:Fn:=⟨2,7,false,[.mk (.assign 2) [.nd .list []] [] [],
  .mk (.forS 3) [.nd .range [vv 1]] CC [],
  .mk .ret [vv 2] [] []]⟩
noncomputable def n40:List Str:=["_law_sign", "_law_rooms", "_law_ways", "_law_one", "_law_other"]
noncomputable def CB:E:=(adE (mlE (vv 4) (vv 2)) (vv 5))
noncomputable def CA:List S:=[.mk (.assign 3) [adE (vv 3) (.nd (.comp 5) [vv 1,CB])] [] []]
noncomputable def f41:Fn:=⟨3,7,false,[.mk (.assign 3) [.nd .list []] [] [],
  .mk (.forS 4) [vv 0] CA [],
  .mk .ret [.nd .sorted [vv 3]] [] []]⟩
noncomputable def n41:List Str:=["_law_some", "_law_others", "_law_many", "_law_found", "_law_room"]
noncomputable def Cz:List S:=[.mk (.assign 3) [.nd .list [.nd .tuple [ii 5,ii 8],.nd .tuple [ii 8,ii 5],.nd .tuple [ii 6,ii 7],.nd .tuple [ii 7,ii 6],.nd .tuple [ii 5,ii 9],.nd .tuple [ii 9,ii 5],.nd .tuple [ii 6,ii 6],.nd .tuple [ii 8,ii 6]]] [] [],
  .mk (.assignM [4,5]) [sbE (vv 3) (mdE (fdE (.nd (.call 20) [vv 0,ii 25]) (ii 8)) (ii 8))] [] [],
  .mk (.setL 2) [.nd .tuple [vv 1,vv 4,sbE (.nd (.itemL 2) [ii 0]) (ii 2),adE (sbE (.nd (.itemL 2) [ii 0]) (ii 3)) (.nd .list [(siE (vv 4) (ii 1))]),sbE (.nd (.itemL 2) [ii 0]) (ii 4)],ii 0] [] [],
  .mk (.setL 2) [.nd .tuple [vv 1,vv 5,adE (sbE (.nd (.itemL 2) [ii 1]) (ii 2)) (.nd .list [ii 4]),sbE (.nd (.itemL 2) [ii 1]) (ii 3),sbE (.nd (.itemL 2) [ii 1]) (ii 4)],ii 1] [] []]
noncomputable def zQ:List S:=[.mk (.assign 6) [.nd (.call 40) [(sbE (sbE (vv 1) (ii 0)) (ii 0)),ii 4]] [] [],
  .mk (.assign 7) [.nd .tuple [vv 1,ii 6,.nd .list [ii 0],.nd .list [ii 5],vv 6]] [] [],
  .mk .ret [eqE (.nd (.call 38) [.nd (.call 27) [vv 7],.nd (.call 27) [vv 7]]) (.nd .tuple [ss (⟨#[114,101,102,117,115,101,100]⟩),bb true])] [] []]
noncomputable def Cy:E:=(.nd (.call 41) [(sbE (sbE (vv 2) (ii 0)) (vv 15)),sbE (sbE (vv 2) (ii 1)) (vv 15),vv 8])
noncomputable def zO:E:=(.nd (.call 21) [vv 15,vv 12])
noncomputable def zN:List S:=[.mk (.assign 13) [.nd (.call 30) [vv 1,.nd (.comp 15) [.nd (.slice true true) [vv 0,adE (ii 26) (mlE (ii 6) (vv 12)),adE (ii 36) (mlE (ii 6) (vv 12))],zO]]] [] [],
  .mk .ite [neE (.nd (.call 9) [vv 10,vv 13]) (.nd .and [.nd (.call 29) [(sbE (vv 2) (ii 0)),vv 13],.nd (.call 29) [(sbE (vv 2) (ii 1)),vv 13]])] [.mk .ret [bb false] [] []] []]
noncomputable def Cx:E:=(.nd (.call 37) [vv 15])
noncomputable def Cw:E:=(.nd (.call 37) [vv 15])
noncomputable def f42:Fn:=⟨1,17,false,[.mk (.assign 1) [.nd (.call 24) [.nd (.call 20) [vv 0,ii 0]]] [] [],
  .mk (.ownL 2) [.nd (.call 26) [vv 0,ii 1,vv 1,ii 4],.nd (.call 26) [vv 0,ii 13,vv 1,ii 4]] [] [],
  .mk .ite [eqE (mdE (.nd (.call 20) [vv 0,ii 25]) (ii 8)) (ii 1)] Cz [],
  .mk .ite [.nd .and [(eqE (mdE (.nd (.call 20) [vv 0,ii 25]) (ii 32)) (ii 2)),neE (sbE (vv 1) (ii 0)) (ss k0)]] zQ [],
  .mk (.freeze 2) [] [] [],
  .mk (.assign 8) [sbE (sbE (vv 2) (ii 1)) (ii 1)] [] [],
  .mk (.assign 9) [.nd .list [.nd (.call 27) [(sbE (vv 2) (ii 0))],.nd (.call 27) [(sbE (vv 2) (ii 1))]]] [] [],
  .mk (.assign 10) [.nd (.call 38) [(sbE (vv 9) (ii 0)),sbE (vv 9) (ii 1)]] [] [],
  .mk .ite [.nd (.cmp .Gt) [(mlE (vv 8) (sbE (sbE (vv 2) (ii 0)) (ii 1))),ii 40]] [.mk .ret [eqE (vv 10) (.nd .tuple [ss (⟨#[114,101,102,117,115,101,100]⟩),bb true])] [] []] [],
  .mk (.assign 11) [.nd (.comp 15) [.nd .tuple [ii 2,ii 3],Cy]] [] [],
  .mk .ite [.nd .not [.nd .isCls [vv 10]]] [.mk .ret [bb false] [] []] [],
  .mk .ite [neE (.nd (.call 37) [vv 10]) (.nd .tuple [vv 1,mlE (vv 8) (sbE (sbE (vv 2) (ii 0)) (ii 1)),sbE (vv 11) (ii 0),sbE (vv 11) (ii 1),.nd (.call 39) [vv 2,vv 8]])] [.mk .ret [bb false] [] []] [],
  .mk (.forS 12) [.nd .range [ii 5]] zN [],
  .mk (.assign 14) [.nd .list [.nd (.call 27) [(sbE (vv 2) (ii 0))],.nd (.call 27) [(sbE (vv 2) (ii 1))]]] [] [],
  .mk .ret [eqE (.nd (.comp 15) [vv 9,Cx]) (.nd (.comp 15) [vv 14,Cw])] [] []]⟩
noncomputable def n42:List Str:=["_law_script", "_law_signs", "_law_parts", "_law_sizes", "_law_rooms", "_law_others", "_law_ways", "_law_wide", "_law_many", "_law_machines", "_law_found", "_law_due", "_law_k", "_law_word", "_law_again"]
noncomputable def fns:List Fn:=[f0,f1,f2,f3,f4,f5,f6,f7,f8,f9,f10,f11,f12,f13,f14,f15,f16,f17,f18,f19,f20,f21,f22,f23,f24,f25,f26,f27,f28,f29,f30,f31,f32,f33,f34,f35,f36,f37,f38,f39,f40,f41,f42]
noncomputable def prog:Prog:=⟨fns,sup⟩
noncomputable def clsN:List (Str×Nat):=[("NestError",0),("BadSigns",1),("BadWord",2),("BadMachine",3),("TooMany",4),("NotPlain",5),("Unlike",6),("NoNote",7)]
noncomputable def safe (f:Nat):Bool:=f==22
noncomputable def newf (f:Nat):Bool:=f==14||f==17||f==18||f==19
noncomputable def cfn:Nat:=14
noncomputable def fnM:List (Str×Nat):=[("_law_way_by",25),("_law_parts_by",26),("_law_made",27),("_law_step",28),("_law_lets",29),("_law_word_by",30),("need_alike",31),("made_machine",32),("sign_of",33),("both_ways",34),("pairs_of",35),("beside",36),("_law_of",37),("_law_tried",38),("_law_ways_of",39),("_law_all_opens",40),("_law_pairs",41),("law",42)]
noncomputable def fnN:List (Str×Nat):=("are_letters",0) :: ("are_signs",1) :: ("need_signs",2) :: ("kind_of",3) :: ("is_word",4) :: ("need_word",5) :: ("gone_on",6) :: ("opened",7) :: ("closed",8) :: ("lets",9) :: ("is_room",10) :: ("are_rooms",11) :: ("is_way",12) :: ("are_ways",13) :: ("Machine",14) :: ("_law_cell_at",20) :: ("_law_mixed",21) :: ("_law_alone",22) :: ("_law_signs_by",23) :: ("_law_any_signs_by",24) :: fnM
noncomputable def metN:List (Str×Nat):=[("signs",15),("rooms",16),("starts",17),("ends",18),("ways",19)]
noncomputable def fldN:List Str:=["marks", "many", "first", "last", "told"]
noncomputable def conN:List (Str×V):=[("LETTERS",.str abc),("MOST_SIGNS",.int 4),("MOST_ROOMS",.int 40),("MOST_WAYS",.int 4000)]
end Mine.L08
end
noncomputable section
namespace Mine.L08
open PySem PySem.Calls PyProof.Rows PySem.W
noncomputable def Z:Zx:=⟨fnN,conN,fldN,metN,clsN,8,sup,safe,newf,cfn⟩
noncomputable def mchA:Addr:=233
noncomputable def clsA:List Addr:=[24,37,49,61,73,85,97,109]
noncomputable def fnA:List Addr:=[118,125,132,139,146,153,284,291,298,305,160,167,174,181,233,202,209,216,223,230,312,319,326,331,336,343,348,355,362,367,374,244,251,258,265,270,277,381,388,393,398,403,408]
noncomputable def fnB:List Addr:=[118,125,132,139,146,153,284,291,298,305,160,167,174,181,195,202,209,216,223,230,312,319,326,331,336,343,348,355,362,367,374,244,251,258,265,270,277,381,388,393,398,403,408]
noncomputable def B0:List Addr:=[3,1,233,232,238,24,37,49,61,73,85,97,109,23,36,48,60,72,84,96,108]++fnB++[117,124,131,138,145,152,283,290,297,304,159,166,173,180,194,201,208,215,222,229,311,318,325,330,335,342,347,354,361,366,373,243,250,257,264,269,276,380,387,392,397,402,407]
noncomputable def nms:List (List Str):=[n0,n1,n2,n3,n4,n5,n6,n7,n8,n9,n10,n11,n12,n13,n14,n15,n16,n17,n18,n19,n20,n21,n22,n23,n24,n25,n26,n27,n28,n29,n30,n31,n32,n33,n34,n35,n36,n37,n38,n39,n40,n41,n42]
noncomputable def txt (s:Stmt):Option gF:=if h:s.ctorIdx=0 then Stmt.FunctionDef.elim (motive_2:=fun U=>Option gF) s h fun U args body U U U scope U U U=>some (body,scope,args) else none
noncomputable def yT (s:Stmt):List Stmt:=if h:s.ctorIdx=2 then Stmt.ClassDef.elim (motive_2:=fun U=>List Stmt) s h fun U U U body U U U U U U U=>body else []
noncomputable def bT (i:Nat):Option gF:=(PySem.Challenge.rw_uf010006_08.row.prog.main.body[i]?).bind txt
noncomputable def wL (i:Nat):Option gF:=((PySem.Challenge.rw_uf010006_08.row.prog.main.body[25]?).bind fun c=>(yT c)[i]?).bind txt
noncomputable def xA:List (Option gF):=[bT 12,bT 13,bT 14,bT 15,bT 16,bT 17,bT 34,bT 35,bT 36,bT 37,bT 21,bT 22,bT 23,bT 24,wL 0,wL 1,wL 2,wL 3,wL 4,wL 5,bT 39,bT 40,bT 41,bT 42,bT 43,bT 44,bT 45,bT 46,bT 47,bT 48,bT 49,bT 27,bT 28,bT 29,bT 30,bT 31,bT 32,bT 50,bT 51,bT 52,bT 53,bT 54,bT 55]
noncomputable def jO [BEq Str]:Nat->List Fn->List (List Str)->List (Option gF)->Bool
 | _,[],_,_=>true
 | i,fn :: r,n :: m,a :: b=>jN Z fn n (safe i) (newf i&&!fn.init) a&&jO (i+1) r m b
 | _,_,_,_=>false
noncomputable def mW (K:Frag):Nat->Bool
 | 0=>true
 | c+1=>l7 K sup 8 (fun c=>clsA.getD c 0) c&&mW K c
noncomputable def chk [BEq Str] (K:Frag):Bool:=
 (K.lookup sysModules).isSome&&(rE K mchA fldN&&(fnN.all (fun p=>nsF K mainGlobals p.1==some (some (.ref (fnA.getD p.2 0))))&&(conN.all (rC K)&&(bI.all (fun p=>nsF K mainGlobals p.1==some none)&&(fnN.all (fun p=>keepIn K (.ref (fnA.getD p.2 0))) &&
 (metN.all (wM K mchA fldN fun f=>fnA.getD f 0)&&(findIn K (.ref mchA) "__init__"==some (some (.ref 195))&&(typeIn K (.ref 195)==some (.type "function")&&(fnB.all (rn K) &&
 (clsN.all (fun p=>decide (p.2 < 8)&&nsF K mainGlobals p.1==some (some (.ref (clsA.getD p.2 0))))&&(specialIn K (.builtin "object.__class__") "__get__"==some (some (.builtin "getset_descriptor.__get__"))&&(takesIn K (.builtin "object.__class__")==some true&&mW K 8))))))))))))
noncomputable def dA (h:Heap):List Addr->Frag
 | []=>[]
 | a :: r=>match h.get? a with
  | some o=>(a,o) :: dA h r
  | none=>dA h r
theorem g7 (h:Heap):∀ as:List Addr,Frag.In (dA h as) h
 | [],a,o,e=>nN e.symm
 | b :: r,a,o,e=>by
  unfold dA at e;cases hb:h.get? b with
  | none=>rw [hb] at e; exact g7 h r a o e
  | some p=>
   rw [hb] at e;by_cases q:a=b
   ·subst q;have:lookup a ((a,p) :: dA h r)=some p:=List.lookup_cons_self;rw [hb]; exact this.symm.trans e
   ·have:lookup a ((b,p) :: dA h r)=lookup a (dA h r):=by rw [lookup_cons,beq_false_of_ne q]
    exact g7 h r a o (this.symm.trans e)
noncomputable def qK:Hook:=⟨Bool×List (Option gF),fun s=>(@chk mJ (dA s.heap B0),fnB.map (fm (dA s.heap B0))),fun U=>(true,xA),fun U h=>∃ K:Frag,K.In h/\chk K=true/\fnB.map (fm K)=xA,fun U s e=>⟨dA s.heap B0,g7 _ _,sR▸congrArg Prod.fst e,congrArg Prod.snd e⟩,fun U U U y k=>y.elim fun K x=>⟨K,fun a o e=>k a o (x.1 a o e),x.2⟩⟩
end Mine.L08
end
noncomputable section
open PySem PySem.W PyProof.Rows
namespace Mine.L08
noncomputable abbrev pg:Program:=PySem.Challenge.rw_uf010006_08.row.toRowW.prog
noncomputable def vw:Program:=view pg [1,2,3,4,5,6,7,8,10,11,12,13,14,15,16,17,19,20,21,22,23,24,25,27,28,29,30,31,32,34,35,36,37,39,40,41,42,43,44,45,46,47,48,49,50,51,52,53,54,55]
noncomputable def vwX (s:Shared):Bool:=xlAt vw [] s&&recOk (RowW.records PySem.Challenge.rw_uf010006_08.row.toRowW) s
def Dr {α β γ:Type} {o:Option α} {f:α->β} {g:α->γ} {x:β} {y:γ} (h:o.map f=some x) (h':o.map g=some y):o.map (fun s=>(f s,g s))=some (x,y):=by
 cases o with
 | none=>(injection h; done)
 | some s=>exact congrArg some (Prod.ext (Option.some.inj h) (Option.some.inj h'))
noncomputable def pA {α β:Type} (p:α×β):α:=Prod.rec (fun a U=>a) p
noncomputable def pB {α β:Type} (p:α×β):β:=Prod.rec (fun U b=>b) p
noncomputable abbrev uo (s:Shared):=openSeen vw [] (importedModules pg.main.body) vwX true s
def Cl:∀ w,(openEnds treeTable pg w 6696).map (fun s=>((uo s).1,(uo s).2.1,(uo s).2.2.1))=some (pA (openGood vw []),pA (pB (openGood vw [])),pA (pB (pB (openGood vw [])))):=fun w=>by kernel_rfl
def Cj:∀ w,(openEnds treeTable pg w 6696).map (fun s=>(uo s).2.2.2)=some (pB (pB (pB (openGood vw [])))):=fun w=>by kernel_rfl
def Ci:∀ w,(openEnds treeTable pg w 6696).map qK.obs=some (qK.val w):=fun w=>by kernel_rfl
def A1:LeftO pg vw [] vwX (Hook.obs qK) (Hook.val qK) 6696:=fun w=>by
 have z:=congrArg (Option.map fun z=>((z.1.1,z.1.2.1,z.1.2.2,z.2.1),z.2.2)) (Dr (Cl w) (Dr (Cj w) (Ci w)));rw [Option.map_map] at z;exact z
end Mine.L08
end
noncomputable section
namespace Mine
open PySem
noncomputable def xP:Sc->Value->Bool
 | .inl i,v=>Value.isInt i v
 | .inr x,v=>Value.isStrOf x v
def bw {C:Sc->Value->Prop} (h:xP k v=true) (hi:∀ i t,C (.inl i) (.int i t)) (hs:∀ x t,C (.inr x) (.str x t)):C k v:=by
 cases k with
 | inl i=>obtain ⟨t,rfl⟩:=Value.isInt_shape h; exact hi i t
 | inr x=>obtain ⟨t,rfl⟩:=Value.isStrOf_shape h; exact hs x t
noncomputable def aD (prog:Program) (w:World):KeyKind prog w Sc where
 is:=xP
 hash:=fun k=>match k with | .inl i=>hashInt i | .inr x=>hashStr w x
 inj:=fun v a b ha hb=>bw (C:=fun a v=>xP b v=true->a=b) ha (fun i t hb=>by cases b with | inl j=>exact congrArg _ (Value.isInt_inj (.int i t) i j (by simp [Value.isInt]) hb) | inr y=>(injection hb; done))
  (fun x t hb=>by cases b with | inl j=>(injection hb; done) | inr y=>exact congrArg _ (Value.isStrOf_inj (.str x t) x y (by simp [Value.isStrOf]) hb)) hb
 byValue:=fun k v h=>bw (C:=fun U v=>carriedByValue v=true) h (fun U U=>rfl) fun U U=>rfl
 pyHash:=fun {A E s k v Q} h hq=>bw (C:=fun k v=>Q (match k with | .inl i=>hashInt i | .inr x=>hashStr w x) { s with toks:=s.toks+1 }->wpAny (model prog w) A (PySem.pyHash v) Q E s) h (fun U U hq=>wpAny_pyHash_int hq) (fun U U hq=>wpAny_pyHash_str hq) hq
 eqBool:=fun {A E s a b u v Q} hu hv hq=>bw (C:=fun a u=>Q (decide (a=b)) s->wpAny (model prog w) A (PySem.eqBool u v) Q E s) hu
  (fun i t hq=>bw (C:=fun b v=>Q (decide (Sum.inl i=b)) s->wpAny (model prog w) A (PySem.eqBool (.int i t) v) Q E s) hv (fun j u hq=>wpAny_eqBool_int (by rw [show (i==j)=decide ((Sum.inl i:Sc)=.inl j) by by_cases e:i=j <;> simp [e]]; exact hq)) (fun y u hq=>SeqAt.EqAt.int_str i t y u _ _ _ _ (by simpa using hq)) hq)
  (fun x t hq=>bw (C:=fun b v=>Q (decide (Sum.inr x=b)) s->wpAny (model prog w) A (PySem.eqBool (.str x t) v) Q E s) hv (fun j u hq=>SeqAt.EqAt.str_int x t j u _ _ _ _ (by simpa using hq)) (fun y u hq=>wpAny_eqBool_str (by rw [show decide (x=y)=decide ((Sum.inr x:Sc)=.inr y) by by_cases e:x=y <;> simp [e]]; exact hq)) hq) hq
 «strs»:=fun k x t v h=>by
  cases k with
  | inl i=>(injection h; done)
  | inr y=>exact (strKind prog w).«strs» y x t v h
end Mine
end
noncomputable section
namespace Mine
open PySem PySem.W
noncomputable def scH (w:World) (x:V):Int:=match x with
 | .int i=>hashInt i
 | .str s=>hashStr w s
 | _=>0xFCA86420
noncomputable def BJ (l:List Int):Int:=reduceHash (Builtin.Tuple.tupleHashOf l)
noncomputable def itH (w:World) (x:V):Int:=match x with
 | .tuple l=>BJ (l.map (scH w))
 | x=>scH w x
noncomputable def wP (w:World) (x:V):Int:=match x with
 | .tuple l=>BJ (l.map (itH w))
 | _=>0
noncomputable def itN (x:V):Nat:=match x with
 | .tuple l=>(l.map fun U=>1).sum+1
 | _=>1
noncomputable def BT (x:V):Nat:=match x with
 | .tuple l=>(l.map itN).sum+1
 | _=>0
section
variable {prog:Program} {w:World} {A:Around} {E:Value->Shared->Prop} {s:Shared}
def kO (prog:Program) (w:World) (A:Around) (E:Value->Shared->Prop) (ok:V->Bool) (H:V->Int) (N:V->Nat):Prop:=∀ x v as (s:Shared) (Q:Int->Shared->Prop),ok x=true->Reads s.heap v x as->Q (H x) { s with toks:=s.toks+N x }->wpAny (model prog w) A (pyHash v) Q E s
theorem lJ (hk:kO prog w A E ok H N):∀ (xs:List V) (vs:List Value) (as:List Addr) (s:Shared) (b:Array Int) (Q:Array Int->Shared->Prop),xs.all ok=true->ReadsAll s.heap vs xs as->(∀ b',b'.toList=b.toList++xs.map H->Q b' { s with toks:=s.toks+(xs.map N).sum }) ->
  wpAny (model prog w) A (forIn vs b fun x r=>do let h <- pyHash x; pure PUnit.unit; pure (ForInStep.yield (r.push h))) Q E s
 | [],_,_,s,b,Q,_,r,h=>by
  cases r
  exact zC2 (h b (append_nil _).symm)
 | x :: xs,_,_,s,b,Q,ok,r,h=>by
  cases r with
  | cons r rs=>
  have ok:=zA2 ok;rw [forIn_cons];refine zC1 (zC1 (hk x _ _ s _ ok.1 r ((bPu (zC2 ?_)))));refine lJ hk xs _ _ _ _ Q ok.2 rs fun b' hb=>?_;have q:=h b' (by rw [hb,toList_push,append_assoc]; rfl);rw [map_cons,sum_cons,<- add_assoc] at q;exact q
def pi (hk:kO prog w A.in1 E ok H N) (hu:A.units < cLine) (ho:s.heap.get? a=some o) (hc:o.cls=.type "tuple") (hd:o.data=.seq vs n) (hl:l.all ok=true) (r:ReadsAll s.heap vs.toList l as)
  (h:Q (BJ (l.map H)) { s with toks:=s.toks+((l.map N).sum+1) }):wpAny (model prog w) A (pyHash (.ref a)) Q E s:=by
 refine pyHash_slot (T:="tuple") ⟨o,ho,hc⟩ F.slot_tuple_hash F.entry_tuple_hash (F.args_tuple_hash_1 _) (beq_builtin_none _) (.inr hu) ?_;refine (?_:wpAny _ _ (Builtin.Tuple.tupleItemsOf (.ref a) >>= _) _ _ s);refine zC1 (wpAny_tupleItemsOf ho hd (zC1 ?_));rw [<- forIn_toList];refine lJ hk l _ _ s #[] _ hl r fun b hb=>?_;refine (?_:wpAny _ _ (retInt (Builtin.Tuple.tupleHashOf b.toList)) _ _ _);exact hb.symm▸zC1 (wpAny_mkInt (zC2 ⟨_,_,rfl,h⟩))
def yw:kO prog w A E aS (scH w) (fun U=>1):=fun x v as s Q ok r h=>by
 cases r with
 | int i t=>exact wpAny_pyHash_int h
 | str x t=>exact wpAny_pyHash_str h
 | _=>exact nB ok
def yx (hu:A.units < cLine):kO prog w A E itV (itH w) itN:=fun x v as s Q ok r h=>by
 cases r with
 | none=>exact pyHash_slot (T:="NoneType") rfl F.slot_NoneType_hash F.entry_NoneType_hash (F.args_NoneType_hash_1 _) (beq_builtin_none _) (.inr hu) ((bPu (zC1 (wpAny_mkInt (zC2 ⟨_,_,rfl,h⟩)))))
 | int i t=>exact wpAny_pyHash_int h
 | str x t=>exact wpAny_pyHash_str h
 | tuple ho hc hd hl=>exact pi yw hu ho hc hd ok hl h
 | _=>exact nB ok
def vN (hu:A.units+1 < cLine):kO prog w A E dJ (wP w) BT:=fun x v as s Q ok r h=>by
 cases r with
 | tuple ho hc hd hl=>exact pi (yx hu) (lt_of_succ_lt hu) ho hc hd ok hl h
 | _=>exact nB ok
def Aw (h:aS x=true):x.canLay0=true/\x.depth<=0:=by
 cases x with
 | int=>exact ⟨rfl,le_refl _⟩
 | str=>exact ⟨h,le_refl _⟩
 | _=>exact nB h
theorem mY (hk:∀ x,ok x=true->x.canLay0=true/\x.depth<=n):∀ l:List V,l.all ok=true->canLayAll0 l=true/\depthAll l<=n
 | [],_=>⟨rfl,zero_le _⟩
 | x :: l,h=>by
  have h:=zA2 h;have q:=mY hk l h.2;exact ⟨zA3 ⟨(hk x h.1).1,q.1⟩,max_le.mpr ⟨(hk x h.1).2,q.2⟩⟩
def A7 (h:itV x=true):x.canLay0=true/\x.depth<=1:=by
 cases x with
 | none=>exact ⟨rfl,zero_le _⟩
 | tuple l=>exact (mY (fun x=>Aw) l h).imp id succ_le_succ
 | int=>exact ⟨rfl,zero_le _⟩
 | str=>exact ⟨h,zero_le _⟩
 | _=>exact nB h
def gN (h:dJ x=true):x.canLay0=true/\x.depth<=2:=by
 cases x with
 | tuple l=>exact (mY (fun x=>A7) l h).imp id succ_le_succ
 | _=>exact nB h
def uD (ok:V->Bool):Prop:=∀ x y,ok x=true->ok y=true->(PyData.eqv x y=true ↔ x=y)
theorem mS (hk:uD ok):∀ l m:List V,l.all ok=true->m.all ok=true->(eqvAll l m=true ↔ l=m)
 | [],[],_,_=>⟨fun U=>rfl,fun U=>rfl⟩
 | [],_ :: _,_,_=>iff_of_false nofun nofun
 | _ :: _,[],_,_=>iff_of_false nofun nofun
 | x :: l,y :: m,h1,h2=>by
  have h1:=zA2 h1;have h2:=zA2 h2;refine (?_:(PyData.eqv x y&&eqvAll l m)=true ↔ _);rw [and_eq_true,hk x y h1.1 h2.1,mS hk l m h1.2 h2.2,List.cons.injEq]
def kL:uD aS:=fun x y hx hy=>by
 cases x with
 | int i=>cases y with
  | int j=>exact ⟨fun h=>congrArg _ (eq_of_beq h),fun h=>by (injection h with h; subst h); exact beq_self_eq_true i⟩
  | str t=>exact iff_of_false nofun nofun
  | _=>exact nB hy
 | str s=>cases y with
  | int j=>exact iff_of_false nofun nofun
  | str t=>exact ⟨fun h=>congrArg _ (eq_of_beq h),fun h=>by (injection h with h; subst h); exact beq_self_eq_true s⟩
  | _=>exact nB hy
 | _=>exact nB hx
def Bs:uD itV:=fun x y hx hy=>by
 cases x with
 | none=>cases y with
  | none=>exact ⟨fun U=>rfl,fun U=>rfl⟩
  | _=>exact iff_of_false nofun nofun
 | tuple l=>cases y with
  | tuple m=>exact (mS kL l m hx hy).trans ⟨fun h=>congrArg _ h,fun h=>PyData.tuple.inj h⟩
  | _=>exact iff_of_false nofun nofun
 | int i=>cases y with
  | int j=>exact kL _ _ hx hy
  | str t=>exact kL _ _ hx hy
  | bool=>exact nB hy
  | _=>exact iff_of_false nofun nofun
 | str s=>cases y with
  | int j=>exact kL _ _ hx hy
  | str t=>exact kL _ _ hx hy
  | _=>exact iff_of_false nofun nofun
 | _=>exact nB hx
def mP:uD dJ:=fun x y hx hy=>by
 cases x with
 | tuple l=>cases y with
  | tuple m=>exact (mS Bs l m hx hy).trans ⟨fun h=>congrArg _ h,fun h=>PyData.tuple.inj h⟩
  | _=>exact nB hy
 | _=>exact nB hx
end
section
variable {prog:Program} {w:World} {A:Around} {E:Value->Shared->Prop} {s:Shared}
def jQ (prog:Program) (w:World) (A:Around) (E:Value->Shared->Prop) (ok:V->Bool) (m:Nat):Prop:=∀ x v as (s:Shared) (Q:Bool->Shared->Prop),ok x=true->Reads s.heap v x as->Q true s->wpAny (model prog w) A (eqIsQuiet m v) Q E s
def lj (hk:jQ prog w A E ok m) (ho:s.heap.get? a=some o) (hc:o.cls=.type "tuple") (hd:o.data=.seq vs n) (hl:l.all ok=true) (r:ReadsAll s.heap vs.toList l as) (h:Q true s) :
  wpAny (model prog w) A (eqIsQuiet (m+1) (.ref a)) Q E s:=by
 have hT:s.TypeIs (.ref a) "tuple":=⟨o,ho,hc⟩;unfold eqIsQuiet;refine zC1 (wpAny_specialOf hT F.slot_tuple_eq.lookup ?_);refine (?_:wpAny _ _ (isInstance (.ref a) (.type "tuple") >>= _) _ _ s);refine zC1 (wpAny_isInstance hT isSubtype_tuple_tuple ?_);refine bu (c:=(!true)=true) Bool.false_ne_true (zC1 (wpAny_seqItems ho hd (zC1 ?_)));refine (?_:wpAny _ _ (forIn vs _ _) _ _ s);rw [<- forIn_toList];refine wpAny_forIn_list _ (fun rest r s'=>r.1=none/\s'=s/\∃ l' as',l'.all ok=true/\ReadsAll s.heap rest l' as') _ ?_ ?_ _ _ ⟨rfl,rfl,l,as,hl,r⟩
 ·rintro v rest r s' ⟨hr,rfl,l',as',E4,rr⟩;cases rr with
  | cons r1 rs=>
   have q:=zA2 E4;refine zC1 (hk _ _ _ s' _ q.1 r1 ?_);exact bu (c:=(!true)=true) Bool.false_ne_true (zC2 ⟨rfl,rfl,_,_,q.2,rs⟩)
 ·rintro ⟨r1,r2⟩ s' ⟨hr,rfl,_⟩;obtain rfl:r1=none:=hr;exact wpAny_pure h
def dp (hv:carriedByValue v=true) (h:Q true s):wpAny (model prog w) A (eqIsQuiet m v) Q E s:=by
 rw [eqIsQuiet_byValue _ hv]; exact wpAny_pure h
def u7:jQ prog w A E aS m:=fun x v as s Q ok r h=>by
 cases r with
 | int i t=>exact dp rfl h
 | str x t=>exact dp rfl h
 | _=>exact nB ok
def u8:jQ prog w A E itV (m+1):=fun x v as s Q ok r h=>by
 cases r with
 | none=>exact dp rfl h
 | int i t=>exact dp rfl h
 | str x t=>exact dp rfl h
 | tuple ho hc hd hl=>exact lj u7 ho hc hd ok hl h
 | _=>exact nB ok
def tG:jQ prog w A E dJ 8:=fun x v as s Q ok r h=>by
 cases r with
 | tuple ho hc hd hl=>exact lj (u8 (m:=6)) ho hc hd ok hl h
 | _=>exact nB ok
end
def nV (h h':Heap) (ok:V->Bool):Prop:=∀ x v as,ok x=true->Reads h v x as->Reads h' v x as
section
variable {h h':Heap}
theorem rF (hk:nV h h' ok):∀ (l:List V) (vs:List Value) (as:List Addr),l.all ok=true->ReadsAll h vs l as->ReadsAll h' vs l as
 | [],_,_,_,r=>by
  cases r; exact .nil
 | x :: l,_,_,q,r=>by
  cases r with
  | cons r rs=>exact .cons (hk x _ _ (zA2 q).1 r) (rF hk l _ _ (zA2 q).2 rs)
def Cb:nV h h' aS:=fun x v as ok r=>by
 cases r with
 | int i t=>exact .int i t
 | str x t=>exact .str x t
 | _=>exact nB ok
def Co (k:∀ b o vs n,h.get? b=some o->o.data=.seq vs n->h'.get? b=some o):nV h h' itV:=fun x v as ok r=>by
 cases r with
 | none=>exact .none
 | int i t=>exact .int i t
 | str x t=>exact .str x t
 | tuple ho hc hd hl=>exact .tuple (k _ _ _ _ ho hd) hc hd (rF Cb _ _ _ ok hl)
 | _=>exact nB ok
def A2 (k:∀ b o vs n,h.get? b=some o->o.data=.seq vs n->h'.get? b=some o):nV h h' dJ:=fun x v as ok r=>by
 cases r with
 | tuple ho hc hd hl=>exact .tuple (k _ _ _ _ ho hd) hc hd (rF (Co k) _ _ _ ok hl)
 | _=>exact nB ok
end
def KIs (h:Heap) (x:V) (a:Addr):Prop:=dJ x=true/\∃ as,Reads h (.ref a) x as
theorem KIs.keep (r:KIs h x a) (k:∀ b o vs n,h.get? b=some o->o.data=.seq vs n->h'.get? b=some o):KIs h' x a:=⟨r.1,r.2.imp fun as q=>A2 k x _ _ r.1 q⟩
def xZ {h:Heap} {d:Addr} {o o':Obj} {es:Array DictEntry} {ep n:Nat} {vs:Array Value} (hd:o.data=.dict es ep) (ho:h.get? d=some o) (c:o'.data=.seq vs n) (e:h.get? d=some o'):False:=by
 rw [ho] at e;injection e with e
 subst e;exact nomatch hd.symm.trans c
noncomputable def fM:DecidableEq V:=fun a b=>Classical.propDecidable (a=b)
def mQ (hx:dJ x=true) (hy:dJ y=true):PyData.eqv x y=@decide (x=y) (fM x y):=by
 rw [Bool.eq_iff_iff,mP x y hx hy];exact (@decide_eq_true_iff _ (fM x y)).symm
noncomputable def jv (prog:Program) (w:World):@HeapKind prog w V fM:=
 @HeapKind.mk prog w V fM KIs (wP w) BT (fun A=>A.units+2 < cLine)
  (fun hx hy=>hx.2.elim fun U r=>hy.2.elim fun U r'=>SeqAt.Reads.unique _ _ _ _ _ (gN hx.1).1 r r')
  (fun r ho hd hs=>r.keep fun b o' vs n e c=>(hs.2 b fun q=>xZ hd ho c (q▸e)).trans e)
  (fun hu hk h=>hk.2.elim fun U r=>vN (lt_of_succ_lt hu) _ _ _ _ _ hk.1 r h)
  (fun hu hx hy h=>hx.2.elim fun U r=>hy.2.elim fun U r'=>SeqAt.eqBoolOverData _ _ _ _ _ _ _ _ _ _ _ _ r r' (gN hx.1).1 (gN hy.1).1 (Q1 (Q6 (zB1 (min_le_right _ _) (gN hy.1).2) _) hu) ((mQ hx.1 hy.1).symm▸h))
  (fun hk h=>hk.2.elim fun U r=>tG _ _ _ _ _ hk.1 r h)
end Mine
end
noncomputable section
namespace Mine
open PySem PySem.Calls PyProof.Rows PySem.W
section
def aL (h h':Heap):Prop:=∀ b o,h.get? b=some o->h'.get? b=some o
def iK (o:Obj):Prop:=o.cls≠.type "frame"
def bF (h':Heap) (b:Addr) (o:Obj):Prop:=∃ sl,h'.get? b=some { o with slots:=sl }/\(iK o->sl=o.slots)
def aI (h h':Heap):Prop:=∀ b o,h.get? b=some o->bF h' b o
def aW (h:Heap) (a:Addr):Prop:=∃ o,h.get? a=some o
theorem bF.of (e:h'.get? b=some o):bF h' b o:=⟨o.slots,e,fun U=>rfl⟩
theorem bF.get (x:bF h' b o) (n:iK o):h'.get? b=some o:=by
 obtain ⟨sl,e',q⟩:=x;rw [e',q n]
theorem bF.live (x:bF h' b o):aW h' b:=x.elim fun U q=>⟨_,q.1⟩
theorem bF.step (x:bF Ez b o) (y:∀ o',Ez.get? b=some o'->bF Em b o'):bF Em b o:=by
 obtain ⟨sl,E0,K8⟩:=x;obtain ⟨II,FK,K7⟩:=y _ E0;exact ⟨II,FK,fun n=>(K7 n).trans (K8 n)⟩
theorem aL.keeps (x:aL h h'):aI h h':=fun b o e=>⟨o.slots,x b o e,fun U=>rfl⟩
theorem aI.get (x:aI h h') (e:h.get? b=some o) (n:iK o):h'.get? b=some o:=(x b o e).get n
theorem aI.refl (h:Heap):aI h h:=aL.keeps fun U U e=>e
theorem aI.trans (x:aI Ej Ez) (y:aI Ez Em):aI Ej Em:=fun b o e=>(x b o e).step (y b)
theorem aI.live (x:aI h h'):aW h a->aW h' a:=fun FA=>FA.elim fun o e=>(x a o e).live
theorem aL.trans (x:aL Ej Ez) (y:aL Ez Em):aL Ej Em:=fun b o e=>y b o (x b o e)
theorem aL.live (x:aL h h'):aW h a->aW h' a:=x.keeps.live
def x2 (h:o.cls=.type n) (q:n≠"frame"):iK o:=fun e=>q (Value.type.inj (h.symm.trans e))
def dN (h:Heap) (a:Addr):Prop:=∃ o,h.get? a=some o/\iK o
theorem dN.live (x:dN h a):aW h a:=x.elim fun o q=>⟨o,q.1⟩
theorem dN.nf (x:dN h a) (e:h.get? a=some o):iK o:=by obtain ⟨o',e',n⟩:=x; rw [e] at e'; (injection e' with e'; subst e'); exact n
def lR (h:Heap) (v:Value):Prop:=∀ a b,v=.ref a->aW h b->b < a
theorem lR.le (x:lR h' v) (k:∀ b,aW h b->aW h' b):lR h v:=fun a b e l=>x a b e (k b l)
def eQ (q:h.objs.size<=n):lR h (.ref n):=fun a b e FM=>FM.elim fun o l=>by (injection e with e; subst e); exact Q0 (lt_size l) q
def ak (h:Heap):h.get? h.objs.size=none:=by
 cases e:h.get? h.objs.size with
 | none=>rfl
 | some o=>exact absurd (lt_size e) (lt_irrefl _)
def aR (l:aW h a->aW h' a) (e:h'.get? a=none):h.get? a=none:=by
 cases q:h.get? a with
 | none=>rfl
 | some o=>obtain ⟨o',e'⟩:=l ⟨o,q⟩; rw [e] at e'; (injection e'; done)
def az (h:Heap) (o:Obj):aL h (h.push o):=fun U U e=>Q4 _ e
def dL (h:Heap) (o:Obj):aI h (h.push o):=(az h o).keeps
structure Gl where
 prog:Program
 w:World
 h0:Heap
 mg:Str->Option Value
 mb:Str->Option Value
 fn:Nat->Addr
 C:Addr
 K:Frag
 flds:List Str
 os:OsState
 P:Prog
 cls:Nat->Addr
 nc:Nat
 safe:Nat->Bool
 newf:Nat->Bool
 fns:List (Str×Nat)
 clss:List (Str×Nat)
 cons:List (Str×V)
structure Base (g:Gl) (s:Shared):Prop where
 stays:aL g.h0 s.heap
 os:s.os=g.os
 gens:s.gens=#[]
def d6 (g:Gl) (o:Obj) (ws:List Value):Prop:=o.ExactDict/\∃ es n,o.data=.dict es n/\es.toList.map (·.val)=ws/\∀ (j:Nat) e,es[j]?=some e->∃ x t,g.flds[j]?=some x/\e.key=.str x t
def uE (a:Addr) (ws:List Value) (l:List V):Prop:=∀ (j:Nat) b m,ws[j]?=some (.ref b)->l[j]?=some (.list m)->a < b
def DOk (w:World) (Eg:List (V×V)) (es:Array DictEntry):Prop:=dkV Eg=true/\(Eg.map (·.1)).Nodup/\es.toList.map (·.hash)=Eg.map fun p=>wP w p.1
mutual
inductive Rp (g:Gl) (bad:Addr->Prop) (h:Heap):Value->V->Prop
 | none:Rp g bad h .none .none
 | bool (b:Bool):Rp g bad h (.bool b) (.bool b)
 | int (i:Int) (t:Tok):Rp g bad h (.int i t) (.int i)
 | str (x:Str) (t:Tok):Rp g bad h (.str x t) (.str x)
 | list {a:Addr} {o:Obj} {vs:Array Value} {n:Nat} {l:List V}:¬ bad a->h.get? a=some o->o.cls=.type "list"/\o.dict=none->o.data=.seq vs n->RpAll g bad h vs.toList l->Rp g bad h (.ref a) (.list l)
 | tuple {a:Addr} {o:Obj} {vs:Array Value} {n:Nat} {l:List V}:¬ bad a->h.get? a=some o->o.cls=.type "tuple"->o.data=.seq vs n->RpAll g bad h vs.toList l->Rp g bad h (.ref a) (.tuple l)
 | inst {a d:Addr} {o:Obj} {ws:List Value} {Eg:List (V×V)} {l:List V}:¬ bad a->¬ bad d->h.get? a=some (instObj g.C d)->h.get? d=some o->d6 g o ws->uE a ws l->qG Eg=true->Eg.map (·.2)=l->RpAll g bad h ws l->Rp g bad h (.ref a) (.dict Eg)
 | exc {a:Addr} {o:Obj} {c:Nat} {vs:Array Value}:c < g.nc->¬ bad a->h.get? a=some o->o.cls=.ref (g.cls c)/\o.dict=none->o.data=.fields vs->Rp g bad h (.ref a) (.dict [(.int c,.none)])
 | dict {a:Addr} {o:Obj} {es:Array DictEntry} {n:Nat} {Eg:List (V×V)} {l m:List V}:¬ bad a->a≠sysModules->h.get? a=some o->o.ExactDict->o.data=.dict es n->DOk g.w Eg es->Eg.map (·.1)=l->Eg.map (·.2)=m->RpAll g bad h (es.toList.map (·.key)) l->RpAll g bad h (es.toList.map (·.val)) m->Rp g bad h (.ref a) (.dict Eg)
inductive RpAll (g:Gl) (bad:Addr->Prop) (h:Heap):List Value->List V->Prop
 | nil:RpAll g bad h [] []
 | cons {v:Value} {vs:List Value} {x:V} {l:List V}:Rp g bad h v x->RpAll g bad h vs l->RpAll g bad h (v :: vs) (x :: l)
end
section
variable {g:Gl} {bad EC:Addr->Prop} {h h':Heap} {v:Value} {x:V} {vs ws:List Value} {l m:List V}
def cR (bad EC:Addr->Prop) (h h':Heap):Prop:=∀ a o,h.get? a=some o->iK o->¬ bad a->¬ EC a/\h'.get? a=some o
theorem Rp.ind {C:Value->V->Prop} {D:List Value->List V->Prop} (none:C .none .none) (bool:∀ b,C (.bool b) (.bool b)) (int:∀ i t,C (.int i t) (.int i)) (str:∀ x t,C (.str x t) (.str x))
  (list:∀ a (o:Obj) vs n l,¬ bad a->h.get? a=some o->o.cls=.type "list"/\o.dict=.none->o.data=.seq vs n->RpAll g bad h vs.toList l->D vs.toList l->C (.ref a) (.list l))
  (tuple:∀ a (o:Obj) vs n l,¬ bad a->h.get? a=some o->o.cls=.type "tuple"->o.data=.seq vs n->RpAll g bad h vs.toList l->D vs.toList l->C (.ref a) (.tuple l))
  (inst:∀ a d o ws Eg,¬ bad a->¬ bad d->h.get? a=some (instObj g.C d)->h.get? d=some o->d6 g o ws->uE a ws (Eg.map (·.2))->qG Eg=true->RpAll g bad h ws (Eg.map (·.2))->D ws (Eg.map (·.2))->C (.ref a) (.dict Eg))
  (exc:∀ a (o:Obj) c vs,c < g.nc->¬ bad a->h.get? a=some o->o.cls=.ref (g.cls c)/\o.dict=.none->o.data=.fields vs->C (.ref a) (.dict [(.int c,.none)]))
  (dict:∀ a (o:Obj) es n Eg,¬ bad a->a≠sysModules->h.get? a=some o->o.ExactDict->o.data=.dict es n->DOk g.w Eg es->RpAll g bad h (es.toList.map (·.key)) (Eg.map (·.1))->RpAll g bad h (es.toList.map (·.val)) (Eg.map (·.2))->D (es.toList.map (·.key)) (Eg.map (·.1))->D (es.toList.map (·.val)) (Eg.map (·.2))->C (.ref a) (.dict Eg))
  (nil:D [] []) (cons:∀ v vs x l,Rp g bad h v x->RpAll g bad h vs l->C v x->D vs l->D (v :: vs) (x :: l)):(Rp g bad h v x->C v x)/\(RpAll g bad h vs l->D vs l):=by
 constructor
 ·exact fun r=>Rp.rec (motive_1:=fun v x U=>C v x) (motive_2:=fun vs l U=>D vs l) none bool int str (fun a b c d e i=>list _ _ _ _ _ a b c d e i) (fun a b c d e i=>tuple _ _ _ _ _ a b c d e i) (fun a b c d e f k q r i=>by subst q; exact inst _ _ _ _ _ a b c d e f k r i) (exc _ _ _ _) (fun a f b c d e q1 q2 r1 r2 i j=>by subst q1 q2; exact dict _ _ _ _ _ a f b c d e r1 r2 i j) nil (fun a b c d=>cons _ _ _ _ a b c d) r
 ·exact fun r=>RpAll.rec (motive_1:=fun v x U=>C v x) (motive_2:=fun vs l U=>D vs l) none bool int str (fun a b c d e i=>list _ _ _ _ _ a b c d e i) (fun a b c d e i=>tuple _ _ _ _ _ a b c d e i) (fun a b c d e f k q r i=>by subst q; exact inst _ _ _ _ _ a b c d e f k r i) (exc _ _ _ _) (fun a f b c d e q1 q2 r1 r2 i j=>by subst q1 q2; exact dict _ _ _ _ _ a f b c d e r1 r2 i j) nil (fun a b c d=>cons _ _ _ _ a b c d) r
def fb:iK (instObj C d):=nofun
def AN (h:o.cls=.ref c):iK o:=fun e=>nomatch h.symm.trans e
def aG (h:o.cls=.type n) (q:n≠"frame":=by decide):iK o:=x2 h q
def wu (k:cR bad EC h h'):(Rp g bad h v x->Rp g EC h' v x)/\(RpAll g bad h vs l->RpAll g EC h' vs l):=
 Rp.ind .none .bool .int .str (fun a o vs n l hb ha hc hd U ih=>let q:=k a o ha (aG hc.1) hb; .list q.1 q.2 hc hd ih) (fun a o vs n l hb ha hc hd U ih=>let q:=k a o ha (aG hc) hb; .tuple q.1 q.2 hc hd ih)
  (fun a d o ws Eg hb Gc ha hd hf hn hi r ih=>let q:=k a _ ha fb hb; let q':=k d o hd (aG hf.1.1) Gc; .inst q.1 q'.1 q.2 q'.2 hf hn hi rfl ih)
  (fun a o c vs hn hb ha hc hd=>let q:=k a o ha (AN hc.1) hb; .exc hn q.1 q.2 hc hd) (fun a o es n Eg hb hm ha hc hd he U U i j=>let q:=k a o ha (aG hc.1) hb; .dict q.1 hm q.2 hc hd he rfl rfl i j) .nil fun U U U U U U i j=>.cons i j
theorem Rp.map (r:Rp g bad h v x) (k:cR bad EC h h'):Rp g EC h' v x:=(wu (vs:=[]) (l:=[]) k).1 r
theorem RpAll.map (r:RpAll g bad h vs l) (k:cR bad EC h h'):RpAll g EC h' vs l:=(wu (v:=.none) (x:=.none) k).2 r
theorem aI.mapK (k:aI h h'):cR bad bad h h':=fun a o e q n=>⟨n,k.get e q⟩
theorem Rp.keep (r:Rp g bad h v x) (k:aI h h'):Rp g bad h' v x:=r.map k.mapK
theorem RpAll.keep (r:RpAll g bad h vs l) (k:aI h h'):RpAll g bad h' vs l:=r.map k.mapK
theorem RpAll.ind {D:List Value->List V->Prop} (r:RpAll g bad h vs l) (n:D [] []) (c:∀ v vs x l,Rp g bad h v x->RpAll g bad h vs l->D vs l->D (v :: vs) (x :: l)):D vs l:=
 (Rp.ind (v:=.none) (x:=.none) (C:=fun U U=>True) trivial (fun U=>trivial) (fun U U=>trivial) (fun U U=>trivial) (fun U U U U U U U U U U U=>trivial) (fun U U U U U U U U U U U=>trivial) (fun U U U U U U U U U U U U U U=>trivial) (fun U U U U U U U U U=>trivial) (fun U U U U U U U U U U U U U U U=>trivial) n fun v vs x l r rs U i=>c v vs x l r rs i).2 r
theorem RpAll.length (r:RpAll g bad h vs l):vs.length=l.length:=r.ind (D:=fun vs l=>vs.length=l.length) rfl fun U U U U U U i=>congrArg (· + 1) i
theorem RpAll.get {i:Nat} (r:RpAll g bad h vs l):l[i]?=some x->∃ v,vs[i]?=some v/\Rp g bad h v x:=by
 refine r.ind (D:=fun vs l=>∀ i,l[i]?=some x->∃ v,vs[i]?=some v/\Rp g bad h v x) (fun i e=>absurd (List.getElem?_nil (i:=i)▸e) nofun) (fun v vs y l r U ih i e=>?_) i;cases i with
 | zero=>(injection e with e; subst e); exact ⟨_,rfl,r⟩
 | succ i=>exact ih i e
theorem RpAll.append (r:RpAll g bad h vs l) (q:RpAll g bad h ws m):RpAll g bad h (vs++ws) (l++m):=r.ind (D:=fun vs l=>RpAll g bad h (vs++ws) (l++m)) q fun U U U U r U i=>.cons r i
theorem RpAll.take (n:Nat) (r:RpAll g bad h vs l):RpAll g bad h (vs.take n) (l.take n):=by
 refine r.ind (D:=fun vs l=>∀ n,RpAll g bad h (vs.take n) (l.take n)) (fun n=>?_) (fun v vs x l r U ih n=>?_) n
 ·rw [take_nil,take_nil]; exact .nil
 ·cases n with
  | zero=>exact .nil
  | succ n=>exact .cons r (ih n)
theorem RpAll.drop (n:Nat) (r:RpAll g bad h vs l):RpAll g bad h (vs.drop n) (l.drop n):=by
 refine r.ind (D:=fun vs l=>∀ n,RpAll g bad h (vs.drop n) (l.drop n)) (fun n=>?_) (fun v vs x l r rs ih n=>?_) n
 ·rw [List.drop_nil,List.drop_nil]; exact .nil
 ·cases n with
  | zero=>exact .cons r rs
  | succ n=>exact ih n
def oQ:(Rp g bad h v x->x.canLay0=true->∃ as,Reads h v x as)/\(RpAll g bad h vs l->canLayAll0 l=true->∃ as,ReadsAll h vs l as):=
 Rp.ind (C:=fun v x=>x.canLay0=true->∃ as,Reads h v x as) (D:=fun vs l=>canLayAll0 l=true->∃ as,ReadsAll h vs l as) (fun U=>⟨_,.none⟩) (fun b U=>⟨_,.bool b⟩) (fun i t U=>⟨_,.int i t⟩) (fun x t U=>⟨_,.str x t⟩)
  (fun a o vs n l hb ha hc hd U ih q=>(ih q).elim fun U r=>⟨_,.list ha hc.1 hd r⟩) (fun a o vs n l hb ha hc hd U ih q=>(ih q).elim fun U r=>⟨_,.tuple ha hc hd r⟩) (fun U U U U U U U U U U U U U U q=>nB q) (fun U U U U U U U U U q=>nB q) (fun U U U U U U U U U U U U U U U q=>nB q) (fun U=>⟨_,.nil⟩)
  fun v vs x l U U i j q=>by
   have q:=zA2 q;obtain ⟨as,r⟩:=i q.1;obtain ⟨bs,rs⟩:=j q.2;exact ⟨_,.cons r rs⟩
theorem Rp.reads (r:Rp g bad h v x) (q:x.canLay0=true):∃ as,Reads h v x as:=(oQ (vs:=[]) (l:=[])).1 r q
@[elab_as_elim] theorem Rp.none_elim {C:Value->Prop} (r:Rp g bad h v .none) (k:C .none):C v:=by cases r; exact k
@[elab_as_elim] theorem Rp.bool_elim {C:Value->Prop} {b:Bool} (r:Rp g bad h v (.bool b)) (k:C (.bool b)):C v:=by cases r; exact k
@[elab_as_elim] theorem Rp.int_elim {C:Value->Prop} {i:Int} (r:Rp g bad h v (.int i)) (k:∀ t,C (.int i t)):C v:=by cases r; exact k _
@[elab_as_elim] theorem Rp.str_elim {C:Value->Prop} {x:Str} (r:Rp g bad h v (.str x)) (k:∀ t,C (.str x t)):C v:=by cases r with | str _ t=>exact k t
@[elab_as_elim] theorem Rp.list_elim {C:Value->Prop} (r:Rp g bad h v (.list l)) (k:∀ a (o:Obj) vs n,¬ bad a->h.get? a=some o->o.cls=.type "list"/\o.dict=Option.none->o.data=.seq vs n->RpAll g bad h vs.toList l->C (.ref a)):C v:=by
 cases r with | list hb ha hc hd hl=>exact k _ _ _ _ hb ha hc hd hl
@[elab_as_elim] theorem Rp.tuple_elim {C:Value->Prop} (r:Rp g bad h v (.tuple l)) (k:∀ a (o:Obj) vs n,¬ bad a->h.get? a=some o->o.cls=.type "tuple"->o.data=.seq vs n->RpAll g bad h vs.toList l->C (.ref a)):C v:=by
 cases r with | tuple hb ha hc hd hl=>exact k _ _ _ _ hb ha hc hd hl
def zK (q:qG Eg=true) (d:dkV Eg=true):False:=by
 cases Eg with
 | nil=>exact nB q
 | cons p r=>
  obtain ⟨x,y⟩:=p;cases x with
  | none=>exact nomatch (Qa.mp d _ (.head _):dJ .none=true)
  | _=>exact nB q
@[elab_as_elim] theorem Rp.inst_elim {C:Value->Prop} {Eg:List (V×V)} (r:Rp g bad h v (.dict Eg)) (q:qG Eg=true) (k:∀ a d o ws,¬ bad a->¬ bad d->h.get? a=some (instObj g.C d)->h.get? d=some o->d6 g o ws->uE a ws (Eg.map (·.2))->RpAll g bad h ws (Eg.map (·.2))->C (.ref a)):C v:=by
 cases r with
 | inst hb Gc ha hd hf hn _ e hl=>subst e; exact k _ _ _ _ hb Gc ha hd hf hn hl
 | exc=>(injection q; done)
 | dict _ _ _ _ _ he=>exact (zK q he.1).elim
@[elab_as_elim] theorem Rp.dict_elim {C:Value->Prop} {Eg:List (V×V)} (r:Rp g bad h v (.dict Eg)) (q:dkV Eg=true) (k:∀ a (o:Obj) es n,¬ bad a->a≠sysModules->h.get? a=some o->o.ExactDict->o.data=.dict es n->DOk g.w Eg es->RpAll g bad h (es.toList.map (·.key)) (Eg.map (·.1))->RpAll g bad h (es.toList.map (·.val)) (Eg.map (·.2))->C (.ref a)):C v:=by
 cases r with
 | inst _ _ _ _ _ _ q'=>exact (zK q' q).elim
 | exc=>(injection q; done)
 | dict hb hm ha hc hd he e1 e2 r1 r2=>subst e1 e2; exact k _ _ _ _ hb hm ha hc hd he r1 r2
end
end
inductive Pl where
 | ns (a:Addr) (x:Str)
 | cell (c:Addr)
 | off
noncomputable def Pl.addr:Pl->Option Addr
 | .ns a _=>some a
 | .cell c=>some c
 | .off=>none
noncomputable def bf (h:Heap):Pl->Option Value->Prop
 | .ns a x,v=>∃ m,h.Ns a m/\m x=v
 | .cell c,v=>h.IsCell c v
 | .off,v=>v=none
structure Fx where
 g:Gl
 A:Around
 env:Env
 ρ:List (Str×Nat)
 pl:Nat->Pl
 Mo:Addr->Prop
 nf:Nat
 ns:Nat
 d:Nat
 hm:Bool
 nw:Bool
structure Ct where
 fx:Fx
 oa:Nat->Option Addr
 G:Gs
def Ct.own (Φ:Ct) (a:Addr):Prop:=(∃ k,(Φ.fx.pl k).addr=some a)\/∃ k,Φ.oa k=some a
def Ct.bad (Φ:Ct) (a:Addr):Prop:=Φ.fx.Mo a\/Φ.own a
inductive OwnLAt (g:Gl) (bad:Addr->Prop) (h:Heap) (a:Addr) (u:Value) (l:List V):Prop
 | mk (e:u=.ref a) (o:Obj) (vs:Array Value) (n:Nat) (ho:h.get? a=some o) (hc:o.cls=.type "list"/\o.dict=none) (hd:o.data=.seq vs n) (hl:RpAll g bad h vs.toList l):OwnLAt g bad h a u l
inductive OwnDAt (g:Gl) (bad:Addr->Prop) (h:Heap) (a:Addr) (u:Value) (l:List (V×V)):Prop
 | mk (e:u=.ref a) (o:Obj) (es:Array DictEntry) (n:Nat) (ho:h.get? a=some o) (hc:o.ExactDict) (hd:o.data=.dict es n) (hk:DOk g.w l es) (r1:RpAll g bad h (es.toList.map (·.key)) (l.map (·.1))) (r2:RpAll g bad h (es.toList.map (·.val)) (l.map (·.2))):OwnDAt g bad h a u l
inductive OwnIAt (g:Gl) (bad:Addr->Prop) (h:Heap) (a:Addr) (u:Value) (l:List V):Prop
 | mk (b:Addr) (o:Obj) (ws:List Value) (e:u=.ref b) (eb:b=a+1) (nb:¬ bad b) (hb:h.get? b=some (instObj g.C a)) (ho:h.get? a=some o) (hf:d6 g o ws) (hn:uE b ws l) (hl:RpAll g bad h ws l):OwnIAt g bad h a u l
noncomputable def gE (g:Gl) (bad:Addr->Prop) (h:Heap) (a:Addr) (u:Value):Slot->Prop
 | .ownL l=>OwnLAt g bad h a u l
 | .ownD l=>OwnDAt g bad h a u l
 | .ownI l=>OwnIAt g bad h a u l
 | _=>False
noncomputable def d4 (g:Gl) (bad:Addr->Prop) (h:Heap) (oak:Option Addr) (v:Option Value):Slot->Prop
 | .unset=>oak=none/\v=none
 | .v x=>oak=none/\∃ u,v=some u/\Rp g bad h u x
 | sl=>∃ a u,oak=some a/\v=some u/\gE g bad h a u sl
def gR (h0 h:Heap) (l:List Env):Prop:=∀ env∈l,env.scope.kind≠.module/\∃ L o,env.frame=some L/\h0.get? L=none/\h.get? L=some o/\o.cls=.type "frame"/\∀ vs,o.data≠.fields vs
def fD (g:Gl) (A:Around) (h:Heap):Prop:=∃ l,A.frames=some l/\gR g.h0 h l
inductive ExcAt (h:Heap) (lo:Heap) (e:Addr) (cls fl:Value):Prop
 | mk (oe:Obj) (vs:Array Value):h.get? e=some oe->oe.cls=cls->oe.dict=none->oe.data=.fields vs->lo.get? e=none->1 < vs.size ->
  (vs[1]?=some .none\/∃ T oT ts,vs[1]?=some (.ref T)/\T≠e/\lo.get? T=none/\h.get? T=some oT/\oT.data=.fields ts/\ts[3]?=some fl)->ExcAt h lo e cls fl
theorem fD.of (x:fD g A h) (e:A.frames=some l):gR g.h0 h l:=x.elim fun U q=>Option.some.inj (q.1.symm.trans e)▸q.2
theorem ExcAt.el {h lo:Heap} {e:Addr} {cls fl:Value} {Z:Prop} (x:ExcAt h lo e cls fl) (k:∀ oe vs,h.get? e=some oe->oe.cls=cls->oe.dict=none->oe.data=.fields vs->lo.get? e=none->Z):Z:=by
 cases x with | mk oe vs a b c d e=>exact k oe vs a b c d e
inductive CallX (g:Gl) (s:Shared) (K:V->Prop) (x:Value) (s':Shared):Prop
 | mk:Base g s'->aI s.heap s'.heap->∀ c e,x=.ref e->c < g.nc->K (fK c)->ExcAt s'.heap s.heap e (.ref (g.cls c)) .none->CallX g s K x s'
inductive CallP (g:Gl) (bad:Addr->Prop) (f:Nat) (s:Shared) (K:V->Prop) (v:Value) (s':Shared):Prop
 | mk:Base g s'->aI s.heap s'.heap->∀ y,K y->noX y=true->Rp g bad s'.heap v y->(g.newf f=true->lR s.heap v)->CallP g bad f s K v s'
def nX (hm:Bool) (A:Around):Prop:=hm=false->A.handled=none
def ft (g:Gl) (cf:ai) (d:Nat):Prop:=∀ hm f args K A s bad vals,cf f args K->nX hm A->(hm=true->g.safe f=true)->A.depth+2 * d < 990->A.units+4 * d+100 < cLine->Base g s->fD g A s.heap->(∀ a,bad a->aW s.heap a)->(∀ a,bad a->g.h0.get? a=none)->RpAll g bad s.heap vals args ->
 wpAny (model g.prog g.w) A (call (.ref (g.fn f)) vals) (CallP g bad f s K) (CallX g s K) s
structure ClsOk (g:Gl):Prop where
 hga:findIn g.K (.ref g.C) "__getattribute__"=some (some (.builtin "object.__getattribute__"))
 hgk:findIn g.K (.ref g.C) "__getattr__"=some none
 hsa:findIn g.K (.ref g.C) "__setattr__"=some (some (.builtin "object.__setattr__"))
 over:plainOver g.K g.C=true
 hdict:(clsIn g.K g.C).any (·.hasDict)=true
 flds:∀ x∈g.flds,findIn g.K (.ref g.C) x=some none
 makes:makesIn g.K g.C=true
 nodup:g.flds.Nodup
 few:g.flds.length<=1000
inductive RaiseOk (g:Gl) (c:Nat):Prop
 | mk (nm q:Str) (N:Addr) (bs bm Mn:List Value) (hdct:Bool) (sn:List Str) (sub:List Value) (ab:Bool) (col:Option Bool) (dd:Option Addr) (k0 k1 k2 k3 k5:Option Value) (B newId Gu:String) (mN:Str->Option Value) (f0:ExcBaseFacts B newId Gu Mn) (f1:bm.contains (.type "BaseException")=true) (f2:mN "__init__"=none) (f3:g.h0.get? (g.cls c)=some (excClassObj nm q (g.cls c) N bs bm hdct sn sub ab col dd k0 k1 k2 k3 k5 newId)) (f4:g.h0.Ns N mN) (f5:OwnTail g.h0 Mn bm):RaiseOk g c
def m6 (g:Gl) (c c':Nat) (b:Bool):Prop:=∀ (A:Around) (E:Value->Shared->Prop) (Q:Bool->Shared->Prop) (s:Shared) (e:Addr) (o:Obj),aL g.h0 s.heap->s.heap.get? e=some o->o.cls=.ref (g.cls c)->Q b s ->
 wpAny (model g.prog g.w) A (excMatches (.ref e) (.ref (g.cls c'))) Q E s
def Ad (g:Gl) (c:Nat) (cv:Value) (b:Bool):Prop:=∀ (A:Around) (E:Value->Shared->Prop) (Q:Value->Shared->Prop) (s:Shared) (e:Addr) (o:Obj),aL g.h0 s.heap->s.heap.get? e=some o->o.cls=.ref (g.cls c)->o.dict=none->(∃ vs,o.data=.fields vs) ->
 (∀ n,Q (.bool b) { s with toks:=n })->wpAny (model g.prog g.w) A (call (.builtin "isinstance") [.ref e,cv]) Q E s
noncomputable def iJ (g:Gl) (c:Nat):Value:=if c=g.nc then .type "ValueError" else .ref (g.cls c)
structure Ground (g:Gl):Prop where
 main:g.h0.Ns mainGlobals g.mg
 blt:g.h0.Ns builtinsNs g.mb
 nolim:g.h0.NoLimit
 sysm:aW g.h0 sysModules
 frag:g.K.In g.h0
 cls:ClsOk g
 fns:∀ x f,g.fns.lookup x=some f->g.mg x=some (.ref (g.fn f))
 cons:∀ x v,g.cons.lookup x=some v->∃ u,g.mg x=some u/\∀ (bad:Addr->Prop) h,aL g.h0 h->(∀ a,bad a->g.h0.get? a=none)->Rp g bad h u v
 blts:∀ x v,bI.lookup x=some v->g.mg x=none/\g.mb x=some v
 clss:∀ x c,g.clss.lookup x=some c->c < g.nc/\g.mg x=some (.ref (g.cls c))
 raises:∀ c,c < g.nc->RaiseOk g c
 catches:∀ c c',c < g.nc->c' < g.nc->m6 g c c' (g.P.sup c c')
 isi:∀ c c',c < g.nc->c'<=g.nc->Ad g c (iJ g c') (g.P.sup c c')
class Hm (fx:Fx):Prop where
 no:fx.hm=false
structure FxOk (fx:Fx):Prop where
 gr:Ground fx.g
 hand:nX fx.hm fx.A
 kind:fx.env.scope.kind=.function
 globals:fx.env.globals=mainGlobals
 builtins:fx.env.builtins=builtinsNs
 vis:∀ x k,fx.ρ.lookup x=some k->(fx.env.kindOf x=some .local/\fx.pl k=.ns fx.env.locals x)\/((fx.env.kindOf x=some .cell\/fx.env.kindOf x=some .free)/\∃ c,fx.env.cells.lookup x=some c/\fx.pl k=.cell c)
 inj:∀ k j,fx.pl k=fx.pl j->fx.pl k≠.off->k=j
 apart:∀ k j a x c,fx.pl k=.ns a x->fx.pl j=.cell c->a≠c
 offs:∀ k,fx.nf<=k->fx.pl k=.off
 nfs:fx.nf<=fx.ns
 room:fx.A.depth+2 * fx.d < 990
 units:fx.A.units+4 * fx.d+100 < cLine
 call:ft fx.g (ao fx.g.P fx.d) fx.d
 mo0:∀ a,fx.Mo a->fx.g.h0.get? a=none
structure Inv (Φ:Ct) (s:Shared):Prop where
 ok:FxOk Φ.fx
 base:Base Φ.fx.g s
 slot:∀ k,∃ v,bf s.heap (Φ.fx.pl k) v/\d4 Φ.fx.g Φ.bad s.heap (Φ.oa k) v (getSlot Φ.G k)
 new:∀ a,Φ.own a->aW s.heap a/\Φ.fx.g.h0.get? a=none/\¬ Φ.fx.Mo a
 inj:∀ k j a,Φ.oa k=some a->Φ.oa j=some a->k=j
 off:∀ k a,Φ.oa k=some a->∀ j,(Φ.fx.pl j).addr≠some a
 gl:Φ.G.length=Φ.fx.ns
 mo:∀ a,Φ.fx.Mo a->aW s.heap a
 fr:fD Φ.fx.g Φ.fx.A s.heap
section
variable {g:Gl} {Φ:Ct} {s s' s₁:Shared} {h h':Heap} {bad EC:Addr->Prop} {α β γ δ:Type}
def vk (k:aI h h') (r:h.Ns a m):h'.Ns a m:=by
 obtain ⟨o,es,n,ho,q⟩:=r;obtain ⟨sl,e,_⟩:=k a o ho;exact ⟨_,es,n,e,q⟩
theorem bf.keep (k:aI h h') (r:bf h p v):bf h' p v:=by
 cases p with
 | ns a x=>obtain ⟨m,hn,hv⟩:=r; exact ⟨m,vk k hn,hv⟩
 | cell c=>obtain ⟨o,ho,hd⟩:=r; obtain ⟨sl,e,_⟩:=k c o ho; exact ⟨_,e,hd⟩
 | off=>exact r
theorem gR.keep (f:gR h0 h l) (k:aI h h'):gR h0 h' l:=fun env m=>by
 obtain ⟨hk,L,o,hf,hn,ho,hc,hd⟩:=f env m;obtain ⟨sl,e,_⟩:=k L o ho;exact ⟨hk,L,_,hf,hn,e,hc,hd⟩
theorem fD.keep (f:fD g A h) (k:aI h h'):fD g A h':=f.elim fun l q=>⟨l,q.1,q.2.keep k⟩
theorem gE.map (r:gE g bad h a u sl) (k:cR bad EC h h') (t:∀ o,h.get? a=some o->iK o->h'.get? a=some o):gE g EC h' a u sl:=by
 cases sl with
 | ownL l=>obtain ⟨e,o,vs,n,ho,hc,hd,hl⟩:=r; exact ⟨e,o,vs,n,t o ho (aG hc.1),hc,hd,hl.map k⟩
 | ownD l=>obtain ⟨e,o,es,n,ho,hc,hd,hk,r1,r2⟩:=r; exact ⟨e,o,es,n,t o ho (aG hc.1),hc,hd,hk,r1.map k,r2.map k⟩
 | ownI l=>obtain ⟨b,o,ws,e,eb,nb,hb,ho,hf,hn,hl⟩:=r; exact ⟨b,o,ws,e,eb,(k _ _ hb fb nb).1,(k _ _ hb fb nb).2,t o ho (aG hf.1.1),hf,hn,hl.map k⟩
 | _=>exact r
theorem d4.map (r:d4 g bad h oak v sl) (k:cR bad EC h h') (t:∀ a,oak=some a->∀ o,h.get? a=some o->iK o->h'.get? a=some o):d4 g EC h' oak v sl:=by
 cases sl with
 | unset=>exact r
 | v x=>obtain ⟨e,u,q,rp⟩:=r; exact ⟨e,u,q,rp.map k⟩
 | _=>obtain ⟨a,u,e,q,rp⟩:=r; exact ⟨a,u,e,q,rp.map k (t a e)⟩
theorem Inv.keep (I:Inv Φ s) (B:Base Φ.fx.g s') (k:aI s.heap s'.heap):Inv Φ s' where
 ok:=I.ok
 base:=B
 slot:=fun j=>let ⟨v,r,x⟩:=I.slot j; ⟨v,r.keep k,x.map k.mapK fun a U o e n=>k.get e n⟩
 new:=fun a q=>let ⟨x,y⟩:=I.new a q; ⟨k.live x,y⟩
 inj:=I.inj
 off:=I.off
 gl:=I.gl
 mo:=fun a q=>k.live (I.mo a q)
 fr:=I.fr.keep k
theorem Inv.bad0 (I:Inv Φ s) (b:Φ.bad a):Φ.fx.g.h0.get? a=none:=b.elim (I.ok.mo0 a) fun b=>(I.new a b).2.1
theorem Inv.badLive (I:Inv Φ s) (b:Φ.bad a):aW s.heap a:=b.elim (I.mo a) fun b=>(I.new a b).1
abbrev Ct.wp (Φ:Ct) (t:Sem α) (Q:α->Shared->Prop) (s:Shared):Prop:=∀ E,wpAny (model Φ.fx.g.prog Φ.fx.g.w) Φ.fx.A t Q E s
inductive Post (Φ:Ct) (R:Heap->α->β->Prop) (s:Shared) (K:β->Prop) (a:α) (s':Shared):Prop
 | mk:Base Φ.fx.g s'->aI s.heap s'.heap->∀ y,K y->R s'.heap a y->Post Φ R s K a s'
def EvR (Φ:Ct) (R:Heap->α->β->Prop) (t:Sem α) (d:(β->Prop)->Prop):Prop:=∀ K s,d K->Inv Φ s->Φ.wp t (Post Φ R s K) s
noncomputable abbrev Ct.rp (Φ:Ct):Heap->Value->V->Prop:=Rp Φ.fx.g Φ.bad
noncomputable abbrev Ct.rps (Φ:Ct):Heap->List Value->List V->Prop:=RpAll Φ.fx.g Φ.bad
abbrev Ev (Φ:Ct) (t:Sem Value) (d:(V->Prop)->Prop):Prop:=EvR Φ Φ.rp t d
abbrev EvT (Φ:Ct) (t:Sem Bool) (d:(Bool->Prop)->Prop):Prop:=EvR Φ (fun U=>Eq) t d
abbrev EvL (Φ:Ct) (t:Sem (List Value)) (d:(List V->Prop)->Prop):Prop:=EvR Φ Φ.rps t d
def iy (Φ:Ct) (s:Shared) (K:V->Prop) (v:Value) (s':Shared):Prop:=Post Φ (Rp Φ.fx.g Φ.bad) s K v s'/\lR s.heap v
def EvN (Φ:Ct) (t:Sem Value) (d:(V->Prop)->Prop):Prop:=∀ K s,d K->Inv Φ s->Φ.wp t (iy Φ s K) s
theorem Post.lift {R:Heap->α->β->Prop} {K:β->Prop} (p:Post Φ R s₁ K a s') (k:aI s.heap s₁.heap):Post Φ R s K a s':=by
 cases p with | mk B k' y ky r=>exact ⟨B,k.trans k',y,ky,r⟩
theorem iy.lift {K:V->Prop} (p:iy Φ s₁ K v s') (k:aI s.heap s₁.heap):iy Φ s K v s':=⟨p.1.lift k,p.2.le fun U=>k.live⟩
def jR (Φ:Ct) (n:Bool) (s:Shared) (K:V->Prop) (v:Value) (s':Shared):Prop:=Post Φ (Rp Φ.fx.g Φ.bad) s K v s'/\(n=true->lR s.heap v)
def EvC (Φ:Ct) (n:Bool) (t:Sem Value) (d:(V->Prop)->Prop):Prop:=∀ K s,d K->Inv Φ s->Φ.wp t (jR Φ n s K) s
theorem jR.lift {K:V->Prop} (p:jR Φ n s₁ K v s') (k:aI s.heap s₁.heap):jR Φ n s K v s':=⟨p.1.lift k,fun q=>(p.2 q).le fun U=>k.live⟩
theorem EvC.ev (x:EvC Φ n t d):Ev Φ t d:=fun K s hd I E=>wpAny_mono (x K s hd I E) (fun U U p=>p.1) fun U U z=>z
theorem EvC.evN (x:EvC Φ n t d) (h:n=true):EvN Φ t d:=fun K s hd I E=>wpAny_mono (x K s hd I E) (fun U U p=>⟨p.1,p.2 h⟩) fun U U z=>z
theorem EvN.ev (x:EvN Φ t d):Ev Φ t d:=fun K s hd I E=>wpAny_mono (x K s hd I E) (fun U U p=>p.1) fun U U z=>z
theorem EvR.bind {R:Heap->α->β->Prop} {R':Heap->γ->δ->Prop} {f:α->Sem γ} {d:(β->Prop)->Prop} {K₁:β->Prop} {K:δ->Prop} (x:EvR Φ R t d) (hd:d K₁) (I:Inv Φ s)
  (y:∀ a b s₁,Inv Φ s₁->aI s.heap s₁.heap->K₁ b->R s₁.heap a b->Φ.wp (f a) (Post Φ R' s₁ K) s₁):Φ.wp (t >>= f) (Post Φ R' s K) s:=fun E=>
 zC1 (wpAny_mono (x K₁ s hd I E) (fun a s₁ ⟨B,k,b,kb,r⟩=>wpAny_mono (y a b s₁ (I.keep B k) k kb r E) (fun U U p=>p.lift k) fun U U z=>z) fun U U z=>z)
theorem EvR.bindC {R:Heap->α->β->Prop} {f:α->Sem Value} {d:(β->Prop)->Prop} {K₁:β->Prop} {K:V->Prop} (x:EvR Φ R t d) (hd:d K₁) (I:Inv Φ s)
  (y:∀ a b s₁,Inv Φ s₁->aI s.heap s₁.heap->K₁ b->R s₁.heap a b->Φ.wp (f a) (jR Φ n s₁ K) s₁):Φ.wp (t >>= f) (jR Φ n s K) s:=fun E=>
 zC1 (wpAny_mono (x K₁ s hd I E) (fun a s₁ ⟨B,k,b,kb,r⟩=>wpAny_mono (y a b s₁ (I.keep B k) k kb r E) (fun U U p=>p.lift k) fun U U z=>z) fun U U z=>z)
theorem EvR.holding (x:EvR Φ R t d):EvR Φ R (holding vs t) d:=fun K s hd I E=>wpAny_holding (x K s hd I E)
theorem EvR.pure {R:Heap->α->β->Prop} {K:β->Prop} (I:Inv Φ s) (k:K b) (r:R s.heap a b):Φ.wp (pure a) (Post Φ R s K) s:=fun E=>zC2 ⟨I.base,.refl _,b,k,r⟩
def bi (x:Φ.wp (t ()) Q s):Φ.wp (standAt p >>= t) Q s:=fun E=>(bSt (x E))
structure Grown (s s':Shared):Prop where
 stays:aL s.heap s'.heap
 os:s'.os=s.os
 gens:s'.gens=s.gens
theorem Grown.keeps (x:Grown s s'):aI s.heap s'.heap:=x.stays.keeps
theorem Grown.refl (s:Shared):Grown s s:=⟨fun U U e=>e,rfl,rfl⟩
theorem Grown.trans (x:Grown s₁ Ee) (y:Grown Ee EO):Grown s₁ EO:=⟨x.stays.trans y.stays,y.os.trans x.os,y.gens.trans x.gens⟩
theorem Grown.toks (s:Shared) (n:Nat):Grown s { s with toks:=n }:=⟨fun U U e=>e,rfl,rfl⟩
theorem Grown.push (s:Shared) (o:Obj) (n:Nat):Grown s { s with heap:=s.heap.push o,toks:=n }:=⟨az _ _,rfl,rfl⟩
theorem Base.grown (B:Base g s) (x:Grown s s'):Base g s':=⟨B.stays.trans x.stays,x.os.trans B.os,x.gens.trans B.gens⟩
abbrev Ct.Gives (Φ:Ct) (s:Shared) (z:V) (v:Value) (s':Shared):Prop:=Grown s s'/\Φ.rp s'.heap v z
def step {R:Heap->α->β->Prop} {K:β->Prop} (I:Inv Φ s) (kz:K z) (h:Φ.wp t (fun a s'=>Grown s s'/\R s'.heap a z) s):Φ.wp t (Post Φ R s K) s:=fun E=>
 wpAny_mono (h E) (fun a s' p=>⟨I.base.grown p.1,p.1.keeps,z,kz,p.2⟩) fun U U z=>z
def ah {o:Option α} {K:α->Prop} {C:Prop} (h:okK o K) (k:∀ z,o=some z->K z->C):C:=by
 cases o with
 | none=>exact h.elim
 | some z=>exact k z rfl h
def b7 {E:Value->Shared->Prop} {Q:Unit->Shared->Prop} (h:Q () s):wpAny M A (release vs keep) Q E s:=by
 unfold release;generalize (vs.filter fun | .ref _=>true | _=>false)=l;induction l with
 | nil=>exact wpAny_pure h
 | cons x r ih=>
  cases r with
  | nil=>exact wpAny_pure h
  | cons y r=>
   unfold release.go;exact zC1 (wpAny_holding (wpAny_point ih))
def dF (x:Φ.wp t Q s):Φ.wp (operate vs t) Q s:=fun E=>by
 unfold PySem.operate;exact zC1 (wpAny_holding (wpAny_mono (x E) (fun a s' p=>zC1 (b7 (wpAny_pure p))) fun U U z=>z))
end
section
variable {Φ:Ct} {s:Shared}
def bO (ok:FxOk Φ.fx) (hx:Φ.fx.ρ.lookup x=some k) (hn:aV x=true) (r:bf s.heap (Φ.fx.pl k) (some v)) (h:Q v s):Φ.wp (eval (.Name x pos) Φ.fx.env) Q s:=fun E=>by
 have hn:=zA2 hn;have h1:=not_eq_true' _▸hn.1;rcases ok.vis x k hx with ⟨hl,hp⟩ | ⟨hl,c,hc,hp⟩
 ·rw [hp] at r;obtain ⟨m,Hv,hv⟩:=r;exact wpAny_Name (wpAny_loadName_local ok.kind hl Hv hv h) h1
 ·rw [hp] at r;rcases hl with hl | hl
  ·exact wpAny_Name (wpAny_loadName_cell ok.kind hl hc r h) h1
  ·exact wpAny_Name (wpAny_loadName_free ok.kind hl hc r h (not_eq_true' _▸hn.2)) h1
def uL (e:y1 G k=some x):getSlot G k=.v x:=by
 unfold y1 at e
 revert e
 cases getSlot G k with
 | v m=>exact fun e=>congrArg Slot.v (Option.some.inj e)
 | _=>exact fun e=>nN e.symm
def Bi {x:Str} {k:Nat} {pos:Pos} (hx:Φ.fx.ρ.lookup x=some k) (hn:aV x=true):Ev Φ (eval (.Name x pos) Φ.fx.env) (okK (y1 Φ.G k)):=fun K s hd I=>ah hd fun y e ky=>by
 obtain ⟨v,pr,so⟩:=I.slot k;rw [uL e] at so;obtain ⟨_,u,rfl,rp⟩:=so;exact bO I.ok hx hn pr ⟨I.base,.refl _,y,ky,rp⟩
def oW (hx:Φ.fx.ρ.lookup x=some k) (hn:aV x=true) (I:Inv Φ s) (e:getSlot Φ.G k=sl) (ho:∀ {oak v},d4 Φ.fx.g Φ.bad s.heap oak v sl->∃ a u,oak=some a/\v=some u/\gE Φ.fx.g Φ.bad s.heap a u sl)
  (h:∀ a u,Φ.oa k=some a->gE Φ.fx.g Φ.bad s.heap a u sl->Q u s):Φ.wp (eval (.Name x pos) Φ.fx.env) Q s:=by
 obtain ⟨v,pr,so⟩:=I.slot k;rw [e] at so;obtain ⟨a,u,ha,rfl,oa⟩:=ho so;exact bO I.ok hx hn pr (h a u ha oa)
end
section
variable {α:Type} {C:V->Prop} {x:V} {z:α}
def bA (e:lI x f=some z) (k:∀ i,f i=some z->C (.int i)):C x:=by
 cases x <;> first | exact k _ e | (injection e; done)
def eL (e:wl x f=some z) (k:∀ t:Str,f t.cps.toList=some z->C (.str t)):C x:=by
 cases x <;> first | exact k _ e | (injection e; done)
def bL (e:dY x f=some z) (k:∀ l,f l=some z->C (.list l)):C x:=by
 cases x <;> first | exact k _ e | (injection e; done)
def tv (e:Di x f=some z) (k:∀ l,f l=some z->C (.tuple l)):C x:=by
 cases x <;> first | exact k _ e | (injection e; done)
def fC (e:cL x f=some z) (k:∀ b,f b=some z->C (.bool b)):C x:=by
 cases x <;> first | exact k _ e | (injection e; done)
end
section
variable {α β:Type}
@[elab_as_elim] theorem some_elim {C:α->Prop} {a b:α} (e:some a=some b) (k:C a):C b:=Option.some.inj e▸k
@[elab_as_elim] theorem if_elim {C:α->Prop} {p:Prop} [Decidable p] {a z:α} (e:(if p then some a else none)=some z) (k:p->C a):C z:=by
 by_cases h:p
 ·rw [if_pos h] at e; exact some_elim e (k h)
 ·rw [if_neg h] at e; (injection e; done)
@[elab_as_elim] theorem ifn_elim {C:α->Prop} {p:Prop} [Decidable p] {a z:α} (e:(if p then none else some a)=some z) (k:¬ p->C a):C z:=by
 by_cases h:p
 ·rw [if_pos h] at e; (injection e; done)
 ·rw [if_neg h] at e; exact some_elim e (k h)
def bo {C:Prop} {p:Prop} [Decidable p] {a:Option α} {z:α} (e:(if p then a else none)=some z) (k:p->a=some z->C):C:=by
 by_cases h:p
 ·rw [if_pos h] at e; exact k h e
 ·rw [if_neg h] at e; (injection e; done)
@[elab_as_elim] theorem map_elim {C:β->Prop} {f:α->β} {o:Option α} {z:β} (e:o.map f=some z) (k:∀ a,o=some a->C (f a)):C z:=by
 cases o with
 | none=>(injection e; done)
 | some a=>exact some_elim e (k a rfl)
@[elab_as_elim] theorem fit_elim {C:β->Prop} {l:List α} {a z:β} (e:dw l a=some z) (k:l.length<=am->C a):C z:=if_elim e k
end
def cE (h:n<=am):n<=sizeLine:=zB1 h (by decide)
section
variable {Φ:Ct} {s:Shared} {v u:Value} {x y z:V}
theorem Inv.fresh (I:Inv Φ s):¬ Φ.bad s.heap.objs.size:=fun q=>by obtain ⟨o,e⟩:=I.badLive q; rw [ak] at e; (injection e; done)
theorem Inv.room (I:Inv Φ s):Φ.fx.A.units+100 < cLine:=by exact Q1 (add_le_add_right (Q3 _ _) _) I.ok.units
def gW (I:Inv Φ s) (r:Φ.rps s.heap vs l):Φ.Gives s (.list l) (.ref s.heap.objs.size) { s with heap:=s.heap.push { cls:=.type "list",data:=.seq vs.toArray n },toks:=tk }:=
 ⟨Grown.push _ _ _,.list I.fresh (Q7 _ rfl) ⟨rfl,rfl⟩ rfl (r.keep (dL _ _))⟩
def fA (I:Inv Φ s) (r:Φ.rps s.heap vs l):Φ.Gives s (.tuple l) (.ref s.heap.objs.size) { s with heap:=s.heap.push { cls:=.type "tuple",data:=.seq vs.toArray n },toks:=tk }:=
 ⟨Grown.push _ _ _,.tuple I.fresh (Q7 _ rfl) rfl rfl (r.keep (dL _ _))⟩
def BQ {b:Int} (h:b.natAbs<=1000000):b < 2 ^ 64:=Int.lt_of_le_of_lt le_natAbs (Int.lt_of_le_of_lt (ofNat_le.mpr h) (by decide))
def Dx (h:b.natAbs<=1000000):-2 ^ 64 < b:=Int.neg_lt_of_neg_lt (BQ ((Int.natAbs_neg b).symm▸h))
def tQ (h:b.natAbs<=1000000\/a.natAbs<=1000000):IntMulOk a b:=by
 rcases h with h | h
 ·exact .of_right (intBits_le_64 (Dx h) (BQ h))
 ·exact .of_left (intBits_le_64 (Dx h) (BQ h))
def iX (x:Str):(⟨x.cps.toList.toArray⟩:Str)=x:=by cases x; simp
theorem Rp.text {g:Gl} {bad:Addr->Prop} {h:Heap} {x:Str} {l:List Nat} {t:Tok} (e:x.cps.toList=l):Rp g bad h (.str x t) (text l):=by
 subst e; unfold Mine.text; rw [iX]; exact .str x t
def qU (hz:(a.cps.toList++b.cps.toList).length<=am):Φ.wp (binaryOp .Add (.str a t) (.str b t')) (Φ.Gives s (text (a.cps.toList++b.cps.toList))) s:=fun E=>by
 refine P.add_str ?_;split
 ·rename_i h0;have:a.cps.toList=[]:=length_eq_zero_iff.mp (length_toList.trans (eq_of_beq h0));exact ⟨.refl _,.text (by rw [this]; rfl)⟩
 ·split
  ·rename_i h0;have:b.cps.toList=[]:=length_eq_zero_iff.mp (length_toList.trans (eq_of_beq h0));exact ⟨.refl _,.text (by rw [this,append_nil])⟩
  ·refine ⟨?_,.toks _ _,.text toList_append⟩;refine (?_:(_++_:Array Nat).size<=sizeLine);rw [zB5,zB3,zB3] at hz;rw [size_append]; exact cE hz
def oE (I:Inv Φ s) (hz:(l++m).length<=am) (r1:Φ.rp s.heap v (.list l)) (r2:Φ.rp s.heap u (.list m)):Φ.wp (binaryOp .Add v u) (Φ.Gives s (.list (l++m))) s:=fun E=>by
 refine r1.list_elim fun a1 o1 Gn n1 U FX LQ EY hl1=>r2.list_elim fun a2 o2 Gm n2 U G8 G6 EP hl2=>?_;obtain ⟨cls,dd,data,sl⟩:=o1;obtain ⟨Mm,KW,Kq,IY⟩:=o2;obtain ⟨rfl,rfl⟩:=LQ;obtain ⟨rfl,rfl⟩:=G6;subst EY;subst EP;refine concat_meets ⟨_,FX,rfl⟩ ⟨_,G8,rfl⟩ noFill_list_add seq_list_add PySem.F.slot_list_add PySem.F.entry_list_add (PySem.F.args_list_add_2 _ _) (list_addW a1 a2 Gn Gm n1 n2 _ _ sl IY ?_) ⟨FX,G8,?_⟩
 ·have:=(hl1.append hl2).length;rw [zB5,zB3,zB3] at this;rw [this]; exact cE hz
 ·have q:=gW (n:=0) (tk:=s.toks) I (hl1.append hl2);rw [show (Gn.toList++Gm.toList).toArray=Gn++Gm by simp] at q;exact q
def lZ (I:Inv Φ s) (hz:(l++m).length<=am) (r1:Φ.rp s.heap v (.tuple l)) (r2:Φ.rp s.heap u (.tuple m)):Φ.wp (binaryOp .Add v u) (Φ.Gives s (.tuple (l++m))) s:=fun E=>by
 refine Rp.tuple_elim (C:=fun v=>Φ.rp s.heap v (.tuple l)->wpAny (model Φ.fx.g.prog Φ.fx.g.w) Φ.fx.A (binaryOp .Add v u) (Φ.Gives s (.tuple (l++m))) E s) r1 (fun a1 o1 Gn n1 U FX LQ EY hl1 r1=>?_) r1;refine Rp.tuple_elim (C:=fun u=>Φ.rp s.heap u (.tuple m)->wpAny (model Φ.fx.g.prog Φ.fx.g.w) Φ.fx.A (binaryOp .Add (.ref a1) u) (Φ.Gives s (.tuple (l++m))) E s) r2 (fun a2 o2 Gm n2 U G8 G6 EP hl2 r2=>?_) r2;obtain ⟨cls,dd,data,sl⟩:=o1;obtain ⟨Mm,KW,Kq,IY⟩:=o2;subst LQ;subst G6;subst EY;subst EP;have len:=(hl1.append hl2).length;replace len:=length_toList▸length_toList▸length_append▸len;by_cases c0:Gn.isEmpty=true
 ·have:Gn.toList=[]:=by simpa using c0
  have hl:l=[]:=length_eq_zero_iff.mp (by rw [<- hl1.length,this]; rfl);subst hl;exact concat_meets ⟨_,FX,rfl⟩ ⟨_,G8,rfl⟩ noFill_tuple_add seq_tuple_add PySem.F.slot_tuple_add PySem.F.entry_tuple_add (PySem.F.args_tuple_add_2 _ _) (tuple_addW0 a1 a2 Gn Gm n1 n2 dd KW sl IY c0) ⟨FX,G8,.refl _,r2⟩
 ·by_cases c1:Gm.isEmpty=true
  ·have:Gm.toList=[]:=by simpa using c1
   have hl:m=[]:=length_eq_zero_iff.mp (by rw [<- hl2.length,this]; rfl);subst hl;rw [append_nil];exact concat_meets ⟨_,FX,rfl⟩ ⟨_,G8,rfl⟩ noFill_tuple_add seq_tuple_add PySem.F.slot_tuple_add PySem.F.entry_tuple_add (PySem.F.args_tuple_add_2 _ _) (tuple_addW1 a1 a2 Gn Gm n1 n2 dd KW sl IY c0 c1) ⟨FX,G8,.refl _,r1⟩
  ·refine concat_meets ⟨_,FX,rfl⟩ ⟨_,G8,rfl⟩ noFill_tuple_add seq_tuple_add PySem.F.slot_tuple_add PySem.F.entry_tuple_add (PySem.F.args_tuple_add_2 _ _) (tuple_addW2 a1 a2 Gn Gm n1 n2 dd KW sl IY c0 c1 (by rw [len]; exact cE hz)) ⟨FX,G8,?_⟩;have q:=fA (n:=0) (tk:=s.toks) I (hl1.append hl2);rw [show (Gn.toList++Gm.toList).toArray=Gn++Gm by simp] at q;exact q
def BF (e:DD x y=some z) (I:Inv Φ s) (r1:Φ.rp s.heap v x) (r2:Φ.rp s.heap u y):Φ.wp (binaryOp .Add v u) (Φ.Gives s z) s:=by
 cases x with
 | int a=>exact bA (C:=fun y=>Φ.rp s.heap u y->Φ.wp (binaryOp .Add v u) (Φ.Gives s z) s) e (fun b e r2=>some_elim e (r1.int_elim fun t=>r2.int_elim fun t' E=>PyProof.Rows.add_int ⟨.toks _ _,.int _ _⟩)) r2
 | str a=>exact eL (f:=fun b=>dw (a.cps.toList++b) (text (a.cps.toList++b))) (C:=fun y=>Φ.rp s.heap u y->Φ.wp (binaryOp .Add v u) (Φ.Gives s z) s) e (fun b e r2=>fit_elim e fun q=>r1.str_elim fun t=>r2.str_elim fun t'=>qU q) r2
 | list l=>exact bL (C:=fun y=>Φ.rp s.heap u y->Φ.wp (binaryOp .Add v u) (Φ.Gives s z) s) e (fun m e r2=>fit_elim e fun q=>oE I q r1 r2) r2
 | tuple l=>exact tv (C:=fun y=>Φ.rp s.heap u y->Φ.wp (binaryOp .Add v u) (Φ.Gives s z) s) e (fun m e r2=>fit_elim e fun q=>lZ I q r1 r2) r2
 | _=>(injection e; done)
def cH {α:Type} {f:Int->Int->Option α} {w:α} {C:Value->Value->Prop} (e:ph x y f=some w) (r1:Φ.rp s.heap v x) (r2:Φ.rp s.heap u y) (k:∀ i j t t',f i j=some w->C (.int i t) (.int j t')):C v u:=
 bA (C:=fun x=>Φ.rp s.heap v x->C v u) e (fun i e r1=>bA (C:=fun y=>Φ.rp s.heap u y->C v u) e (fun j e r2=>r1.int_elim fun t=>r2.int_elim fun t'=>k i j t t' e) r2) r1
def BA {o:Operator} (e:uC o x y=some z) (I:Inv Φ s) (r1:Φ.rp s.heap v x) (r2:Φ.rp s.heap u y):Φ.wp (binaryOp o v u) (Φ.Gives s z) s:=by
 cases o with
 | Add=>exact BF e I r1 r2
 | Sub=>exact cH (C:=fun v u=>Φ.wp (binaryOp .Sub v u) (Φ.Gives s z) s) e r1 r2 fun i j t t' q=>some_elim q fun E=>PyProof.Rows.sub_int ⟨.toks _ _,.int _ _⟩
 | Mult=>exact cH (C:=fun v u=>Φ.wp (binaryOp .Mult v u) (Φ.Gives s z) s) e r1 r2 fun i j t t' q=>if_elim q fun q E=>PyProof.Rows.mul_int ⟨.toks _ _,.int _ _⟩ (tQ q)
 | FloorDiv=>exact cH (C:=fun v u=>Φ.wp (binaryOp .FloorDiv v u) (Φ.Gives s z) s) e r1 r2 fun i j t t' q=>ifn_elim q fun q E=>floordiv_int (fun z=>q (.inl z)) ⟨.toks _ _,.int _ _⟩ (.inl (PyProof.noPylong_small (by omega)))
 | Mod=>exact cH (C:=fun v u=>Φ.wp (binaryOp .Mod v u) (Φ.Gives s z) s) e r1 r2 fun i j t t' q=>ifn_elim q fun q E=>PyProof.Rows.mod_int q ⟨.toks _ _,.int _ _⟩
 | _=>(injection e; done)
def okd (h:dH x=true):x.canLay0=true/\x.depth<=64:=(zA2 h).imp id of_decide_eq_true
def iE (I:Inv Φ s) (h:n<=64):Φ.fx.A.units+1+min m n < cLine:=Q1 (by rw [add_assoc]; exact Q6 (zB1 (Q6 (zB1 (min_le_right m n) h) 1) (by decide:65<=100)) _) I.room
abbrev Is (s:Shared) (c:Bool) (v:Value) (s':Shared):Prop:=s'=s/\v=.bool c
def zV (I:Inv Φ s) (q:(dH x&&dH y)=true) (r1:Φ.rp s.heap v x) (r2:Φ.rp s.heap u y):Φ.wp (compareOp .Eq v u) (Is s (PyData.eqv x y)) s/\Φ.wp (compareOp .NotEq v u) (Is s (!PyData.eqv x y)) s:=
 have q:=zA2 q;have h1:=okd q.1;have h2:=okd q.2
 (r1.reads h1.1).elim fun U p1=>(r2.reads h2.1).elim fun U p2=>have m:=Q1 (by exact add_le_add_right (Q3 _ _) _) (iE I (m:=x.depth) h2.2); ⟨fun E=>SeqAt.compareEq_reads p1 p2 h1.1 h2.1 m ⟨rfl,rfl⟩,fun E=>SeqAt.compareNe_reads p1 p2 h1.1 h2.1 m ⟨rfl,rfl⟩⟩
def zH (r:Φ.rp s.heap v x):Φ.wp (compareOp .Is v .none) (Is s (isNone x)) s/\Φ.wp (compareOp .IsNot v .none) (Is s (!isNone x)) s:=by
 cases r with
 | none=>exact ⟨fun E=>is_none_gen ⟨rfl,rfl⟩,fun E=>isnot_none_gen ⟨rfl,rfl⟩⟩
 | _=>exact ⟨fun E=>is_none_ne nofun ⟨rfl,rfl⟩,fun E=>isnot_none_ne nofun ⟨rfl,rfl⟩⟩
def tR (e:a.cps.toList=[c]):Φ.wp (compareOp .In (.str a t) (.str b t')) (Is s (b.cps.toList.elem c)) s/\Φ.wp (compareOp .NotIn (.str a t) (.str b t')) (Is s (!b.cps.toList.elem c)) s:=by
 have f:(!(Builtin.Str.occurrences b a 0 b.length 1).isEmpty)=b.cps.toList.elem c:=by
  rw [<- iX a,e,show (⟨[c].toArray⟩:Str)=⟨#[c]⟩ from rfl,StrLaws.found_one];rw [Bool.eq_iff_iff]; simp
 exact ⟨fun E=>P.in_str ⟨rfl,by rw [f]⟩,fun E=>P.notIn_str ⟨rfl,by rw [f]⟩⟩
def zJ (I:Inv Φ s) (e:inO x y=some c) (r1:Φ.rp s.heap v x) (r2:Φ.rp s.heap u y):Φ.wp (compareOp .In v u) (Is s c) s/\Φ.wp (compareOp .NotIn v u) (Is s (!c)) s:=by
 cases y with
 | str b=>
  have e:wl x (fun s=>match s with | [c]=>some (b.cps.toList.elem c) | _=>none)=some c:=e;refine eL (C:=fun x=>Φ.rp s.heap v x->Φ.wp (compareOp .In v u) (Is s c) s/\Φ.wp (compareOp .NotIn v u) (Is s (!c)) s) e (fun a e r1=>?_) r1;split at e
  ·rename_i d q; exact some_elim e (r1.str_elim fun t=>r2.str_elim fun t'=>tR q)
  ·(injection e; done)
 | list l=>
  refine if_elim e fun q=>?_;have q:=zA2 q;have h1:=okd q.1;have h2:=okd q.2;obtain ⟨_,p1⟩:=r1.reads h1.1;obtain ⟨_,p2⟩:=r2.reads h2.1;exact ⟨fun E=>SeqAt.in_list_reads p2 p1 h2.1 h1.1 (iE I h1.2) ⟨rfl,rfl⟩,fun E=>SeqAt.notIn_list_reads p2 p1 h2.1 h1.1 (iE I h1.2) ⟨rfl,rfl⟩⟩
 | tuple l=>
  refine if_elim e fun q=>?_;have q:=zA2 q;have h1:=okd q.1;have h2:=okd q.2;obtain ⟨_,p1⟩:=r1.reads h1.1;obtain ⟨_,p2⟩:=r2.reads h2.1;exact ⟨fun E=>SeqAt.in_tuple_reads p2 p1 h2.1 h1.1 (iE I h1.2) ⟨rfl,rfl⟩,fun E=>SeqAt.notIn_tuple_reads p2 p1 h2.1 h1.1 (iE I h1.2) ⟨rfl,rfl⟩⟩
 | _=>(injection e; done)
def rD {o:CmpOp} {c:Bool} (e:aX o x y=some c) (I:Inv Φ s) (r1:Φ.rp s.heap v x) (r2:Φ.rp s.heap u y):Φ.wp (compareOp o v u) (Is s c) s:=by
 cases o with
 | Eq=>exact if_elim e fun q=>(zV I q r1 r2).1
 | NotEq=>exact map_elim e fun d e=>if_elim (C:=fun d=>Φ.wp (compareOp .NotEq v u) (Is s (!d)) s) e fun q=>(zV I q r1 r2).2
 | Lt=>exact cH (C:=fun v u=>Φ.wp (compareOp .Lt v u) (Is s c) s) e r1 r2 fun i j t t' q=>some_elim q fun E=>P.lt_int ⟨rfl,rfl⟩
 | LtE=>exact cH (C:=fun v u=>Φ.wp (compareOp .LtE v u) (Is s c) s) e r1 r2 fun i j t t' q=>some_elim q fun E=>P.le_int ⟨rfl,rfl⟩
 | Gt=>exact cH (C:=fun v u=>Φ.wp (compareOp .Gt v u) (Is s c) s) e r1 r2 fun i j t t' q=>some_elim q fun E=>P.gt_int ⟨rfl,rfl⟩
 | GtE=>exact cH (C:=fun v u=>Φ.wp (compareOp .GtE v u) (Is s c) s) e r1 r2 fun i j t t' q=>some_elim q fun E=>P.ge_int ⟨rfl,rfl⟩
 | Is=>
  refine if_elim e fun q=>?_;cases y with
  | none=>exact r2.none_elim (zH r1).1
  | _=>(injection q; done)
 | IsNot=>
  refine if_elim e fun q=>?_;cases y with
  | none=>exact r2.none_elim (zH r1).2
  | _=>(injection q; done)
 | In=>exact (zJ I e r1 r2).1
 | NotIn=>exact map_elim e fun d e=>(zJ I e r1 r2).2
end
noncomputable abbrev atK (xs:List (V×Addr×Value)) (k:V):Option (Addr×Value):=@atKey V fM xs k
noncomputable abbrev stK (xs:List (V×Addr×Value)) (k:V) (a:Addr) (v:Value):List (V×Addr×Value):=@storedH V fM xs k a v
abbrev Af (g:Gl) (h:Heap) (d:Addr) (xs:List (V×Addr×Value)):Prop:=@Heap.DictOfH g.prog g.w V fM (jv g.prog g.w) h d xs
noncomputable abbrev enK (g:Gl) (x:V×Addr×Value):DictEntry:=@entryOfKey g.prog g.w V fM (jv g.prog g.w) x
inductive Ent (g:Gl) (bad:Addr->Prop) (h:Heap):List (V×Addr×Value)->List (V×V)->Prop
 | nil:Ent g bad h [] []
 | cons {x y:V} {a:Addr} {v:Value} {xs:List (V×Addr×Value)} {Eg:List (V×V)}:dJ x=true->Rp g bad h (.ref a) x->Rp g bad h v y->Ent g bad h xs Eg->Ent g bad h ((x,a,v) :: xs) ((x,y) :: Eg)
section
variable {g:Gl} {bad EC:Addr->Prop} {h h':Heap} {xs:List (V×Addr×Value)} {Eg:List (V×V)}
def mD (r:Rp g bad h v x) (q:dJ x=true):∃ a,v=.ref a:=by
 cases r with
 | tuple=>exact ⟨_,rfl⟩
 | _=>exact nB q
theorem Ent.of:∀ {Eg:List (V×V)} {es:List DictEntry},dkV Eg=true->es.map (·.hash)=Eg.map (fun p=>wP g.w p.1)->RpAll g bad h (es.map (·.key)) (Eg.map (·.1))->RpAll g bad h (es.map (·.val)) (Eg.map (·.2))->∃ xs,es=xs.map (enK g)/\Ent g bad h xs Eg:=by
 intro Eg;induction Eg with
 | nil=>
  intro es _ e _ _;exact ⟨[],map_eq_nil_iff.mp e,.nil⟩
 | cons p Eg ih=>
  intro es d e r1 r2;obtain ⟨x,y⟩:=p;cases es with
  | nil=>exact nomatch e
  | cons en es=>
   obtain ⟨e1,e2⟩:=zA5 e;cases r1 with
   | cons k1 r1=>cases r2 with
    | cons v1 r2=>
     have d:=zA2 (d:(dJ x&&dkV Eg)=true);obtain ⟨xs,ex,E⟩:=ih d.2 e2 r1 r2;obtain ⟨a,ea⟩:=mD k1 d.1;obtain ⟨hs,ky,vl⟩:=en;obtain rfl:ky=.ref a:=ea;obtain rfl:hs=wP g.w x:=e1;exact ⟨(x,a,vl) :: xs,congrArg (_ :: ·) ex,.cons d.1 k1 v1 E⟩
theorem Ent.back (E:Ent g bad h xs Eg):dkV Eg=true/\xs.map (·.1)=Eg.map (·.1)/\(xs.map (enK g)).map (·.hash)=Eg.map (fun p=>wP g.w p.1)/\RpAll g bad h ((xs.map (enK g)).map (·.key)) (Eg.map (·.1))/\RpAll g bad h ((xs.map (enK g)).map (·.val)) (Eg.map (·.2)):=by
 induction E with
 | nil=>exact ⟨rfl,rfl,rfl,.nil,.nil⟩
 | cons q r1 r2 _ ih=>exact ⟨zA3 ⟨q,ih.1⟩,congrArg (_ :: ·) ih.2.1,congrArg (_ :: ·) ih.2.2.1,.cons r1 ih.2.2.2.1,.cons r2 ih.2.2.2.2⟩
theorem KIs.of (q:dJ x=true) (r:Rp g bad h (.ref a) x):KIs h x a:=⟨q,r.reads (gN q).1⟩
theorem Ent.kis (E:Ent g bad h xs Eg):∀ x∈xs,KIs h x.1 x.2.1:=by
 induction E with
 | nil=>exact fun U m=>nM m
 | cons q r1 r2 _ ih=>exact zA1 ⟨.of q r1,ih⟩
theorem Ent.length (E:Ent g bad h xs Eg):xs.length=Eg.length:=by
 induction E with
 | nil=>rfl
 | cons _ _ _ _ ih=>exact congrArg (· + 1) ih
theorem Ent.map (E:Ent g bad h xs Eg) (k:cR bad EC h h'):Ent g EC h' xs Eg:=by
 induction E with
 | nil=>exact .nil
 | cons q r1 r2 _ ih=>exact .cons q (r1.map k) (r2.map k) ih
theorem Ent.app (E:Ent g bad h xs Eg) (q:dJ x=true) (r1:Rp g bad h (.ref a) x) (r2:Rp g bad h v y):Ent g bad h (xs++[(x,a,v)]) (Eg++[(x,y)]):=by
 induction E with
 | nil=>exact .cons q r1 r2 .nil
 | cons q' s1 s2 _ ih=>exact .cons q' s1 s2 ih
theorem Ent.at (E:Ent g bad h xs Eg) (q:dJ y=true):(atK xs y=none/\qy Eg y=none/\(Eg.any fun p=>PyData.eqv p.1 y)=false)\/∃ p z,atK xs y=some p/\qy Eg y=some z/\(Eg.any fun p=>PyData.eqv p.1 y)=true/\Rp g bad h p.2 z:=by
 induction E with
 | nil=>exact .inl ⟨rfl,rfl,rfl⟩
 | @cons x z a v xs Eg hk r1 r2 _ ih=>
  have e:=mQ hk q;unfold atK atKey qy at ih ⊢;rw [List.find?_cons,List.find?_cons,List.any_cons];cases c:PyData.eqv x y with
  | true=>
   rw [show @decide (x=y) (fM x y)=true from e.symm.trans c];exact .inr ⟨_,z,rfl,rfl,rfl,r2⟩
  | false=>
   rw [show @decide (x=y) (fM x y)=false from e.symm.trans c];exact ih
theorem Ent.put0 (E:Ent g bad h xs Eg) (q:dJ y=true) (r:Rp g bad h v z):Ent g bad h (xs.map (@putAt V fM y v)) (Eg.map fun p=>if PyData.eqv p.1 y=true then (p.1,z) else p):=by
 induction E with
 | nil=>exact .nil
 | @cons x u a v' xs Eg hk r1 r2 _ ih=>
  have e:=mQ hk q;rw [map_cons,map_cons];unfold putAt;refine (?_:Ent g bad h ((@ite _ (x=y) (fM x y) (x,a,v) (x,a,v')) :: _) ((if PyData.eqv x y=true then (x,z) else (x,u)) :: _));by_cases c:x=y
  ·rw [@if_pos _ (fM x y) c,if_pos ((mP x y hk q).mpr c)]; exact .cons hk r1 r ih
  ·rw [@if_neg _ (fM x y) c,if_neg fun z=>c ((mP x y hk q).mp z)]; exact .cons hk r1 r2 ih
theorem Ent.put (E:Ent g bad h xs Eg) (q:dJ y=true) (r1:Rp g bad h (.ref a) y) (r:Rp g bad h v z):Ent g bad h (stK xs y a v) (r9 Eg y z):=by
 unfold r9;rcases E.at q with ⟨e1,_,e2⟩ | ⟨p,_,e1,_,e2,_⟩
 ·rw [e2,if_neg Bool.false_ne_true,show stK xs y a v=_ from @storedH_new V fM _ _ e1 a v]; exact E.app q r1 r
 ·rw [e2,if_pos rfl,show stK xs y a v=_ from @storedH_old V fM _ _ _ e1 a v]; exact E.put0 q r
theorem Inv.room3 (I:Inv Φ s):Φ.fx.A.units+1+2 < cLine:=Q1 (Q6 (by decide:3<=100) _) I.room
abbrev DAt (g:Gl) (bad:Addr->Prop) (h:Heap) (a:Addr) (Eg:List (V×V)):Prop:=OwnDAt g bad h a (.ref a) Eg
theorem DAt.dk (r:DAt g bad h a Eg):∃ xs,Af g h a xs/\Ent g bad h xs Eg:=by
 obtain ⟨_,o,es,n,ho,hc,hd,hk,r1,r2⟩:=r;obtain ⟨xs,e,E⟩:=Ent.of hk.1 hk.2.2 r1 r2;exact ⟨xs,⟨o,es,n,ho,hc,hd,e,E.kis,E.back.2.1▸hk.2.1⟩,E⟩
theorem DAt.of (d:Af g h a xs) (E:Ent g bad h xs Eg):DAt g bad h a Eg:=by
 obtain ⟨o,es,n,ho,hc,hd,e,_,hn⟩:=d;obtain ⟨b1,b2,b3,b4,b5⟩:=E.back;rw [<- e] at b3 b4 b5;exact ⟨rfl,o,es,n,ho,hc,hd,⟨b1,b2▸hn,b3⟩,b4,b5⟩
end
section
variable {prog:Program} {w:World} {A:Around} {E:Value->Shared->Prop} {s:Shared} {I d:Addr} {od:Obj} {es:Array DictEntry} {ep i:Nat}
def xE {Q:Option Value->Shared->Prop} {P:Fin->Shared->Prop} (hh:A.handled=none) (h:∀ h',aL s.heap h'->Q none { s with heap:=h' }) :
  wpAny (model prog w) A.in1 (newExc (.type "StopIteration") [] >>= fun e=>raiseNew e) P (fun e s'=>wpAny (model prog w) A (isInstance e (.type "StopIteration") >>= fun b=>if b=true then pure none else throw e) Q E s') s:=by
 refine zC1 ?_;simp only [newExc,newTuple];refine zC1 (wpAny_newObj_type ?_ (by size_fits));refine wpAny_bind (m:=firstArgMember _ _) (wpAny_of_eq (a:=Value.none) (by first | rfl | (simp only [firstArgMember]; rfl)) ?_);refine wpAny_newObj_type ?_ (by size_fits);refine zC1 (wpAny_handled ?_);refine (show A.in1.handled=none from hh).symm▸?_;refine (bPu (wpAny_throw ?_));refine zC1 (wpAny_isInstance (T:="StopIteration") (b:=true) ⟨_,Q7 _ rfl,rfl⟩ isSubtype_stop ?_);exact zC2 (h _ ((az _ _).trans (az _ _)))
def lE {Q:Option Value->Shared->Prop} (hh:A.handled=none) (FV:s.heap.IsKeyIter I d i es.size ep) (hod:s.heap.get? d=some od) (Fc:od.data=.dict es ep)
  (hQ:∀ e,es[i]?=some e->∀ h',h'.IsKeyIter I d (i+1) es.size ep->SameBut I s.heap h'->Q (some e.key) { s with heap:=h' })
  (hE:es[i]?=none->∀ h',(∀ b o,b≠I->s.heap.get? b=some o->h'.get? b=some o)->Q none { s with heap:=h' }):wpAny (model prog w) A (pyNext (.ref I)) Q E s:=by
 refine (id FV).elim fun o FA=>FA.elim fun ho FM=>FM.elim fun hc hd=>?_
 skip
 refine zC1 (wpAny_attempt (wpAny_callSpecial?_slot (name:=ofString "__next__") FV.typeIs F.slot_dict_keyiterator_next
  (wpAny_call_entry F.slot_dict_keyiterator_next FV.typeIs F.entry_dict_keyiterator_next ?_ (F.args_dict_keyiterator_next_1 _))))
 refine (bPu (zC1 (zC1 ?_)));refine zC1 (wpAny_typeNameOfWhole_keyiter FV.typeIs (zC2 ?_));refine zC1 (wpAny_fieldsOf ho hd ?_);have Fb:Builtin.Dict_items.ownsTuple "dict_keyiterator"=false:=by decide
 rw [Fb];refine bu (c:=(Value.ref d==Value.none)=true) Bool.false_ne_true ((bPu (zC1 (wpAny_dictEntries hod Fc ?_))));refine bu (by simp) ((bPu (zC1 (wpAny_dictEpoch hod Fc ?_))));refine bu (by simp) (zC2 ?_);simp only [show ¬ ((i:Int) < 0) from Int.not_lt.mpr (natCast_nonneg _),if_false,Int.toNat_natCast];cases ei:es[i]? with
 | some e=>
  refine zC1 ?_;refine zC1 (wpAny_typeNameOfWhole_keyiter FV.typeIs (zC2 ?_));refine zC1 (wpAny_isOneOf_keyiter FV.typeIs ?_);refine (?_:wpAny _ _ (setField (.ref I) 1 (rawInt ((i:Int)+1)) >>= _) _ _ s);refine zC1 (wpAny_setField ho hd (by simp) ?_);have JV:(s.heap.update I (mapFields (·.setIfInBounds 1 (rawInt ((i:Int)+1))))).IsKeyIter I d (i+1) es.size ep:=
   ⟨_,get?_update_self _ ho (isFreed_of_fields (data_mapFields hd _)),(Obj.cls_mapFields ..).trans hc,by rw [data_mapFields hd]; simp [rawInt]⟩
  refine zC1 (wpAny_holding ?_);refine zC1 (wpAny_isOneOf_keyiter (s:={ s with heap:=s.heap.update I (mapFields (·.setIfInBounds 1 (rawInt ((i:Int)+1)))) }) JV.typeIs ?_);refine (?_:wpAny _ _ (pure e.key) _ _ _);exact zC2 (zC2 ⟨_,rfl,zC2 (hQ e ei _ JV (SameBut.update ..))⟩)
 | none=>
  refine zC1 ?_;refine zC1 (wpAny_typeNameOfWhole_keyiter FV.typeIs (zC2 ?_));refine (?_:wpAny _ _ (setField (.ref I) 0 .none >>= _) _ _ s);refine zC1 (wpAny_setField ho hd (Nat.zero_lt_succ _) ?_);exact xE hh fun h' k=>hE ei h' fun b o q e=>k b o ((get?_update_other _ _ (Ne.symm q)).trans e)
def pX (hh:A.handled=none) (EA:d≠I) (Fc:od.data=.dict es ep):Walks prog w A I [I,d] [I] es.size (fun i v=>(es.toList.map (·.key))[i]?=some v) (fun i h=>h.IsKeyIter I d i es.size ep/\h.get? d=some od) where
 sub:=fun b m=>by obtain rfl:=zA6 m; exact .head _
 frame:=fun i h h' q k=>⟨q.1.at fun o e=>k I (.head _) o e,k d (.tail _ (.head _)) _ q.2⟩
 item:=fun i s Q E hi q hQ=>lE hh q.1 q.2 Fc (fun e ei h' E6 sb=>hQ e.key h' s.toks (by rw [getElem?_map,Q2,ei]; rfl) ⟨E6,(sb.2 d EA).trans q.2⟩ fun b o m e=>(sb.2 b fun q=>m (q▸.head _)).trans e) fun z=>nomatch (Array.getElem?_eq_getElem hi).symm.trans z
 done:=fun s Q E q hQ=>lE hh q.1 q.2 Fc (fun e ei=>absurd (Array.getElem?_eq_some_iff.mp ei).1 (lt_irrefl _)) fun U h' k=>hQ h' s.toks fun b o m e=>k b o (fun q=>m (q▸.head _)) e
 self:=fun i s Q E q h=>wpAny_pyIter_keyiter q.1 h
def tP (hd:(d==sysModules)=false) (ho:s.heap.get? d=some od) (hx:od.ExactDict) (Fc:od.data=.dict es ep)
  (hQ:Q (.ref s.heap.objs.size) { s with heap:=s.heap.push { cls:=.type "dict_keyiterator",data:=.fields #[.ref d,.int 0 0,.int es.size 0,.int ep 0] } }):wpAny (model prog w) A (pyIter (.ref d)) Q E s:=by
 have hT:s.TypeIs (.ref d) "dict":=⟨od,ho,hx.1⟩;refine wpAny_pyIter_slot hT F.slot_dict_iter (wpAny_call_entry F.slot_dict_iter hT F.entry_dict_iter ?_ (F.args_dict_iter_1 _));refine zC1 (zC1 (wpAny_notOrdered_dict hT ?_));refine (?_:wpAny _ _ (pure (Value.ref d)) _ _ s);refine zC2 ?_;refine (?_:wpAny _ _ (Builtin.Dict.showsAll d >>= _) _ _ s)
 skip
 refine zC1 (bu (by rw [hd]; exact Bool.false_ne_true) (zC2 ?_));refine zC1 (wpAny_dictEntries ho Fc (zC1 (wpAny_dictEpoch ho Fc ?_)));exact zC1 (wpAny_newObj_type (zC2 ⟨_,rfl, "dict_keyiterator",_,⟨_,Q7 _ rfl,rfl⟩,F.slot_dict_keyiterator_next.lookup,hQ⟩))
end
def fo (s:Shared) (a:Value):Prop:=∃ T id,s.TypeIs a T/\typeLookup (.type T) "__getitem__"=pure (some (.builtin id))
section
variable {Φ:Ct} {s:Shared} {v u:Value} {x y z:V} {α:Type}
def gZ {f:α->V} {C:Value->Prop} (e:jy l f y=some z) (r:Φ.rp s.heap u y) (k:∀ i t j w,-(2 ^ 63)<=i->i < 2 ^ 63->(0<=i/\j=i.toNat\/i < 0/\-(l.length:Int)<=i/\j=(i+l.length).toNat)->j < l.length->l[j]?=some w->f w=z->C (.int i t)):C u:=by
 refine bA (C:=fun y=>Φ.rp s.heap u y->C u) e (fun i e r=>?_) r;refine bo e fun hz e=>?_;have hz:l.length<=1048576:=hz;obtain ⟨w,ew,rfl⟩:=map_eq_some_iff.mp e;clear e;refine r.int_elim fun t=>?_;by_cases h0:0<=i
 ·rw [if_pos h0] at ew;have hj:=(List.getElem?_eq_some_iff.mp ew).1;exact k i t i.toNat w (by exact le_trans (by decide) h0) (Int.lt_of_lt_of_le ((toNat_lt h0).mp hj) (le_trans (ofNat_le.mpr hz) (by decide))) (.inl ⟨h0,rfl⟩) hj ew rfl
 ·rw [if_neg h0] at ew;refine bo ew fun h1 e=>?_;have hj:=(List.getElem?_eq_some_iff.mp e).1;exact k i t _ w (by lia) (by lia) (.inr ⟨by exact Int.not_le.mp h0,by lia,rfl⟩) hj e rfl
def j9 {i:Int} {n j:Nat} (h:0<=i/\j=i.toNat\/i < 0/\-(n:Int)<=i/\j=(i+n).toNat) (hj:j < n):seqIndex? i n=some j:=by
 rcases h with ⟨h0,rfl⟩ | ⟨h0,h1,rfl⟩
 ·unfold seqIndex?;rw [if_neg (Int.not_lt.mpr h0)];exact if_pos (by rw [decide_eq_true h0,decide_eq_true (show i < (n:Int) from (toNat_lt h0).mp hj)]; rfl)
 ·exact seqIndex_neg h0 h1
def mG {vs:Array Value} {n:Nat} (h:vs.toList[n]?=some v):vs[n]?=some v:=by rw [Q2] at h; exact h
def sI (e:jy l id y=some z) (hL:s.heap.IsList a vs) (hl:Φ.rps s.heap vs.toList l) (r2:Φ.rp s.heap u y):Φ.wp (getItem (.ref a) u) (Φ.Gives s z) s:=by
 have len:vs.size=l.length:=length_toList▸hl.length;refine gZ (C:=fun u=>Φ.wp (getItem (.ref a) u) (Φ.Gives s z) s) e r2 fun i t j w h1 h2 h3 hj ew ez=>?_;obtain ⟨q,eq,rq⟩:=hl.get ew;subst ez;rcases h3 with ⟨h0,rfl⟩ | ⟨h0,h4,rfl⟩
 ·exact fun E=>wpAny_getItem_list hL h0 h2 (mG eq) ⟨.refl _,rq⟩
 ·exact fun E=>wpAny_getItem_list_neg hL h0 (by rw [len]; exact h4) h1 (by rw [len]; exact mG eq) ⟨.refl _,rq⟩
def Ar (I:Inv Φ s) (e:um x y=some z) (r1:Φ.rp s.heap v x) (r2:Φ.rp s.heap u y):fo s v/\Φ.wp (getItem v u) (Φ.Gives s z) s:=by
 cases x with
 | list l=>
  refine r1.list_elim fun a o vs n U ha hc hd hl=>?_;have hL:s.heap.IsList a vs:=⟨_,ha,hc.1,_,hd⟩;exact ⟨⟨_,_,hL.typeIs,slot_list_getitem.lookup⟩,sI e hL hl r2⟩
 | tuple l=>
  refine r1.tuple_elim fun a o vs n U ha hc hd hl=>?_;have hL:IsTup s.heap a vs:=⟨_,ha,hc,_,hd⟩;have len:vs.size=l.length:=length_toList▸hl.length;refine ⟨⟨_,_,hL.typeIs,slot_tuple_getitem.lookup⟩,gZ (C:=fun u=>Φ.wp (getItem (.ref a) u) (Φ.Gives s z) s) e r2 fun i t j w h1 h2 h3 hj ew ez=>?_⟩;obtain ⟨q,eq,rq⟩:=hl.get ew;subst ez;exact fun E=>getItem_tuple hL h1 h2 (by rw [len]; exact j9 h3 hj) (mG eq) ⟨.refl _,rq⟩
 | str a=>
  refine r1.str_elim fun t0=>⟨⟨_,_,typeIs_str _ _ _,PySem.F.slot_str_getitem.lookup⟩,gZ (C:=fun u=>Φ.wp (getItem (.str a t0) u) (Φ.Gives s z) s) e r2 fun i t j w h1 h2 h3 hj ew ez=>?_⟩;subst ez;refine fun E=>P.getItem_str (c:=w) ?_ ?_ ⟨.toks _ _,.text rfl⟩
  ·rw [decide_eq_false (Int.not_lt.mpr h1),decide_eq_false (Int.not_le.mpr h2)]; rfl
  ·have hn:a.cps.toList.length=a.length:=length_toList;rw [show seqIndex? i a.length=some j from hn▸j9 h3 hj];rw [Q2] at ew; exact ew
 | dict Eg=>
  have e:(if (dkV Eg&&dJ y)=true then qy Eg y else none)=some z:=e;refine bo e fun q e=>?_;have q:=zA2 q;refine r1.dict_elim q.1 fun a o es n U U ha hc hd hk k1 k2=>?_;obtain ⟨xs,D,En⟩:=DAt.dk ⟨rfl,o,es,n,ha,hc,hd,hk,k1,k2⟩;obtain ⟨b,rfl⟩:=mD r2 q.2;rcases En.at q.2 with ⟨_,e1,_⟩ | ⟨p,z',e1,e2,_,rz⟩
  ·exact nomatch e1.symm.trans e
  ·obtain rfl:z'=z:=Option.some.inj (e2.symm.trans e);exact ⟨⟨_,_,⟨o,ha,hc.1⟩,slot_dict_getitem.lookup⟩,fun E=>@wpAny_getItem_heap _ _ V fM (jv Φ.fx.g.prog Φ.fx.g.w) _ _ _ _ _ _ _ _ _ I.room3 (KIs.of q.2 r2) D e1 ⟨.toks _ _,rz⟩⟩
 | _=>(injection e; done)
noncomputable def pG (d n:Nat):Option Int->Nat
 | none=>d
 | some i=>if 0<=i then min i.toNat n else (i+n).toNat
def RpO (Φ:Ct) (h:Heap) (v:Value) (y:Option V):Prop:=match y with
 | none=>v=.none
 | some x=>Φ.rp h v x
def dB {d n i:Nat} {y:Option V} {C:Value->Prop} (e:pF d n y=some i) (r:RpO Φ s.heap v y) (k:∀ p:Option (Int×Tok),pG d n (p.map (·.1))=i->C (partValue p)):C v:=by
 cases y with
 | none=>subst r; (injection e with e; subst e); exact k none rfl
 | some x=>exact bA (C:=fun x=>Φ.rp s.heap v x->C v) e (fun i e r=>r.int_elim fun t=>k (some (i,t)) (Option.some.inj e)) r
def sf (p:Option (Int×Tok)):IsPart (partValue p) (p.map (·.1)):=by
 cases p with
 | none=>exact .none
 | some q=>exact .int _ _
def pQ (h:i < 0):i+(n:Int)<=n:=le_trans (Int.add_le_add_right (Int.le_of_lt h) n) (Int.le_of_eq (Int.zero_add _))
def jG (h:d<=n) (p:Option Int):pG d n p<=n:=by
 cases p with
 | none=>exact h
 | some i=>
  refine (?_:(if 0<=i then min i.toNat n else (i+n).toNat)<=n);by_cases c:0<=i
  ·rw [if_pos c]; exact min_le_right _ _
  ·rw [if_neg c]; exact toNat_le.mpr (pQ (Int.not_le.mp c))
def sV {n:Nat} (i:Int):(if i < 0 then max (i+(n:Int)) 0 else min i n)=((pG 0 n (some i):Nat):Int):=by
 refine (?_:_=(((if 0<=i then min i.toNat n else (i+n).toNat):Nat):Int));by_cases h:0<=i
 ·rw [if_pos h,if_neg (Int.not_lt.mpr h),Lean.Omega.Int.ofNat_min,toNat_of_nonneg h]
 ·rw [if_neg h,if_pos (Int.not_le.mp h),Int.ofNat_toNat]
def xl {n:Nat} (i:Int):max 0 (min (if i < 0 then i+(n:Int) else i) (n:Int))=((pG 0 n (some i):Nat):Int):=by
 rw [<- sV];by_cases h:i < 0
 ·rw [if_pos h,if_pos h,Int.min_eq_left (pQ h),Int.max_comm]
 ·rw [if_neg h,if_neg h,Int.max_eq_right (Int.le_min.mpr ⟨Int.not_lt.mp h,natCast_nonneg n⟩)]
def fU (h:d<=n):((d:Nat):Int)=max 0 (min (if (d:Int) < 0 then (d:Int)+(n:Int) else (d:Int)) (n:Int)):=by
 rw [if_neg (Int.not_lt.mpr (natCast_nonneg d)),Int.min_eq_left (ofNat_le.mpr h),Int.max_eq_right (natCast_nonneg d)]
def nC (h:a=c) (k:b=d):sliceRange a b 1=sliceRange c d 1:=by rw [h,k]
def lg {lo hi:Option Int} {n i j:Nat} (h1:pG 0 n lo=i) (h2:pG n n hi=j) (EH:i<=j):Builtin.Str.strSliceIndices lo hi 1 n=(List.range (j - i)).map (i + ·):=by
 have hj:j<=n:=h2▸jG (le_refl n) hi;refine Eq.trans ?_ (StrLaws.strSliceIndices_plain (len:=n) EH hj);cases lo with
 | none=>cases hi with
  | none=>have h1:0=i:=h1; subst h1; have h2:n=j:=h2; subst h2; exact nC (fU (d:=0) (n:=n) (zero_le n)) (fU (le_refl n))
  | some b=>have h1:0=i:=h1; subst h1; exact nC (fU (d:=0) (n:=n) (zero_le n)) ((xl b).trans ((congrArg _ h2).trans (fU hj)))
 | some a=>
  have ea:=(xl (n:=n) a).trans ((congrArg _ h1).trans (fU (zB1 EH hj)));cases hi with
  | none=>have h2:n=j:=h2; subst h2; exact nC ea (fU (le_refl n))
  | some b=>exact nC ea ((xl b).trans ((congrArg _ h2).trans (fU hj)))
def j4 {xs:Array α} {i j:Nat} (EH:i<=j) (hj:j<=xs.size):((List.range (j - i)).map (i + ·)).filterMap (xs[·]?)=(xs.toList.drop i).take (j - i):=by
 rw [<- StrLaws.picks xs.toList (j - i) i (by rw [zB3]; exact zB1 (zB2 (Q5 EH)) hj)];exact congrArg (List.filterMap · _) (funext fun k=>(Q2).symm)
def kh {l:List α} {f:List α->V} {lo hi:Option V} {C:V->Prop} (e:mT f l lo hi=some z) (k:∀ i j,l.length<=am->pF 0 l.length lo=some i->pF l.length l.length hi=some j->i<=j->C (f ((l.drop i).take (j - i)))):C z:=
 bo e fun hz e=>(bind_eq_some_iff.mp e).elim fun i ⟨h1,e⟩=>(bind_eq_some_iff.mp e).elim fun j ⟨h2,e⟩=>if_elim e fun EH=>k i j hz h1 h2 EH
def ku {l:List V} {lo hi:Option V} {vl vu:Value} {sl:Addr} (I:Inv Φ s) (e:mT PyData.list l lo hi=some z) (r:Φ.rp s.heap v (.list l)) (rl:RpO Φ s.heap vl lo) (ru:RpO Φ s.heap vu hi) (hs:s.heap.IsSliceOf sl vl vu .none) :
  fo s v/\Φ.wp (getItem v (.ref sl)) (Φ.Gives s z) s:=by
 refine r.list_elim fun a o vs n U ha hc hd hl=>?_;have hL:s.heap.IsList a vs:=⟨_,ha,hc.1,_,hd⟩;have len:vs.size=l.length:=length_toList▸hl.length;refine ⟨⟨_,_,hL.typeIs,slot_list_getitem.lookup⟩,kh (C:=fun z=>Φ.wp (getItem (.ref a) (.ref sl)) (Φ.Gives s z) s) e fun i j hz h1 h2 EH=>?_⟩;refine dB (C:=fun vl=>s.heap.IsSliceOf sl vl vu .none->_) h1 rl (fun p hp hs=>?_) hs;refine dB (C:=fun vu=>s.heap.IsSliceOf sl (partValue p) vu .none->_) h2 ru (fun q hq hs=>?_) hs;refine fun E=>wpAny_getItem_list_slice hL hs (sf p) (sf q) .none (fun q=>nN q.symm) ?_ (by rw [len]; exact cE hz);have:slicePick vs (p.map (·.1)) (q.map (·.1)) none=((vs.toList.drop i).take (j - i)).toArray:=by
  refine congrArg toArray ?_;refine (?_:(Builtin.Str.strSliceIndices _ _ 1 vs.size).filterMap (vs[·]?)=_);rw [len,lg hp hq EH,j4 EH (by rw [len,<- hq]; exact jG (le_refl _) _)]
 rw [this];exact gW (tk:=s.toks) I ((hl.drop _).take _)
def uj {n i j:Nat} {lo hi:Option Int} (h1:pG 0 n lo=i) (h2:pG n n hi=j):Builtin.Slice.sliceAdjust lo hi 1 (n:Int)=((i:Int),(j:Int)):=by
 have c:=fun a:Int=>sV (n:=n) a;unfold Builtin.Slice.sliceAdjust;cases lo <;> cases hi
 ·subst h1; subst h2; rfl
 ·subst h1; exact Prod.ext rfl ((c _).trans (congrArg _ h2))
 ·subst h2; exact Prod.ext ((c _).trans (congrArg _ h1)) rfl
 ·exact Prod.ext ((c _).trans (congrArg _ h1)) ((c _).trans (congrArg _ h2))
def tI {i j:Nat} (h:i<=j):Builtin.Slice.slicePlaces (i:Int) (j:Int) 1=j - i:=by
 unfold Builtin.Slice.slicePlaces;rw [if_pos (by decide),Int.ediv_one,Int.sub_add_cancel,<- Int.ofNat_sub h];by_cases c:(i:Int) < j
 ·rw [if_pos c]; rfl
 ·rw [if_neg c,Nat.sub_eq_zero_of_le (ofNat_le.mp (Int.not_lt.mp c))]; rfl
def qT {E:Value->Shared->Prop} {Q:Int×Int×Nat->Shared->Prop} (hs:s.heap.IsSliceOf sl (partValue p) (partValue q) .none) (h1:pG 0 n (p.map (·.1))=i) (h2:pG n n (q.map (·.1))=j) (EH:i<=j)
  (h:Q ((i:Int),1,j - i) s):wpAny (model prog w) A (Builtin.Slice.sliceApplied (.ref sl) (pure (n:Int))) Q E s:=by
 obtain ⟨os,JJ,HC,KL⟩:=id hs;have Ja:∀ (p:Option (Int×Tok)) {Q:Option Int->Shared->Prop},Q (p.map (·.1)) s->wpAny (model prog w) A (Builtin.Slice.slicePartIndex (partValue p)) Q E s:=fun p Q h=>by
  cases p with
  | none=>exact slicePart_none h
  | some q=>exact slicePart_int h
 unfold Builtin.Slice.sliceApplied Builtin.Slice.sliceFields;refine zC1 ((bFi JJ KL (x:=partValue p) rfl ((bFi JJ KL (x:=partValue q) rfl ((bFi JJ KL (x:=.none) rfl (zC2 ?_)))))));refine zC1 (slicePart_none ?_);refine (?_:wpAny _ _ (if ((1:Int)==0)=true then _ else _) _ _ s);rw [if_neg (by decide)];refine zC1 (Ja p (zC1 (Ja q ((bPu ?_)))));refine (?_:wpAny _ _ (match Builtin.Slice.sliceAdjust (p.map (·.1)) (q.map (·.1)) 1 (n:Int) with | (lo,hi)=>pure (lo,(1:Int),Builtin.Slice.slicePlaces lo hi 1)) _ _ s);rw [uj h1 h2];refine (?_:wpAny _ _ (pure ((i:Int),(1:Int),Builtin.Slice.slicePlaces (i:Int) (j:Int) 1)) _ _ s);rw [tI EH];exact wpAny_pure h
def iN {l:List V} {lo hi:Option V} {vl vu:Value} {sl:Addr} (I:Inv Φ s) (e:mT PyData.tuple l lo hi=some z) (r:Φ.rp s.heap v (.tuple l)) (rl:RpO Φ s.heap vl lo) (ru:RpO Φ s.heap vu hi) (hs:s.heap.IsSliceOf sl vl vu .none) :
  fo s v/\Φ.wp (getItem v (.ref sl)) (Φ.Gives s z) s:=by
 refine r.tuple_elim fun a o vs n hb ha hc hd hl=>?_;have r:Φ.rp s.heap (.ref a) (.tuple l):=.tuple hb ha hc hd hl;have ht:IsTup s.heap a vs:=⟨_,ha,hc,_,hd⟩;have len:vs.size=l.length:=length_toList▸hl.length;refine ⟨⟨_,_,ht.typeIs,slot_tuple_getitem.lookup⟩,kh (C:=fun z=>Φ.wp (getItem (.ref a) (.ref sl)) (Φ.Gives s z) s) e fun i j hz h1 h2 EH=>?_⟩;refine dB (C:=fun vl=>s.heap.IsSliceOf sl vl vu .none->_) h1 rl (fun p hp hs=>?_) hs;refine dB (C:=fun vu=>s.heap.IsSliceOf sl (partValue p) vu .none->_) h2 ru (fun q hq hs=>?_) hs;intro E;have hj:j<=vs.size:=by rw [len,<- hq]; exact jG (le_refl _) _
 obtain ⟨os,JJ,HC,KL⟩:=id hs;have hTs:s.TypeIs (.ref sl) "slice":=⟨os,JJ,HC⟩;unfold getItem;refine wpAny_holding ?_;refine zC1 (wpAny_sequenceKey ht.typeIs (by decide) ?_);refine zC1 (wpAny_callSpecial?_slot (name:=ofString "__getitem__") ht.typeIs slot_tuple_getitem (wpAny_call_entry slot_tuple_getitem ht.typeIs entry_tuple_getitem ?_ (args_tuple_getitem _ _)));refine (?_:wpAny _ _ (Builtin.Tuple.tupleItemsOf (.ref a) >>= _) _ _ s);refine zC1 (tupleItemsOf_ ht ?_);refine zC1 (wpAny_typeOf hTs ?_);rw [if_pos (by decide)];rw [<- len] at hp hq;refine zC1 (qT hs hp hq EH ?_);refine (?_:wpAny _ _ (if ((i:Int)==0&&(1:Int)==1&&(j - i)==vs.size)=true then _ else _) _ _ s);by_cases c:((i:Int)==0&&(1:Int)==1&&(j - i)==vs.size)=true
 ·rw [if_pos c];have c:=zA2 c;have c1:(i:Int)=0:=eq_of_beq (zA2 c.1).1;have c2:j - i=vs.size:=eq_of_beq c.2;have i0:i=0:=by lia
  subst i0;rw [c2,len,drop_zero,take_length];refine zC1 (zC1 (wpAny_typeOf ht.typeIs (zC2 ?_)));exact (bRu (zC2 ⟨_,rfl,zC2 ⟨.refl _,r⟩⟩))
 ·rw [if_neg c];have ep:(List.range (j - i)).filterMap (fun (k:Nat)=>vs[((i:Int)+(k:Int) * 1).toNat]?)=(vs.toList.drop i).take (j - i):=by
   rw [<- j4 EH hj,List.filterMap_map];exact congrArg (List.filterMap · _) (funext fun k=>by refine (?_:vs[((i:Int)+(k:Int) * 1).toNat]?=vs[i+k]?); rw [Int.mul_one]; rfl)
  refine (?_:wpAny _ _ (Builtin.Tuple.tupleExact ((List.range (j - i)).filterMap (fun (k:Nat)=>vs[((i:Int)+(k:Int) * 1).toNat]?)).toArray >>= _) _ _ _);rw [ep];refine wpAny_bind (m:=Builtin.Tuple.tupleExact _) (wpAny_newObj_type (zC2 ⟨_,rfl,zC2 (fA (tk:=s.toks) I ((hl.drop _).take _))⟩) ?_);refine (?_:(toArray _).size<=sizeLine);rw [size_toArray];exact zB1 (List.length_take_le' ..) (zB1 (by rw [length_drop]; exact sub_le ..) (cE (hl.length▸hz)))
def lU {t:Str} {lo hi:Option V} {vl vu:Value} {sl:Addr} (e:mT text t.cps.toList lo hi=some z) (r:Φ.rp s.heap v (.str t)) (rl:RpO Φ s.heap vl lo) (ru:RpO Φ s.heap vu hi) (hs:s.heap.IsSliceOf sl vl vu .none) :
  fo s v/\Φ.wp (getItem v (.ref sl)) (Φ.Gives s z) s:=by
 refine r.str_elim fun tk=>?_;refine ⟨⟨_,_,typeIs_str _ _ _,PySem.F.slot_str_getitem.lookup⟩,kh (C:=fun z=>Φ.wp (getItem (.str t tk) (.ref sl)) (Φ.Gives s z) s) e fun i j hz h1 h2 EH=>?_⟩;refine dB (C:=fun vl=>s.heap.IsSliceOf sl vl vu .none->_) h1 rl (fun p hp hs=>?_) hs;refine dB (C:=fun vu=>s.heap.IsSliceOf sl (partValue p) vu .none->_) h2 ru (fun q hq hs=>?_) hs;rw [zB3] at hp hq;have hj:j<=t.cps.size:=hq▸jG (le_refl _) _;refine fun E=>wpAny_getItem_str_slice (l:=p) (u:=q) (st:=none) hs rfl ?_;unfold sliceMade;have e3:slicePicked t p q none=(List.range (j - i)).map (i + ·):=lg hp hq EH;rw [e3];split
 ·rename_i hf;have hf:=eq_of_beq (zA2 hf).2;rw [zA4,length_range] at hf;have hf:j - i=t.cps.size:=hf;refine ⟨.refl _,.text ?_⟩;rw [hf,show i=0 by grind,drop_zero,<- zB3,take_length]
 ·rw [j4 EH hj];refine ⟨?_,.toks _ _,.text rfl⟩
  show (toArray _).size<=sizeLine
  rw [size_toArray];exact zB1 (List.length_take_le' ..) (zB1 (by rw [length_drop]; exact sub_le ..) (cE hz))
def uW {lo hi:Option V} {vl vu:Value} {sl:Addr} (I:Inv Φ s) (e:dP x lo hi=some z) (r:Φ.rp s.heap v x) (rl:RpO Φ s.heap vl lo) (ru:RpO Φ s.heap vu hi) (hs:s.heap.IsSliceOf sl vl vu .none) :
  fo s v/\Φ.wp (getItem v (.ref sl)) (Φ.Gives s z) s:=by
 cases x with
 | list l=>exact ku I e r rl ru hs
 | tuple l=>exact iN I e r rl ru hs
 | str t=>exact lU e r rl ru hs
 | _=>(injection e; done)
end
noncomputable abbrev DV:=(V->Prop)->Prop
section
variable {Φ:Ct} {s:Shared} {d d1 d2 d3:DV}
def wW {r:Value->Sem Value} {t:Value->Value->Sem Value} {op:V->V->Option V} (h1:Ev Φ l d1) (h2:∀ v,Ev Φ (r v) d2)
  (st:∀ s v u x y z,Inv Φ s->Φ.rp s.heap v x->Φ.rp s.heap u y->op x y=some z->Φ.wp (t v u) (Φ.Gives s z) s):Ev Φ (do let v <- l; let u <- r v; t v u) (fun K=>d1 fun x=>d2 fun y=>okK (op x y) K):=fun K s hd I=>
 h1.bind hd I fun v x s₁ C' Ef hx r1=>(h2 v).bind hx C' fun u y Ee Eu Ex hy r2=>ah hy fun z e kz=>step Eu kz (st Ee v u x y z Eu (r1.keep Ex) r2 e)
def Bq (h1:Ev Φ (eval l Φ.fx.env) d1) (h2:Ev Φ (eval r Φ.fx.env) d2):Ev Φ (eval (.BinOp l o r pos) Φ.fx.env) (fun K=>d1 fun x=>d2 fun y=>okK (uC o x y) K):=by
 rw [eval_BinOp];exact wW (op:=uC o) h1 (fun v=>h2.holding) fun s v u x y z I r1 r2 e=>bi (dF (BA e I r1 r2))
def ji (h:bE e=true):markedBehindIn o e t=t:=markedBehindIn_of_false (by cases e <;> first | rfl | exact nB h)
def wX (hs:bE r=true) (h1:Ev Φ (eval l Φ.fx.env) d1) (h2:Ev Φ (eval r Φ.fx.env) d2):Ev Φ (eval (.Compare l [o] [r] pos) Φ.fx.env) (fun K=>d1 fun x=>d2 fun y=>okK (aX o x y) fun b=>K (.bool b)):=fun K s hd I=>by
 rw [eval_Compare1,ji hs];exact h1.bind hd I fun v x s₁ C' Ef hx r1=>h2.holding.bind hx C' fun u y Ee Eu Ex hy r2=>ah hy fun c e kc=>bi (dF fun E=>wpAny_mono (rD e Eu (r1.keep Ex) r2 E) (fun w s' q=>by obtain ⟨rfl,rfl⟩:=q; exact ⟨Eu.base,.refl _,_,kc,.bool c⟩) fun U U z=>z)
def fZ (e:cL y some=some b) (r:Φ.rp s.heap v y) (h:Q b s):Φ.wp (truthy v) Q s:=
 fC (C:=fun y=>Φ.rp s.heap v y->Φ.wp (truthy v) Q s) e (fun c e r=>r.bool_elim fun E=>wpAny_truthy_bool (Option.some.inj e▸h)) r
noncomputable abbrev tst (d:DV):(Bool->Prop)->Prop:=fun K=>d fun y=>okK (cL y some) K
def yL (h:Ev Φ (eval x Φ.fx.env) d) (hx:isTrue x Φ.fx.env (eval x Φ.fx.env)=(do let v <- eval x Φ.fx.env; standAt x.pos; holding [v] (truthy v))):EvT Φ (isTrue x Φ.fx.env (eval x Φ.fx.env)) (tst d):=fun K s hd I=>by
 rw [hx];exact h.bind hd I fun v y s₁ C' Ef hy r=>ah hy fun b e kb=>bi fun E=>wpAny_holding (fZ (Q:=Post Φ (fun U=>Eq) s₁ K) e r ⟨C'.base,.refl _,b,kb,rfl⟩ E)
def uT (hs:bE r=true) (h1:Ev Φ (eval l Φ.fx.env) d1) (h2:Ev Φ (eval r Φ.fx.env) d2):EvT Φ (isTrue (.Compare l [o] [r] pos) Φ.fx.env w) (fun K=>d1 fun x=>d2 fun y=>okK (aX o x y) K):=fun K s hd I=>by
 have e:isTrue (.Compare l [o] [r] pos) Φ.fx.env w=(eval (.Compare l [o] [r] pos) Φ.fx.env >>= fun c=>holding [c] (truthy c)):=by
  rw [isTrue_Compare1,eval_Compare1]; simp only [bind_assoc]
 rw [e];exact (wX hs h1 h2).bind (K₁:=fun y=>okK (cL y some) K) hd I fun v y s₁ C' Ef hy r=>ah hy fun b e kb=>fun E=>wpAny_holding (fZ (Q:=Post Φ (fun U=>Eq) s₁ K) e r ⟨C'.base,.refl _,b,kb,rfl⟩ E)
def Bk (h:Ev Φ (eval x Φ.fx.env) d):Ev Φ (eval (.UnaryOp .Not x pos) Φ.fx.env) (fun K=>d fun y=>okK (cL y some) fun b=>K (.bool (!b))):=fun K s hd I=>by
 rw [arm_eval_UnaryOp];refine h.bind hd I fun v y s₁ C' Ef hy r=>bi fun E=>wpAny_holding ?_;refine (?_:wpAny _ _ (holding [v] (truthy v >>= fun t=>pure (Value.bool (!t)))) _ _ _);exact ah hy fun b e kb=>wpAny_holding (zC1 (fZ e r (zC2 ⟨C'.base,.refl _,_,kb,.bool _⟩) E))
def uR (h:EvT Φ (isTrue x Φ.fx.env (eval x Φ.fx.env)) (tst d)):EvT Φ (isTrue (.UnaryOp .Not x pos) Φ.fx.env w) (fun K=>d fun y=>okK (cL y some) fun b=>K (!b)):=fun K s hd I=>by
 rw [arm_isTrue_UnaryOp];exact h.bind (K₁:=fun b=>K (!b)) hd I fun t b s₁ C' Ef hb e=>EvR.pure C' hb (e▸rfl)
def Bl (h:Ev Φ (eval x Φ.fx.env) d):Ev Φ (eval (.UnaryOp .USub x pos) Φ.fx.env) (fun K=>d fun y=>okK (lI y fun i=>some (.int (-i))) K):=fun K s hd I=>by
 rw [arm_eval_UnaryOp];refine h.bind hd I fun v y s₁ C' Ef hy r=>bi ?_;refine ah hy fun z e kz=>step C' kz fun E=>wpAny_holding ?_;exact bA (C:=fun y=>Φ.rp s₁.heap v y->wpAny _ _ _ _ _ s₁) e (fun i e r=>r.int_elim fun t=>neg_int ⟨.toks _ _,Option.some.inj e▸.int _ _⟩) r
def Bo (hc:EvT Φ (isTrue c Φ.fx.env (eval c Φ.fx.env)) (tst d1)) (ha:Ev Φ (eval a Φ.fx.env) d2) (hb:Ev Φ (eval b Φ.fx.env) d3) :
  Ev Φ (eval (.IfExp c a b pos) Φ.fx.env) (fun K=>d1 fun x=>okK (cL x some) fun t=>if t=true then d2 K else d3 K):=fun K s hd I=>by
 rw [arm_eval_IfExp];refine hc.bind (K₁:=fun t=>if t=true then d2 K else d3 K) hd I fun t t' s₁ C' Ef hk e=>?_;subst e;cases t with
 | true=>exact ha K s₁ hk C'
 | false=>exact hb K s₁ hk C'
noncomputable abbrev bop:Bool->BoolOp
 | true=>.And
 | false=>.Or
noncomputable abbrev pP (b:Bool) (ds:List DV):(Bool->Prop)->Prop:=cw b (ds.map fun d U=>d) []
def uS:EvT Φ (allTrue (bop b) [] Φ.fx.env) (pP b []):=fun K s hd I=>by
 rw [arm_allTrue_nil];cases b <;> exact EvR.pure I hd rfl
def tw (h:EvT Φ (isTrue x Φ.fx.env (eval x Φ.fx.env)) (tst d)) (hr:EvT Φ (allTrue (bop b) r Φ.fx.env) (pP b ds)):EvT Φ (allTrue (bop b) (x :: r) Φ.fx.env) (pP b (d :: ds)):=fun K s hd I=>by
 rw [arm_allTrue_cons];refine h.bind (K₁:=fun c=>if c=b then pP b ds K else K c) hd I fun t c s₁ C' Ef hk e=>?_;subst e;cases b <;> cases t
 ·exact hr K s₁ hk C'
 ·exact EvR.pure C' hk rfl
 ·exact EvR.pure C' hk rfl
 ·exact hr K s₁ hk C'
abbrev bj (Φ:Ct) (q:Expr×DV):Prop:=Ev Φ (eval q.1 Φ.fx.env) q.2
def uf {K:V->Prop} (hy:okK (cL y some) fun c=>if c=b then K (.bool b) else K (.bool c)) (r:Φ.rp h v y):K y:=
 ah hy fun c e kc=>fC (C:=fun y=>K y) e fun c' e=>by
  cases e
  by_cases q:c=b
  ·rw [if_pos q] at kc; rw [q]; exact kc
  ·rw [if_neg q] at kc; exact kc
theorem pD:∀ {qs:List (Expr×DV)},(∀ q∈qs,bj Φ q)->qs≠[]->Ev Φ (boolOp pos (bop b) (qs.map fun q=>eval q.1 Φ.fx.env)) (fun K=>pP b (qs.map Prod.snd) fun c=>K (.bool c))
 | [],_,h=>absurd rfl h
 | [q],h,_=>fun K s hd I E=>by
  have e:boolOp pos (bop b) ([q].map fun q=>eval q.1 Φ.fx.env)=eval q.1 Φ.fx.env:=by cases b <;> rfl
  exact e.symm▸wpAny_mono (h q (.head _) (fun y=>okK (cL y some) fun c=>if c=b then K (.bool b) else K (.bool c)) s hd I E) (fun v s' ⟨B,k,y,hy,r⟩=>⟨B,k,y,uf hy r,r⟩) fun U U z=>z
 | q :: q' :: r,h,_=>fun K s hd I=>by
  have hr:=pD (b:=b) (pos:=pos) (qs:=q' :: r) (fun x m=>h x (.tail _ m)) (by simp);have go:∀ t u (l:List (Sem Value)),boolOp pos (bop b) (t :: u :: l)=(do let v <- t; standAt pos; let c <- holding [v] (truthy v); if c=b then boolOp pos (bop b) (u :: l) else pure v):=fun t u l=>by
   cases b <;> exact bind_congr fun v=>bind_congr fun U=>bind_congr fun c=>by cases c <;> rfl
  rw [map_cons,map_cons,go];refine (h q (.head _)).bind (K₁:=fun y=>okK (cL y some) fun c=>if c=b then pP b ((q' :: r).map Prod.snd) (fun c=>K (.bool c)) else K (.bool c)) hd I fun v y s₁ C' Ef hy rp=>bi ?_;refine ah hy fun c e kc E=>zC1 (wpAny_holding (fZ e rp ?_ E));by_cases qc:c=b
  ·rw [if_pos qc] at kc ⊢;exact hr K s₁ kc C' E
  ·rw [if_neg qc] at kc ⊢;exact zC2 ⟨C'.base,.refl _,_,kc,fC (C:=fun y=>Φ.rp s₁.heap v y->Φ.rp s₁.heap v (.bool c)) e (fun c' e r=>by (injection e with e; subst e); exact r) rp⟩
theorem oI:∀ {qs:List (Expr×DV)},(∀ q∈qs,EvT Φ (isTrue q.1 Φ.fx.env (eval q.1 Φ.fx.env)) (tst q.2))->EvT Φ (allTrue (bop b) (qs.map Prod.fst) Φ.fx.env) (pP b (qs.map Prod.snd))
 | [],_=>uS
 | q :: r,h=>tw (h q (.head _)) (oI fun x m=>h x (.tail _ m))
noncomputable abbrev bv (ds:List DV):(List V->Prop)->Prop:=bR (ds.map fun d U=>d) []
def aJ (h:aq e=true):starEach (e :: r) env=(false,eval e env) :: starEach r env:=by
 cases e <;> first | rfl | exact nB h
theorem eG:∀ {qs:List (Expr×DV)},(∀ q∈qs,aq q.1=true/\bj Φ q)->EvL Φ (spliced (backTo pos (starEach (qs.map Prod.fst) Φ.fx.env))) (bv (qs.map Prod.snd))
 | [],_=>fun K s hd I=>EvR.pure (a:=[]) I hd .nil
 | q :: r,h=>fun K s hd I=>by
  refine map_cons.symm▸(aJ (h q (.head _)).1).symm▸?_;have e:spliced (backTo pos ((false,eval q.1 Φ.fx.env) :: starEach (r.map Prod.fst) Φ.fx.env))=(eval q.1 Φ.fx.env >>= fun v=>holding [v] (spliced (backTo pos (starEach (r.map Prod.fst) Φ.fx.env))) >>= fun vs=>pure (v :: vs)):=rfl;rw [e];exact (h q (.head _)).2.bind (K₁:=fun x=>bv (r.map Prod.snd) fun xs=>K (x :: xs)) hd I fun v x s₁ C' Ef hx r1=>(eG fun q m=>h q (.tail _ m)).holding.bind hx C' fun vs xs Ee Eu Ex hxs rs=>EvR.pure Eu hxs (.cons (r1.keep Ex) rs)
def vU {qs:List (Expr×DV)} {k:Nat} (h:∀ q∈qs,aq q.1=true/\bj Φ q):EvC Φ true (eval (.Tuple (qs.map Prod.fst) k pos) Φ.fx.env) (fun K=>bv (qs.map Prod.snd) fun xs=>okK (dw xs (.tuple xs)) K):=fun K s hd I=>by
 rw [arm_eval_Tuple];refine bi ((eG h).bindC hd I fun vs xs s₁ C' Ef hx rs=>ah hx fun z e kz=>fit_elim (C:=fun z=>K z->Φ.wp _ (jR Φ true s₁ K) s₁) e (fun q kz E=>?_) kz);have m:=fA (n:=0) (tk:=s₁.toks) C' rs;exact wpAny_newObj_type ⟨⟨C'.base.grown m.1,m.1.keeps,_,kz,m.2⟩,fun U=>eQ (le_refl _)⟩ (by refine (?_:vs.toArray.size<=sizeLine); rw [size_toArray,rs.length]; exact cE q)
def yN {qs:List (Expr×DV)} (h:∀ q∈qs,aq q.1=true/\bj Φ q):Ev Φ (eval (.List (qs.map Prod.fst) pos) Φ.fx.env) (fun K=>bv (qs.map Prod.snd) fun xs=>okK (dw xs (.list xs)) K):=fun K s hd I=>by
 rw [arm_eval_List];refine bi ((eG h).bind hd I fun vs xs s₁ C' Ef hx rs=>ah hx fun z e kz=>step C' kz ?_);exact fit_elim e fun q E=>wpAny_newObj_type (gW (tk:=s₁.toks) C' rs) (by refine (?_:vs.toArray.size<=sizeLine); rw [size_toArray,rs.length]; exact cE q)
def jV (h:fo s o/\Φ.wp (getItem o i) (Φ.Gives s z) s):Φ.wp (do standAt pos; let r <- subscripted slice (<- getitemInPython o) o i; letTemporaryGo value o r; pure r) (Φ.Gives s z) s:=by
 obtain ⟨⟨T,id,hT,hl⟩,hg⟩:=h;refine bi fun E=>?_;rw [getitemInPython_of_ne hT.not_modules];refine zC1 (zC1 (wpAny_specialOf hT hl ?_));refine zC2 ?_;have fin:∀ vs,wpAny (model Φ.fx.g.prog Φ.fx.g.w) Φ.fx.A (operate vs (getItem o i) >>= fun r=>letTemporaryGo value o r >>= fun U=>pure r) (Φ.Gives s z) E s:=fun vs=>
  zC1 (wpAny_mono (dF hg E) (fun a s' p=>zC1 (wpAny_letTemporaryGo (wpAny_pure p))) fun U U z=>z)
 cases slice with
 | Slice a b c p=>cases c with
  | none=>exact fin _
  | some=>exact fin _
 | _=>exact fin _
def Bj (h1:Ev Φ (eval value Φ.fx.env) d1) (h2:Ev Φ (eval slice Φ.fx.env) d2):Ev Φ (eval (.Subscript value slice pos) Φ.fx.env) (fun K=>d1 fun x=>d2 fun y=>okK (um x y) K):=by
 rw [arm_eval_Subscript];exact wW (op:=um) h1 (fun v=>h2.holding) fun s v u x y z I r1 r2 e=>jV (Ar I e r1 r2)
abbrev EvO (Φ:Ct) (t:Sem Value) (d:(Option V->Prop)->Prop):Prop:=EvR Φ (RpO Φ) t d
def jF:EvO Φ (valueOrNone (evalOpt none Φ.fx.env)) (fun K=>K none):=fun K s hd I=>EvR.pure (a:=Value.none) I hd rfl
def jE (h:Ev Φ (eval e Φ.fx.env) d):EvO Φ (valueOrNone (evalOpt (some e) Φ.fx.env)) (fun K=>d fun y=>K (some y)):=fun K s hd I E=>by
 refine (?_:wpAny _ _ (eval e Φ.fx.env) _ _ _);exact wpAny_mono (h _ s hd I E) (fun v s' ⟨B,k,y,hy,r⟩=>⟨B,k,some y,hy,r⟩) fun U U z=>z
theorem RpO.keep (r:RpO Φ h v y) (k:aI h h'):RpO Φ h' v y:=by
 cases y with
 | none=>exact r
 | some x=>exact Rp.keep r k
def gz {value:Expr} {lo hi:Option Expr} {p pos:Pos} {dl dh:(Option V->Prop)->Prop} (h1:Ev Φ (eval value Φ.fx.env) d1) (h2:EvO Φ (valueOrNone (evalOpt lo Φ.fx.env)) dl) (h3:EvO Φ (valueOrNone (evalOpt hi Φ.fx.env)) dh) :
  Ev Φ (eval (.Subscript value (.Slice lo hi none p) pos) Φ.fx.env) (fun K=>d1 fun x=>dl fun l=>dh fun h=>okK (dP x l h) K):=fun K s hd I=>by
 rw [arm_eval_Subscript];refine h1.bind hd I fun v x s₁ C' Ef hx r1=>?_;have hS:EvR Φ (fun h v (q:Option V×Option V)=>∃ sl vl vu,v=.ref sl/\h.IsSliceOf sl vl vu .none/\RpO Φ h vl q.1/\RpO Φ h vu q.2) (eval (.Slice lo hi none p) Φ.fx.env) (fun K=>dl fun l=>dh fun h=>K (l,h)):=fun K s hd I=>by
  rw [arm_eval_Slice];refine h2.bind hd I fun vl l s₁ C' Ef hl rl=>h3.holding.bind hl C' fun vu h Ee Eu Ex hh rh=>?_;refine step (z:=(l,h)) Eu hh fun E=>zC1 (wpAny_holding (zC2 ?_));exact wpAny_newObj_type ⟨Grown.push _ _ Ee.toks,_,vl,vu,rfl,Heap.IsSliceOf.new ..,(rl.keep Ex).keep (dL _ _),rh.keep (dL _ _)⟩
 refine hS.holding.bind (K₁:=fun q=>okK (dP x q.1 q.2) K) hx C' fun u q Ee Eu Ex hq rq=>?_;obtain ⟨sl,vl,vu,rfl,hs,rl,ru⟩:=rq;exact ah hq fun z e kz=>step Eu kz (jV (uW Eu e (r1.keep Ex) rl ru hs))
end
section
variable {Φ:Ct} {s:Shared} {v u:Value} {x y z:V} {d:DV}
def jB {x:Str} (h:br Φ.fx.env.scope.names x=true):Φ.fx.env.scope.names.lookup x=some .globalImplicit/\(x==("__debug__" : Str))=false:=by
 have h:=zA2 h;exact ⟨eq_of_beq h.1,not_eq_true' _▸(zA2 h.2).1⟩
def bP {x:Str} {pos:Pos} {Q:Value->Shared->Prop} (I:Inv Φ s) (hx:br Φ.fx.env.scope.names x=true) (hv:Φ.fx.g.mg x=some v) (h:Q v s):Φ.wp (eval (.Name x pos) Φ.fx.env) Q s:=fun E=>
 Name_function_global I.ok.kind (jB hx).1 (loadGlobal_global (by rw [I.ok.globals]; exact I.ok.gr.main.at' (I.base.stays _)) hv h) (jB hx).2
def bH {x:Str} {pos:Pos} {Q:Value->Shared->Prop} (I:Inv Φ s) (hx:br Φ.fx.env.scope.names x=true) (hv:bI.lookup x=some v) (h:Q v s):Φ.wp (eval (.Name x pos) Φ.fx.env) Q s:=fun E=>
 have q:=I.ok.gr.blts x v hv
 Name_function_global I.ok.kind (jB hx).1 (loadGlobal_builtin (by rw [I.ok.globals]; exact I.ok.gr.main.at' (I.base.stays _)) q.1 (by rw [I.ok.builtins]; exact I.ok.gr.blt.at' (I.base.stays _)) q.2 h) (jB hx).2
def vZ {n:Str} {pos:Pos} (hx:br Φ.fx.env.scope.names n=true) (hv:Φ.fx.g.cons.lookup n=some x):Ev Φ (eval (.Name n pos) Φ.fx.env) (fun K=>K x):=fun K s hd I=>
 (I.ok.gr.cons n x hv).elim fun u q=>bP I hx q.1 ⟨I.base,.refl _,x,hd,q.2 _ _ I.base.stays fun a b=>I.bad0 b⟩
def Bm (hc:ta c x=true):Ev Φ (eval (.Constant c k pos) Φ.fx.env) (fun K=>K x):=fun K s hd I E=>by
 refine (?_:wpAny _ _ (constValue Φ.fx.env c) _ _ _);cases x with
 | none=>obtain rfl:=eq_of_beq hc; exact zC2 ⟨I.base,.refl _,_,hd,.none⟩
 | bool b=>obtain rfl:=eq_of_beq hc; exact zC2 ⟨I.base,.refl _,_,hd,.bool _⟩
 | int i=>obtain rfl:=eq_of_beq hc; exact wpAny_mkInt ⟨I.base.grown (.toks _ _),.refl _,_,hd,.int _ _⟩
 | str t=>obtain rfl:=eq_of_beq hc; exact wpAny_mkText ⟨I.base.grown (.toks _ _),.refl _,_,hd,.str _ _⟩
 | _=>(injection hc; done)
theorem dC:∀ {l:List (Bool×Sem Value)},(∀ q∈l,q.1=false)->(backTo pos l).any (·.1)=false
 | [],_=>rfl
 | [q],h=>by simp [backTo,h q (.head _)]
 | q :: q' :: l,h=>by
  have:=dC (pos:=pos) (l:=q' :: l) fun x m=>h x (.tail _ m);simpa [backTo,h q (.head _)] using this
theorem b8:∀ {qs:List (Expr×DV)},(∀ q∈qs,aq q.1=true)->∀ q∈starEach (qs.map Prod.fst) env,q.1=false
 | [],_,_,h=>nM h
 | q :: r,h,p,hp=>by
  rw [map_cons,aJ (h q (.head _))] at hp;cases hp with
  | head=>rfl
  | tail _ m=>exact b8 (fun x m=>h x (.tail _ m)) p m
def cM {qs:List (Expr×DV)} {K:List V->Prop} {Q:Args->Shared->Prop} {E:Value->Shared->Prop} (hq:∀ q∈qs,aq q.1=true/\bj Φ q) (hd:bv (qs.map Prod.snd) K) (I:Inv Φ s)
  (h:∀ vs xs s₁,Inv Φ s₁->aI s.heap s₁.heap->K xs->Φ.rps s₁.heap vs xs->Q ⟨vs,[]⟩ s₁):wpAny (model Φ.fx.g.prog Φ.fx.g.w) Φ.fx.A (evalArgs F true (backTo pos (starEach (qs.map Prod.fst) Φ.fx.env)) []) Q E s:=by
 have it:=eG (pos:=pos) hq K s hd I E;cases qs with
 | nil=>exact PySem.evalArgs_none (h [] [] s I (.refl _) hd .nil)
 | cons q r=>
  rw [map_cons,aJ (hq q (.head _)).1] at it ⊢;obtain ⟨l,hl⟩:∃ l,backTo pos ((false,eval q.1 Φ.fx.env) :: starEach (r.map Prod.fst) Φ.fx.env)=(false,eval q.1 Φ.fx.env) :: l:=by
   cases starEach (r.map Prod.fst) Φ.fx.env <;> exact ⟨_,rfl⟩
  rw [hl] at it ⊢;exact Calls.evalArgs_plain (wpAny_mono it (fun vs s₁ ⟨B,k,xs,hx,rs⟩=>h vs xs s₁ (I.keep B k) k hx rs) fun U U z=>z)
def px {F:Value} {f:Str} {fp pos:Pos} {qs:List (Expr×DV)} {op:List V->Option V} (hx:br Φ.fx.env.scope.names f=true) (hF:bI.lookup f=some F) (hk:(∃ id,F=.builtin id)\/∃ T,F=.type T) (hq:∀ q∈qs,aq q.1=true/\bj Φ q)
  (st:∀ s vs xs z,Inv Φ s->Φ.rps s.heap vs xs->op xs=some z->Φ.wp (call F vs) (Φ.Gives s z) s):Ev Φ (eval (.Call (.Name f fp) (qs.map Prod.fst) [] pos) Φ.fx.env) (fun K=>bv (qs.map Prod.snd) fun xs=>okK (op xs) K):=fun K s hd I E=>by
 refine (?_:wpAny _ _ (eval (.Name f fp) Φ.fx.env >>= fun F=>callWith pos F [] (backTo pos (starEach (qs.map Prod.fst) Φ.fx.env)) []) _ _ s);refine zC1 (bH I hx hF ?_ E);have hp:=dC (pos:=pos) (b8 (env:=Φ.fx.env) fun q m=>(hq q m).1);have main:wpAny (model Φ.fx.g.prog Φ.fx.g.w) Φ.fx.A (evalArgs F true (backTo pos (starEach (qs.map Prod.fst) Φ.fx.env)) []) (fun a s₁=>wpAny (model Φ.fx.g.prog Φ.fx.g.w) Φ.fx.A (call F ([]++a.pos) a.kw) (Post Φ Φ.rp s K) E s₁) E s:=
  cM hq hd I fun vs xs s₁ C' Ef hx rs=>ah hx fun z e kz=>wpAny_mono (step C' kz (st s₁ vs xs z C' rs e) E) (fun U U p=>p.lift Ef) fun U U z=>z
 rcases hk with ⟨id,rfl⟩ | ⟨T,rfl⟩
 ·exact callWith_builtin hp main
 ·exact PySem.callWith_type hp main
def cP {α:Type} {vs:List Value} {xs:List V} {f:V->Option α} {z:α} {C:List Value->Prop} (e:one xs f=some z) (rs:Φ.rps s.heap vs xs) (k:∀ v x,Φ.rp s.heap v x->f x=some z->C [v]):C vs:=by
 cases rs with
 | nil=>(injection e; done)
 | cons r rs=>cases rs with
  | nil=>exact k _ _ r e
  | cons _ _=>(injection e; done)
def uP {α:Type} {vs:List Value} {xs:List V} {f:V->V->Option α} {z:α} {C:List Value->Prop} (e:two xs f=some z) (rs:Φ.rps s.heap vs xs) (k:∀ v u x y,Φ.rp s.heap v x->Φ.rp s.heap u y->f x y=some z->C [v,u]):C vs:=by
 cases rs with
 | nil=>(injection e; done)
 | cons r rs=>cases rs with
  | nil=>(injection e; done)
  | cons r' rs=>cases rs with
   | nil=>exact k _ _ _ _ r r' e
   | cons _ _=>(injection e; done)
def BM (h:n<=am):(n:Int) < 2 ^ 63:=ofNat_lt.mpr (Q1 h (by decide))
def aQ {vs:Array Value} {l:List V} (r:Φ.rps h vs.toList l):vs.size=l.length:=length_toList▸r.length
def k4 {C:V->List V->Prop} (e:xN x=some l) (kl:∀ l:List V,l.length<=am->C (.list l) l) (kt:∀ l:List V,l.length<=am->C (.tuple l) l) (ks:∀ t:Str,t.cps.toList.length<=am->C (.str t) (bq t.cps.toList)):C x l:=by
 cases x with
 | list m=>exact fit_elim e fun h=>kl m h
 | tuple m=>exact fit_elim e fun h=>kt m h
 | str m=>exact fit_elim e fun h=>ks m h
 | _=>(injection e; done)
def AZ (e:xN x=some l) (r:Φ.rp s.heap v x):Φ.wp (call (.builtin "len") [v]) (Φ.Gives s (.int l.length)) s:=
 k4 (C:=fun x l=>Φ.rp s.heap v x->Φ.wp (call (.builtin "len") [v]) (Φ.Gives s (.int l.length)) s) e
  (fun l hz r=>r.list_elim fun a o vs n U ha hc hd hl E=>aQ hl▸PyProof.Rows.len_list ⟨_,ha,hc.1,_,hd⟩ (by rw [aQ hl]; exact BM hz) ⟨.toks _ _,.int _ _⟩)
  (fun l hz r=>r.tuple_elim fun a o vs n U ha hc hd hl E=>aQ hl▸PyProof.Rows.len_tuple ⟨_,ha,hc,_,hd⟩ (by rw [aQ hl]; exact BM hz) ⟨.toks _ _,.int _ _⟩)
  (fun t hz r=>r.str_elim fun tk E=>by
   unfold bq;rw [zA4,zB3];exact P.len_str (by rw [zB3] at hz; have:=BM hz; unfold Str.length; omega) ⟨.toks _ _,.int _ _⟩) r
def Bn {fp pos:Pos} {q:Expr×DV} (hx:br Φ.fx.env.scope.names "len"=true) (hq:aq q.1=true/\bj Φ q):Ev Φ (eval (.Call (.Name "len" fp) [q.1] [] pos) Φ.fx.env) (fun K=>bv [q.2] fun xs=>okK (opN .len xs) K):=
 px (qs:=[q]) (op:=opN .len) hx rfl (.inl ⟨_,rfl⟩) (fun p m=>by obtain rfl:=zA6 m; exact hq) fun s vs xs z I rs e=>cP (C:=fun vs=>Φ.wp (call (.builtin "len") vs) (Φ.Gives s z) s) e rs fun v x r e=>map_elim e fun l e=>AZ e r
end
section
variable {Φ:Ct} {s:Shared} {v u:Value} {x y z:V} {d:DV}
def kJ (q:qG Eg=true) (e:isT (.dict Eg) t=some b):False:=by
 cases Eg with
 | nil=>(injection q; done)
 | cons=>(injection e; done)
def A9 (hT:iT[t]?=some T) (e:isT x t=some b) (r:Φ.rp s.heap v x):Φ.wp (call (.builtin "isinstance") [v,.type T]) (Φ.Gives s (.bool b)) s:=fun E=>by
 have G0:∀ {b},Φ.Gives s (.bool b) (.bool b) s:=⟨.refl _,.bool _⟩;have G1:∀ {b},Φ.Gives s (.bool b) (.bool b) { s with toks:=s.toks+1 }:=⟨.toks _ _,.bool _⟩
 match t,hT with
 | 0,hT=>
  (injection hT with hT; subst hT);cases r with
  | none=>exact some_elim e (IsiPair.NoneType_str G1)
  | bool c=>exact some_elim e (IsiPair.bool_str G1)
  | int i t=>exact some_elim e (IsiPair.int_str G1)
  | str _ t=>exact some_elim e (IsiPair.str_str G0)
  | list _ ha hc=>exact some_elim e (IsiPair.list_str ha hc.1 G1)
  | tuple _ ha hc=>exact some_elim e (IsiPair.tuple_str ha hc G1)
  | inst _ _ _ _ _ _ q=>exact (kJ q e).elim
  | exc=>(injection e; done)
  | dict _ _ ha hc=>exact if_elim e fun U=>IsiPair.dict_str ha hc.1 G1
 | 1,hT=>
  (injection hT with hT; subst hT);cases r with
  | none=>exact some_elim e (IsiPair.NoneType_tuple G1)
  | bool c=>exact some_elim e (IsiPair.bool_tuple G1)
  | int i t=>exact some_elim e (IsiPair.int_tuple G1)
  | str _ t=>exact some_elim e (IsiPair.str_tuple G1)
  | list _ ha hc=>exact some_elim e (IsiPair.list_tuple ha hc.1 G1)
  | tuple _ ha hc=>exact some_elim e (IsiPair.tuple_tuple ha hc G0)
  | inst _ _ _ _ _ _ q=>exact (kJ q e).elim
  | exc=>(injection e; done)
  | dict _ _ ha hc=>exact if_elim e fun U=>IsiPair.dict_tuple ha hc.1 G1
 | 2,hT=>
  (injection hT with hT; subst hT);cases r with
  | none=>exact some_elim e (IsiPair.NoneType_list G1)
  | bool c=>exact some_elim e (IsiPair.bool_list G1)
  | int i t=>exact some_elim e (IsiPair.int_list G1)
  | str _ t=>exact some_elim e (IsiPair.str_list G1)
  | list _ ha hc=>exact some_elim e (IsiPair.list_list ha hc.1 G0)
  | tuple _ ha hc=>exact some_elim e (IsiPair.tuple_list ha hc G1)
  | inst _ _ _ _ _ _ q=>exact (kJ q e).elim
  | exc=>(injection e; done)
  | dict _ _ ha hc=>exact if_elim e fun U=>IsiPair.dict_list ha hc.1 G1
 | 3,hT=>
  (injection hT with hT; subst hT);cases r with
  | none=>exact some_elim e (IsiPair.NoneType_int G1)
  | bool c=>exact some_elim e (IsiPair.bool_int G0)
  | int i t=>exact some_elim e (IsiPair.int_int G0)
  | str _ t=>exact some_elim e (IsiPair.str_int G1)
  | list _ ha hc=>exact some_elim e (IsiPair.list_int ha hc.1 G1)
  | tuple _ ha hc=>exact some_elim e (IsiPair.tuple_int ha hc G1)
  | inst _ _ _ _ _ _ q=>exact (kJ q e).elim
  | exc=>(injection e; done)
  | dict _ _ ha hc=>exact if_elim e fun U=>IsiPair.dict_int ha hc.1 G1
 | 4,hT=>
  (injection hT with hT; subst hT);cases r with
  | none=>exact some_elim e (IsiPair.NoneType_bool G1)
  | bool c=>exact some_elim e (IsiPair.bool_bool G0)
  | int i t=>exact some_elim e (IsiPair.int_bool G1)
  | str _ t=>exact some_elim e (IsiPair.str_bool G1)
  | list _ ha hc=>exact some_elim e (IsiPair.list_bool ha hc.1 G1)
  | tuple _ ha hc=>exact some_elim e (IsiPair.tuple_bool ha hc G1)
  | inst _ _ _ _ _ _ q=>exact (kJ q e).elim
  | exc=>(injection e; done)
  | dict _ _ ha hc=>exact if_elim e fun U=>IsiPair.dict_bool ha hc.1 G1
def Ap {t:Nat} (hT:iT[t]?=some T):bI.lookup (ofString T)=some (.type T):=by
 match t,hT with
 | 0,hT=>(injection hT with hT; subst hT); decide
 | 1,hT=>(injection hT with hT; subst hT); decide
 | 2,hT=>(injection hT with hT; subst hT); decide
 | 3,hT=>(injection hT with hT; subst hT); decide
 | 4,hT=>(injection hT with hT; subst hT); decide
def Bp {t:Nat} (hT:iT[t]?=some T) (hx:br Φ.fx.env.scope.names "isinstance"=true) (hy:br Φ.fx.env.scope.names (ofString T)=true) (hp:aq q.1=true) (h:bj Φ q) :
  Ev Φ (eval (.Call (.Name "isinstance" fp) [q.1,.Name (ofString T) pT] [] pos) Φ.fx.env) (fun K=>q.2 fun x=>okK (isT x t) fun b=>K (.bool b)):=fun K s hd I E=>by
 refine (?_:wpAny _ _ (eval (.Name "isinstance" fp) Φ.fx.env >>= fun F=>callWith pos F [] (backTo pos (starEach [q.1,.Name (ofString T) pT] Φ.fx.env)) []) _ _ s);refine zC1 (bH (v:=.builtin "isinstance") I hx rfl ?_ E);rw [aJ hp];refine callWith_builtin rfl (Calls.evalArgs_plain ?_);have q':spliced (backTo pos ((false,eval q.1 Φ.fx.env) :: starEach [.Name (ofString T) pT] Φ.fx.env))=(eval q.1 Φ.fx.env >>= fun v=>holding [v] (eval (.Name (ofString T) pT) Φ.fx.env >>= fun u=>holding [u] (pure []) >>= fun vs=>pure (u :: vs)) >>= fun vs=>pure (v :: vs)):=rfl;refine (?_:wpAny _ _ (spliced (backTo pos ((false,eval q.1 Φ.fx.env) :: starEach [.Name (ofString T) pT] Φ.fx.env))) _ _ _);rw [q'];refine zC1 (wpAny_mono (h _ s hd I E) (fun v s₁ ⟨B,k,x,hx,r⟩=>?_) fun U U z=>z);have C':=I.keep B k;refine zC1 (wpAny_holding (zC1 (bH C' hy (Ap hT) ?_ E)));refine zC1 (wpAny_holding (zC2 (zC2 (zC2 ?_))));exact ah hx fun b e kb=>wpAny_mono (step C' kb (A9 hT e r) E) (fun U U p=>p.lift k) fun U U z=>z
def kf (k:aL s.heap h'):Grown s { s with heap:=h',toks:=tk }:=⟨k,rfl,rfl⟩
def lv {C:V->List V->Prop} (e:jf x=some l) (kl:∀ l:List V,l.length<=am->C (.list l) l) (kt:∀ l:List V,l.length<=am->C (.tuple l) l):C x l:=by
 cases x with
 | list m=>exact fit_elim e fun h=>kl m h
 | tuple m=>exact fit_elim e fun h=>kt m h
 | _=>(injection e; done)
def sC (I:Inv Φ s) (k:aL s.heap h') (hD:h'.get? s.heap.objs.size=some { cls:=.type "list",dict:=none,data:=.seq vs c,slots:=#[] }) (rr:Φ.rps h' vs.toList l) :
  Φ.Gives s (.list l) (.ref s.heap.objs.size) { s with heap:=h',toks:=tk }:=⟨kf k,.list I.fresh hD ⟨rfl,rfl⟩ rfl rr⟩
def yg (I:Inv Φ s) (e:jf x=some l) (r:Φ.rp s.heap v x):Φ.wp (call (.type "list") [v]) (fun w s'=>w=.ref s.heap.objs.size/\Φ.Gives s (.list l) w s') s:=
 lv (C:=fun x l=>Φ.rp s.heap v x->Φ.wp (call (.type "list") [v]) (fun w s'=>w=.ref s.heap.objs.size/\Φ.Gives s (.list l) w s') s) e
  (fun l hz r=>r.list_elim fun a o vs n U ha hc hd hl E=>call_list_seq (hsz:=by rw [aQ hl]; exact cE hz) _ (.inl rfl) ha hc.1 hd fun h' c' hk hD=>⟨rfl,sC (tk:=s.toks) I hk hD (hl.keep (aL.keeps hk))⟩)
  (fun l hz r=>r.tuple_elim fun a o vs n U ha hc hd hl E=>call_list_seq (hsz:=by rw [aQ hl]; exact cE hz) _ (.inr rfl) ha hc hd fun h' c' hk hD=>⟨rfl,sC (tk:=s.toks) I hk hD (hl.keep (aL.keeps hk))⟩) r
def qh (e:gb l=some ss) (r:Φ.rps h vs l):StrsAre vs (ss.map fun x=>(⟨x.toArray⟩:Str)):=by
 refine r.ind (D:=fun vs l=>∀ ss,gb l=some ss->StrsAre vs (ss.map fun x=>(⟨x.toArray⟩:Str))) (fun ss e=>some_elim e .nil) (fun v vs x l r U ih ss e=>?_) ss e;unfold gb at e;rw [mapM_cons] at e;obtain ⟨a,ha,e⟩:=bind_eq_some_iff.mp e;obtain ⟨b,hb,e⟩:=bind_eq_some_iff.mp e;(injection e with e; subst e);exact eL (C:=fun x=>Φ.rp h v x->StrsAre (v :: vs) ((a :: b).map fun x=>(⟨x.toArray⟩:Str))) ha (fun t et r=>r.str_elim fun tk=>by (injection et with et; subst et); rw [map_cons,iX]; exact .cons _ _ (ih b hb)) r
def jz (e:eS l=some ns) (r:Φ.rps h vs l):IntsAre vs ns:=by
 refine r.ind (D:=fun vs l=>∀ ns,eS l=some ns->IntsAre vs ns) (fun ss e=>some_elim e .nil) (fun v vs x l r U ih ss e=>?_) ns e;unfold eS at e;rw [mapM_cons] at e;obtain ⟨a,ha,e⟩:=bind_eq_some_iff.mp e;obtain ⟨b,hb,e⟩:=bind_eq_some_iff.mp e;(injection e with e; subst e);exact bA (C:=fun x=>Φ.rp h v x->IntsAre (v :: vs) (a :: b)) ha (fun i ei r=>r.int_elim fun tk=>by (injection ei with ei; subst ei); exact .cons _ _ (ih b hb)) r
theorem jw (E8:List Nat):∀ (ss:List (List Nat)) (a:List Nat),((ss.map fun x=>(⟨x.toArray⟩:Str)).foldl (fun EJ p=>EJ++E8.toArray++p.cps) a.toArray).toList=iq E8 (a :: ss)
 | [],a=>rfl
 | x :: r,a=>by
  have:=jw E8 r (a++E8++x);rw [map_cons,foldl_cons,show a.toArray++E8.toArray++x.toArray=(a++E8++x).toArray by simp,this];cases r <;> simp [iq]
theorem lW (E8:List Nat):∀ ss:List (List Nat),(Builtin.Str.glued ⟨E8.toArray⟩ (ss.map fun x=>(⟨x.toArray⟩:Str))).cps.toList=iq E8 ss
 | []=>rfl
 | x :: r=>jw E8 r x
def yq (e:gb l=some ss) (hz:(ss.map length).sum+ss.length * E8.cps.toList.length<=am) (rs:Φ.rp s.heap u (.str E8)) (r:Φ.rp s.heap v (.list l)) :
  Φ.wp (call (.builtin "str.join") [u,v]) (Φ.Gives s (text (iq E8.cps.toList ss))) s:=by
 refine rs.str_elim fun t=>r.list_elim fun a o vs n U ha hc hd hl E=>?_;have q:=lW E8.cps.toList ss;rw [iX] at q;refine PyProof.Rows.join_list ⟨_,ha,hc.1,_,hd⟩ (qh e hl) ?_ fun t' k=>⟨.toks _ _,.text q⟩;have e1:((ss.map fun x=>(⟨x.toArray⟩:Str)).map (·.length))=ss.map length:=by simp [Str.length]
 rw [e1,zA4];rw [zB3] at hz;exact zB1 hz (show am<=16777216 by decide)
def v3 (I:Inv Φ s) (q:(dH y&&dH (.list l))=true) (r:Φ.rp s.heap v (.list l)) (r2:Φ.rp s.heap u y):Φ.wp (call (.builtin "list.count") [v,u]) (Φ.Gives s (.int (l.countP fun z=>PyData.eqv z y))) s:=fun E=>by
 have q:=zA2 q;have h1:=okd q.1;have h2:=okd q.2;obtain ⟨bs,p2⟩:=r2.reads h1.1;obtain ⟨as,p1⟩:=r.reads h2.1;refine r.list_elim fun a o vs n U ha hc hd hl=>?_;obtain ⟨cls,dd,data,sl⟩:=o;obtain ⟨rfl,rfl⟩:=hc;subst hd;obtain ⟨as,ra⟩:=(oQ (v:=.none) (x:=.none)).2 hl h2.1;have:=SeqAt.items_eqAt (A:=Φ.fx.A) (vs:=vs) ra p2 h2.1 h1.1 (iE I h1.2);refine call_meets PySem.F.slot_list_count ⟨_,ha,rfl⟩ PySem.F.entry_list_count (PySem.F.args_list_count_2 _ _) (SeqAt.list_countAt a vs n none sl u (fun y'=>PyData.eqv (SeqAt.readOf s.heap y') y)) ⟨ha,this,?_⟩;have e:vs.toList.countP (fun y'=>PyData.eqv (SeqAt.readOf s.heap y') y)=l.countP fun z=>PyData.eqv z y:=by
  rw [<- SeqAt.readsAll_map l _ _ h2.1 ra,List.countP_map]; rfl
 rw [e];exact ⟨.toks _ _,.int _ _⟩
end
section
variable {Φ:Ct} {s:Shared} {v u:Value} {x y z:V} {d d1 d2:DV}
abbrev Ct.safe (Φ:Ct) (f:Nat):Prop:=Φ.fx.hm=true->Φ.fx.g.safe f=true
def dE {K:V->Prop} {E:Value->Shared->Prop} (hs:Φ.safe f) (I:Inv Φ s) (h:ao Φ.fx.g.P Φ.fx.d f xs fun y=>noX y=true/\K y) (rs:Φ.rps s.heap vs xs) :
  wpAny (model Φ.fx.g.prog Φ.fx.g.w) Φ.fx.A (call (.ref (Φ.fx.g.fn f)) vs) (jR Φ (Φ.fx.g.newf f) s K) E s:=
 wpAny_mono (I.ok.call Φ.fx.hm f xs _ Φ.fx.A s Φ.bad vs h I.ok.hand hs I.ok.room I.ok.units I.base I.fr (fun a b=>I.badLive b) (fun a b=>I.bad0 b) rs) ((by rintro _ _ ⟨B,k,y,hy,_,r,nv⟩; exact ⟨⟨B,k,y,hy.2,r⟩,nv⟩)) (by rintro _ _ ⟨_,_,c,e,_,_,q,_⟩; exact nB q.1)
theorem Inv.frag (I:Inv Φ s):Φ.fx.g.K.In s.heap:=I.ok.gr.frag.keeps I.base.stays
def yP {f:Nat} {qs:List (Expr×DV)} (hx:br Φ.fx.env.scope.names n=true) (hf:Φ.fx.g.fns.lookup n=some f) (Fw:keepIn Φ.fx.g.K (.ref (Φ.fx.g.fn f))=true) (Fe:Φ.safe f) (hq:∀ q∈qs,aq q.1=true/\bj Φ q) :
  EvC Φ (Φ.fx.g.newf f) (eval (.Call (.Name n fp) (qs.map Prod.fst) [] pos) Φ.fx.env) (fun K=>bv (qs.map Prod.snd) fun xs=>ao Φ.fx.g.P Φ.fx.d f xs fun y=>noX y=true/\K y):=fun K s hd I E=>by
 refine (?_:wpAny _ _ (eval (.Name n fp) Φ.fx.env >>= fun F=>callWith pos F [] (backTo pos (starEach (qs.map Prod.fst) Φ.fx.env)) []) _ _ s);refine zC1 (bP I hx (I.ok.gr.fns n f hf) ?_ E);refine callWith_of (by rw [dC (b8 fun q m=>(hq q m).1)]; rfl) (keeps_K Fw) (cM hq hd I fun vs xs s₁ C' Ef hx rs=>⟨C'.frag,?_⟩);exact wpAny_mono (dE Fe C' hx rs) (fun U U p=>p.lift Ef) fun U U z=>z
def bN (h:ci o=true):attributeBase o name env t=t:=by
 cases o with
 | Call f xs ks p=>
  cases xs with
  | nil=>exact nB h
  | cons=>cases f <;> rfl
 | _=>first | rfl | exact nB h
def sT {o e:Expr} {name:Str} {T id:String} {Ew pos:Pos} {op:V->V->Option V} (ho:ci o=true) (hp:aq e=true) (Es:(Ew.endLine==pos.line)=true)
  (pa:PlainAttrs T) (slot:PySem.Slot T name id) (Gh:typeOf (.builtin id)=pure (.type "method_descriptor")) (h1:Ev Φ (eval o Φ.fx.env) d1) (h2:Ev Φ (eval e Φ.fx.env) d2) {ok:V->Bool}
  (JC:∀ (s:Shared) v x,ok x=true->Φ.rp s.heap v x->s.TypeIs v T/\∀ a,v=.ref a->∃ ob,s.heap.get? a=some ob/\ob.dict=none)
  (Gy:∀ (s:Shared) u v x y z,Inv Φ s->Φ.rp s.heap u x->Φ.rp s.heap v y->op x y=some z->Φ.wp (call (.builtin id) [u,v]) (Φ.Gives s z) s) :
  Ev Φ (eval (.Call (.Attribute o name Ew) [e] [] pos) Φ.fx.env) (fun K=>d1 fun x=>ok x=true/\d2 fun y=>okK (op x y) K):=fun K s hd I E=>by
 refine wpAny_Call_method (bN ho) ?_ Es pa slot Gh ?_
 ·rw [aJ hp]; rfl
 refine wpAny_mono (h1 _ s hd I E) (fun ov s₁ ⟨B,k,x,⟨hx,EP⟩,r1⟩=>?_) fun U U z=>z;have C':=I.keep B k;obtain ⟨hT,Fc⟩:=JC s₁ ov x hx r1;refine ⟨hT,Fc,callWith_builtin ?_ ?_⟩
 ·rw [aJ hp]; rfl
 refine cM (qs:=[(e,d2)]) (K:=fun ys=>okK (one ys (op x)) K) (fun q m=>by obtain rfl:=zA6 m; exact ⟨hp,h2⟩) EP C' fun vs ys Ee Eu Ex hy rs=>ah hy fun z e kz=>?_;refine cP (C:=fun vs=>wpAny _ _ (call (.builtin id) ([ov]++vs) []) _ _ Ee) e rs fun v y r2 e=>?_;exact wpAny_mono (step Eu kz (Gy Ee ov v x y z Eu (r1.keep Ex) r2 e) E) (fun U U p=>(p.lift Ex).lift k) fun U U z=>z
def u5 (s:Shared) (v:Value) (x:V) (hx:isStr x=true) (r:Φ.rp s.heap v x):s.TypeIs v "str"/\∀ a,v=.ref a->∃ ob,s.heap.get? a=some ob/\ob.dict=none:=by
 cases x with
 | str t=>exact r.str_elim (C:=fun v=>s.TypeIs v "str"/\∀ a,v=.ref a->∃ o,s.heap.get? a=some o/\o.dict=none) fun tk=>⟨typeIs_str _ _ _,fun U q=>nomatch q⟩
 | _=>(injection hx; done)
def yO (ho:ci o=true) (hp:aq e=true) (Es:(Ew.endLine==pos.line)=true) (h1:Ev Φ (eval o Φ.fx.env) d1) (h2:Ev Φ (eval e Φ.fx.env) d2) :
  Ev Φ (eval (.Call (.Attribute o "join" Ew) [e] [] pos) Φ.fx.env) (fun K=>d1 fun x=>isStr x=true/\d2 fun y=>okK (opN .join [x,y]) K):=
 sT (op:=fun x y=>opN .join [x,y]) ho hp Es PySem.F.plainAttrs_str PySem.F.slot_str_join PySem.F.type_str_join h1 h2 u5
  fun s u v x y z I ru rv e=>eL (f:=fun E8=>dY y fun l=>(gb l).bind fun ss=>if (ss.map length).sum+ss.length * E8.length<=am then some (text (iq E8 ss)) else none) (C:=fun x=>Φ.rp s.heap u x->Φ.wp (call (.builtin "str.join") [u,v]) (Φ.Gives s z) s) e
   (fun t e ru=>bL (C:=fun y=>Φ.rp s.heap v y->Φ.wp (call (.builtin "str.join") [u,v]) (Φ.Gives s z) s) e (fun l e rv=>(bind_eq_some_iff.mp e).elim (by rintro ss ⟨h,e⟩; exact if_elim e fun hz=>yq h hz ru rv)) rv) ru
def vY (ho:ci o=true) (hp:aq e=true) (Es:(Ew.endLine==pos.line)=true) (h1:Ev Φ (eval o Φ.fx.env) d1) (h2:Ev Φ (eval e Φ.fx.env) d2) :
  Ev Φ (eval (.Call (.Attribute o "count" Ew) [e] [] pos) Φ.fx.env) (fun K=>d1 fun x=>kK x=true/\d2 fun y=>okK (opN .count [x,y]) K):=
 sT (op:=fun x y=>opN .count [x,y]) ho hp Es PySem.F.plainAttrs_list PySem.F.slot_list_count PySem.F.type_list_count h1 h2
  (fun s v x hx r=>by
   cases x with
   | list l=>exact r.list_elim (C:=fun v=>s.TypeIs v "list"/\∀ a,v=.ref a->∃ o,s.heap.get? a=some o/\o.dict=none) fun a o vs n hb ha hc hd hl=>⟨⟨_,ha,hc.1⟩,fun a q=>by (injection q with q; subst q); exact ⟨_,ha,hc.2⟩⟩
   | _=>(injection hx; done))
  fun s u v x y z I ru rv e=>bL (f:=fun l=>if (dH y&&dH (.list l))=true then some (PyData.int (l.countP fun z=>PyData.eqv z y)) else none) (C:=fun x=>Φ.rp s.heap u x->Φ.wp (call (.builtin "list.count") [u,v]) (Φ.Gives s z) s) e (fun l e ru=>if_elim e fun q=>v3 I q ru rv) ru
end
structure Feed (g:Gl) (A:Around) (T:Expr) (I:Addr) (fp wr:List Addr) (vals:List Value) (l0 l:List V) (St:Nat->Heap->Prop):Prop where
 sub:∀ b∈wr,b∈fp
 frame:∀ i h h',St i h->(∀ b∈fp,∀ o,h.get? b=some o->h'.get? b=some o)->St i h'
 live:∀ i h b,St i h->b∈fp->dN h b
 item:∀ i x (s:Shared) bad (Q:Value->Shared->Prop) (E:Value->Shared->Prop),l[i]?=some x->St i s.heap->RpAll g bad s.heap vals l0->(∀ a,bad a->aW s.heap a)->(∀ b∈wr,bad b) ->
  (∀ v h' tk,St (i+1) h'->(∀ b o,b∉wr->s.heap.get? b=some o->h'.get? b=some o)->Rp g bad h' v x->Q v { s with heap:=h',toks:=tk }) ->
  wpAny (model g.prog g.w) A (pyNext (.ref I)) (fun r s₁=>∃ v,r=some v/\wpAny (model g.prog g.w) A (letOwnedTupleGo T (.ref I) v) (fun U Ee=>Q v Ee) E s₁) E s
 done:∀ (s:Shared) (Q:Shared->Prop) (E:Value->Shared->Prop),St l.length s.heap->(∀ h' tk,(∀ b o,b∉wr->s.heap.get? b=some o->h'.get? b=some o)->Q { s with heap:=h',toks:=tk }) ->
  wpAny (model g.prog g.w) A (pyNext (.ref I)) (fun r s₁=>r=none/\Q s₁) E s
 self:∀ i (s:Shared) (Q:Value->Shared->Prop) (E:Value->Shared->Prop),St i s.heap->Q (.ref I) s->wpAny (model g.prog g.w) A (pyIter (.ref I)) Q E s
def w5 (I:Addr) (h:Heap):Prop:=∃ o n vs,h.get? I=some o/\o.cls=.type n/\o.data=.fields vs /\
 ["enumerate", "zip", "dict_itemiterator", "dict_reverseitemiterator", "odict_iterator", "itertools.zip_longest", "itertools.pairwise"].contains n=false
def ot {E:Value->Shared->Prop} {Q:Unit->Shared->Prop} (go:w5 I s.heap) (h:Q () s):wpAny M A (letOwnedTupleGo T (.ref I) v) Q E s:=by
 have main:∀ es k p,wpAny M A (letOwnedTupleGo (.Tuple es k p) (.ref I) v) Q E s:=fun es k p=>by
  obtain ⟨o,n,vs,ho,hc,hd,hn⟩:=go;cases v with
  | ref a=>
   refine zC1 (wpAny_load ho ?_);rw [hc,hd];exact bu (by rw [hn]; exact Bool.false_ne_true) (wpAny_pure h)
  | _=>exact wpAny_pure h
 cases T with
 | Tuple es k p=>exact main es k p
 | List es p=>exact main [] 0 p
 | _=>exact wpAny_pure h
section
variable {g:Gl} {A:Around} {T:Expr} {I:Addr} {fp wr:List Addr} {n:Nat} {P:Nat->Value->Prop} {St:Nat->Heap->Prop} {vals:List Value} {l0 l:List V}
theorem Feed.ofWalks (W:Walks g.prog g.w A I fp wr n P St) (hn:l.length=n) (JS:∀ i h b,St i h->b∈fp->dN h b) (hgo:∀ i h,St i h->w5 I h)
  (hP:∀ i x v h bad,l[i]?=some x->P i v->RpAll g bad h vals l0->Rp g bad h v x):Feed g A T I fp wr vals l0 l St where
 sub:=W.sub
 frame:=W.frame
 live:=JS
 item:=fun i x s bad Q E hx FE hv hb hw hQ=>W.item i s _ _ (hn▸(List.getElem?_eq_some_iff.mp hx).1) FE fun v h' tk hp G5 hk=>⟨v,rfl,ot (hgo _ _ G5) (hQ v h' tk G5 hk (hP i x v h' bad hx hp (hv.map fun b o e U nb=>⟨nb,hk b o (fun m=>nb (hw b m)) e⟩)))⟩
 done:=fun s Q E FE hQ=>W.done s _ _ (hn▸FE) fun h' tk hk=>⟨rfl,hQ h' tk hk⟩
 self:=W.self
def xg (ha:dN h a) (hc:dN h c) (m:b∈[a,c]):dN h b:=by
 rcases mem_cons.mp m with rfl | m
 ·exact ha
 ·obtain rfl:=zA6 m; exact hc
def tX (hh:A.handled=none) (I ax:Addr) (EA:ax≠I) (items:Array Value) (l:List V) (hl:items.size=l.length) :
  Feed g A T I [I,ax] [I] items.toList l l (fun i h=>h.IsListIter I ax i/\h.IsList ax items):=
 Feed.ofWalks (Walks.list hh I ax EA items) hl.symm (fun i h b st=>xg (st.1.elim fun U q=>⟨_,q.1,aG q.2.1⟩) (st.2.elim fun U q=>⟨_,q.1,aG q.2.1⟩))
  (fun i h st=>by obtain ⟨o',e',c,d⟩:=st.1; exact ⟨_,_,_,e',c,d,by decide⟩)
  fun i x v h bad hx hv r=>by
   obtain ⟨v',e,rr⟩:=r.get hx;rw [Q2,hv] at e;(injection e with e; subst e); exact rr
def qM (hh:A.handled=none) (I ax:Addr) (EA:ax≠I) (items:Array Value) (l:List V) (hl:items.size=l.length) :
  Feed g A T I [I,ax] [I] items.toList l l (fun i h=>h.IsTupleIter I ax i/\h.IsTuple ax items):=
 Feed.ofWalks (Walks.tuple hh I ax EA items) hl.symm (fun i h b st=>xg (st.1.elim fun U q=>⟨_,q.1,aG q.2.1⟩) (st.2.elim fun U q=>⟨_,q.1,aG q.2.1⟩))
  (fun i h st=>by obtain ⟨o',e',c,d⟩:=st.1; exact ⟨_,_,_,e',c,d,by decide⟩)
  fun i x v h bad hx hv r=>by
   obtain ⟨v',e,rr⟩:=r.get hx;rw [Q2,hv] at e;(injection e with e; subst e); exact rr
def vS (nm:String) (F9:nm="str_ascii_iterator"\/nm="str_iterator") (I:Addr) (x:Str) (t:Tok) (W:Walks g.prog g.w A I [I] [I] x.cps.size (SignAt x) (fun i h=>h.IsStrIter I nm x t i)) :
  Feed g A T I [I] [I] [] [] (bq x.cps.toList) (fun i h=>h.IsStrIter I nm x t i):=
 Feed.ofWalks W (by unfold bq; rw [zA4,zB3])
  (fun i h b st hb=>by obtain rfl:=zA6 hb; exact st.elim fun U q=>⟨_,q.1,aG q.2.1 (by rcases F9 with rfl | rfl <;> decide)⟩)
  (fun i h st=>by obtain ⟨o',e',c,d⟩:=st; exact ⟨_,_,_,e',c,d,by rcases F9 with rfl | rfl <;> decide⟩)
  fun i y v h bad hx hv r=>by
   obtain ⟨c,u,hc,rfl⟩:=hv;unfold bq at hx;rw [getElem?_map,Q2,hc] at hx;(injection hx with hx; subst hx);exact .text rfl
def qN (hh:A.handled=none) (I:Addr) (a b:Int):Feed g A T I [I] [I] [] [] (a9 a b) (fun i h=>IsRangeIter h I (a+(i:Nat) * 1) (((b - a).toNat:Int) - (i:Nat)) 1):=
 Feed.ofWalks (Walks.range hh I a 1 (b - a).toNat) (by unfold a9; rw [zA4,length_range])
  (fun i h b st hb=>by obtain rfl:=zA6 hb; exact ⟨_,st,aG rfl⟩)
  (fun i h st=>⟨_,_,_,st,rfl,rfl,by decide⟩)
  fun i x v h bad hx hv r=>by
   obtain ⟨t,rfl⟩:=hv;unfold a9 at hx;rw [getElem?_map] at hx;obtain ⟨j,hj,rfl⟩:=map_eq_some_iff.mp hx;rw [List.getElem?_range (by have:=(List.getElem?_eq_some_iff.mp hj).1; rwa [length_range] at this)] at hj;(injection hj with hj; subst hj);rw [Int.mul_one];exact .int _ _
end
inductive FeedAt (Φ:Ct) (T:Expr) (st:Bool) (s₀ Ee:Shared) (it:Value) (l:List V):Prop
 | mk:∀ I fp wr vals l0 St,it=.ref I->Feed Φ.fx.g Φ.fx.A T I fp wr vals l0 l St->St 0 Ee.heap->Φ.rps s₀.heap vals l0->(∀ b∈wr,s₀.heap.get? b=none)->(∀ b∈fp,s₀.heap.get? b=none\/(st=true->¬ Φ.bad b))->l.length<=am->FeedAt Φ T st s₀ Ee it l
def eV (Φ:Ct) (T:Expr) (st:Bool) (iter:Expr) (d:(List V->Prop)->Prop):Prop:=∀ K s,d K->Inv Φ s->∀ (Q:Value->Shared->Prop) (E:Value->Shared->Prop),
 (∀ l s₀ it Ee,K l->Inv Φ s₀->aI s.heap s₀.heap->Grown s₀ Ee->FeedAt Φ T st s₀ Ee it l->Q it Ee) ->
 wpAny (model Φ.fx.g.prog Φ.fx.g.w) Φ.fx.A (eval iter Φ.fx.env) (fun x s₁=>wpAny (model Φ.fx.g.prog Φ.fx.g.w) Φ.fx.A (pyIter x) Q E s₁) E s
section
variable {Φ:Ct} [Hm Φ.fx] {s:Shared} {v:Value} {x:V} {l:List V} {T:Expr} {st:Bool} {d:DV} {E:Value->Shared->Prop}
def cF (e:s.heap.get? b=some o):b≠s.heap.objs.size:=ne_of_lt (lt_size e)
def lH (I:Inv Φ s) (hz:l.length<=am) (hb:st=true->¬ Φ.bad a) (ha:s.heap.get? a=some o) (hc:o.cls=.type "list") (hd:o.data=.seq vs n) (hl:Φ.rps s.heap vs.toList l) :
  wpAny (model Φ.fx.g.prog Φ.fx.g.w) Φ.fx.A (pyIter (.ref a)) (fun it s'=>Grown s s'/\FeedAt Φ T st s s' it l) E s:=by
 have hL:s.heap.IsList a vs:=⟨_,ha,hc,_,hd⟩;refine wpAny_pyIter_list hL ⟨Grown.push s _ s.toks,_,_,_,_,_,_,rfl,tX (I.ok.hand Hm.no) _ a (cF ha) vs l (aQ hl),⟨⟨_,Q7 _ rfl,rfl,rfl⟩,hL.push _⟩,hl,fun b q=>?_,fun b q=>?_,hz⟩
 ·obtain rfl:=zA6 q; exact ak _
 ·rcases mem_cons.mp q with rfl | q
  ·exact .inl (ak _)
  ·obtain rfl:=zA6 q; exact .inr hb
def A6 (I:Inv Φ s) (e:xN x=some l) (r:Φ.rp s.heap v x):wpAny (model Φ.fx.g.prog Φ.fx.g.w) Φ.fx.A (pyIter v) (fun it s'=>Grown s s'/\FeedAt Φ T st s s' it l) E s:=by
 refine k4 (C:=fun x l=>Φ.rp s.heap v x->wpAny (model Φ.fx.g.prog Φ.fx.g.w) Φ.fx.A (pyIter v) (fun it s'=>Grown s s'/\FeedAt Φ T st s s' it l) E s) e (fun l hz r=>?_) (fun l hz r=>?_) (fun t hz r=>?_) r
 ·exact r.list_elim fun a o vs n hb ha hc hd hl=>lH I hz (fun U=>hb) ha hc.1 hd hl
 ·refine r.tuple_elim fun a o vs n hb ha hc hd hl=>?_;have hL:s.heap.IsTuple a vs:=⟨_,ha,hc,_,hd⟩;refine wpAny_pyIter_tuple hL ⟨Grown.push s _ s.toks,_,_,_,_,_,_,rfl,qM (I.ok.hand Hm.no) _ a (cF ha) vs l (aQ hl),⟨⟨_,Q7 _ rfl,rfl,rfl⟩,hL.at fun o e=>Q4 _ e⟩,hl,fun b q=>?_,fun b q=>?_,hz⟩
  ·obtain rfl:=zA6 q; exact ak _
  ·rcases mem_cons.mp q with rfl | q
   ·exact .inl (ak _)
   ·obtain rfl:=zA6 q; exact .inr fun U=>hb
 ·refine r.str_elim fun tk=>?_;have mk:∀ nm (F9:nm="str_ascii_iterator"\/nm="str_iterator") (o:Obj),Walks Φ.fx.g.prog Φ.fx.g.w Φ.fx.A s.heap.objs.size [s.heap.objs.size] [s.heap.objs.size] t.cps.size (SignAt t) (fun i h=>h.IsStrIter s.heap.objs.size nm t tk i)->(s.heap.push o).IsStrIter s.heap.objs.size nm t tk 0 ->
    Grown s { s with heap:=s.heap.push o }/\FeedAt Φ T st s { s with heap:=s.heap.push o } (.ref s.heap.objs.size) (bq t.cps.toList):=fun nm F9 o W st=>
   ⟨Grown.push s _ s.toks,_,_,_,_,_,_,rfl,vS nm F9 _ t tk W,st,.nil,fun b q=>by obtain rfl:=zA6 q; exact ak _,fun b q=>by obtain rfl:=zA6 q; exact .inl (ak _),by unfold bq; rw [zA4]; exact hz⟩
  cases ha:t.cps.all (· < 128)
  ·exact wpAny_pyIter_wide ha (mk _ (.inr rfl) _ (Walks.strWide (I.ok.hand Hm.no) _ t tk) ⟨_,Q7 _ rfl,rfl,rfl⟩)
  ·exact wpAny_pyIter_ascii ha (mk _ (.inl rfl) _ (Walks.strAscii (I.ok.hand Hm.no) _ t tk) ⟨_,Q7 _ rfl,rfl,rfl⟩)
def tO (I:Inv Φ s) (hz:Eg.length<=am) (q:dkV Eg=true) (r:Φ.rp s.heap v (.dict Eg)):wpAny (model Φ.fx.g.prog Φ.fx.g.w) Φ.fx.A (pyIter v) (fun it s'=>Grown s s'/\FeedAt Φ T st s s' it (Eg.map (·.1))) E s:=by
 refine r.dict_elim q fun a o es n hb hm ha hc hd hk k1 k2=>?_;have hl:=k1.length;rw [zA4,zB3] at hl;refine tP ?_ ha hc hd ⟨Grown.push s _ s.toks,_,_,_,_,_,_,rfl,Feed.ofWalks (vals:=es.toList.map (·.key)) (l0:=Eg.map (·.1)) (pX (I.ok.hand Hm.no) (cF ha) hd) hl.symm (fun i h b st=>xg (st.1.elim fun U q=>⟨_,q.1,aG q.2.1⟩) ⟨_,st.2,aG hc.1⟩) (fun i h st=>st.1.elim fun U q=>⟨_,_,_,q.1,q.2.1,q.2.2,by decide⟩) (fun i x v h bad hx hv r=>?_),⟨⟨_,Q7 _ rfl,rfl,rfl⟩,Q4 _ ha⟩,k1,fun b q=>?_,fun b q=>?_,by rw [zA4]; exact hz⟩
 ·exact beq_false_of_ne hm
 ·obtain ⟨v',e,rr⟩:=r.get hx;rw [hv] at e;(injection e with e; subst e); exact rr
 ·obtain rfl:=zA6 q; exact ak _
 ·rcases mem_cons.mp q with rfl | q
  ·exact .inl (ak _)
  ·obtain rfl:=zA6 q; exact .inr fun U=>hb
def A5 (I:Inv Φ s) (e:bK x=some l) (r:Φ.rp s.heap v x):wpAny (model Φ.fx.g.prog Φ.fx.g.w) Φ.fx.A (pyIter v) (fun it s'=>Grown s s'/\FeedAt Φ T st s s' it l) E s:=by
 cases x with
 | dict Eg=>
  have e:(if dkV Eg=true then dw Eg (Eg.map (·.1)) else none)=some l:=e;refine bo e fun q e=>?_;exact fit_elim (C:=fun l=>wpAny _ _ _ (fun it s'=>Grown s s'/\FeedAt Φ T st s s' it l) E s) e fun hz=>tO I hz q r
 | _=>refine A6 I ?_ r; exact e
def B9 (h:Ev Φ (eval e Φ.fx.env) d):eV Φ T st e (fun K=>d fun x=>okK (bK x) K):=fun K s hd I Q E hQ=>
 wpAny_mono (h _ s hd I E) (fun v s₁ ⟨B,k,x,hx,r⟩=>ah hx fun l e kl=>wpAny_mono (A5 (I.keep B k) e r) (fun it Ee p=>hQ l s₁ it Ee kl (I.keep B k) k p.1 p.2) fun U U z=>z) fun U U z=>z
def bY (e:bz G k=some l):getSlot G k=.ownL l:=by
 unfold bz at e
 revert e
 cases getSlot G k with
 | ownL m=>exact fun e=>congrArg Slot.ownL (Option.some.inj e)
 | _=>exact fun e=>nN e.symm
def xK (hx:Φ.fx.ρ.lookup n=some k) (hn:aV n=true):eV Φ T false (.Name n pos) (fun K=>okK (bz Φ.G k) fun l=>okK (dw l l) K):=fun K s hd I Q E hQ=>ah hd fun l e hk=>ah hk fun l' e' kl=>by
 refine fit_elim (C:=fun l'=>K l'->_) e' (fun hz kl=>?_) kl;refine oW (sl:=.ownL l) hx hn I (bY e) id (fun a u ha ow=>?_) E;obtain ⟨rfl,o,vs,n,ho,hc,hd,hl⟩:=ow;exact wpAny_mono (lH (st:=false) (T:=T) I hz (fun q=>nB q) ho hc.1 hd hl) (fun it Ee p=>hQ l s it Ee kl I (.refl _) p.1 p.2) fun U U z=>z
def rOk_of (h:rOk i=true):-(2 ^ 62)<=i/\i < 2 ^ 62:=by
 have h:=ofNat_le.mpr (Nat.le_of_ble_eq_true h);exact ⟨Int.neg_le_of_neg_le (le_trans (Int.natAbs_neg i▸le_natAbs) (le_trans h (by decide))),Int.lt_of_le_of_lt (le_trans le_natAbs h) (by decide)⟩
def jx (I:Inv Φ s₀) (h1:rOk a=true/\rOk b=true) (hz:(a9 a b).length<=am) (hr:IsRange s.heap r a b 1 t u w) (gr:Grown s₀ s) :
  wpAny (model Φ.fx.g.prog Φ.fx.g.w) Φ.fx.A (pyIter (.ref r)) (fun it s'=>Grown s₀ s'/\FeedAt Φ T st s₀ s' it (a9 a b)) E s:=by
 have qa:=rOk_of h1.1;have qb:=rOk_of h1.2;refine wpAny_pyIter_range hr (small_one qa.1 qa.2 qb.1 qb.2) ?_;have n0:s₀.heap.get? s.heap.objs.size=none:=aR gr.keeps.live (ak _);refine ⟨gr.trans (Grown.push s _ s.toks),_,_,_,_,_,_,rfl,qN (I.ok.hand Hm.no) _ a b,?_,.nil,fun c hc=>by obtain rfl:=zA6 hc; exact n0,fun c hc=>by obtain rfl:=zA6 hc; exact .inl n0,hz⟩;have e1:a+((0:Nat):Int) * 1=a:=by simp
 have e2:((b - a).toNat:Int) - ((0:Nat):Int)=Builtin.Range.rangeSize a b 1:=by rw [rangeSize_one,Int.ofNat_zero,Int.sub_zero]; split; exact toNat_of_nonneg (Int.sub_nonneg_of_le (Int.le_of_lt ‹_›)); exact congrArg ofNat (Int.toNat_of_nonpos (Int.sub_nonpos_of_le (Int.not_lt.mp ‹_›)))
 refine (?_:IsRangeIter _ _ (a+((0:Nat):Int) * 1) (((b - a).toNat:Int) - ((0:Nat):Int)) 1);rw [e1,e2];exact Q7 _ rfl
abbrev dD (Φ:Ct) (T:Expr) (st:Bool) (s:Shared) (E:Value->Shared->Prop) (F:String) (l:List V) (vs:List Value):Prop:=
 wpAny (model Φ.fx.g.prog Φ.fx.g.w) Φ.fx.A (call (.type F) vs) (fun z s₁=>wpAny (model Φ.fx.g.prog Φ.fx.g.w) Φ.fx.A (pyIter z) (fun it s'=>Grown s s'/\FeedAt Φ T st s s' it l) E s₁) E s
def oL {qs:List (Expr×DV)} {op:List V->Option V} (hx:br Φ.fx.env.scope.names f=true) (hF:bI.lookup f=some (.type F)) (hq:∀ q∈qs,aq q.1=true/\bj Φ q)
  (Gy:∀ s vs xs z l E,Inv Φ s->Φ.rps s.heap vs xs->op xs=some z->bK z=some l->dD Φ T st s E F l vs) :
  eV Φ T st (.Call (.Name f fp) (qs.map Prod.fst) [] pos) (fun K=>bv (qs.map Prod.snd) fun xs=>okK (op xs) fun z=>okK (bK z) K):=fun K s hd I Q E hQ=>by
 refine (?_:wpAny _ _ (eval (.Name f fp) Φ.fx.env >>= fun F=>callWith pos F [] (backTo pos (starEach (qs.map Prod.fst) Φ.fx.env)) []) _ _ s);refine zC1 (bH I hx hF ?_ E);refine PySem.callWith_type (dC (b8 fun q m=>(hq q m).1)) (cM hq hd I fun vs xs s₁ C' Ef hx rs=>ah hx fun z e hz=>ah hz fun l el kl=>?_);exact wpAny_mono (Gy s₁ vs xs z l E C' rs e el) (fun z Ee p=>wpAny_mono p (fun it EO p=>hQ l s₁ it EO kl C' Ef p.1 p.2) fun U U z=>z) fun U U z=>z
def ig (e:nA a b=some z) (el:bK z=some l) {C:List V->Prop} (k:rOk a=true/\rOk b=true->(a9 a b).length<=am->C (a9 a b)):C l:=
 bo e fun h1 e=>fit_elim (C:=fun z=>bK z=some l->C l) e (fun hz el=>fit_elim (C:=C) el fun U=>k h1 hz) el
def tz {qs:List (Expr×DV)} (hx:br Φ.fx.env.scope.names "range"=true) (hq:∀ q∈qs,aq q.1=true/\bj Φ q) :
  eV Φ T st (.Call (.Name "range" fp) (qs.map Prod.fst) [] pos) (fun K=>bv (qs.map Prod.snd) fun xs=>okK (opN .range xs) fun z=>okK (bK z) K):=by
 refine oL (F:="range") hx rfl hq fun s vs xs z l E I rs e el=>?_;cases rs with
 | nil=>(injection e; done)
 | cons r rs=>
  cases rs with
  | nil=>exact bA (f:=fun b=>nA 0 b) (C:=fun x=>Φ.rp s.heap _ x->dD Φ T st s E "range" l [_]) e (fun b e r=>r.int_elim (C:=fun v=>dD Φ T st s E "range" l [v]) fun t=>ig (C:=fun l=>dD Φ T st s E "range" l [.int b t]) e el fun h1 hz=>call_range_1 (jx I h1 hz (IsRange.new ..) (Grown.push s _ _))) r
  | cons r' rs=>
   cases rs with
   | nil=>exact cH (C:=fun v u=>dD Φ T st s E "range" l [v,u]) e r r' fun a b t t' e=>ig (C:=fun l=>dD Φ T st s E "range" l [.int a t,.int b t']) e el fun h1 hz=>call_range_2 (jx I h1 hz (IsRange.new ..) (Grown.push s _ _))
   | cons _ _=>(injection e; done)
end
def dT (h:Heap) (k:Bool) (l:Addr) (xs:Array Value):Prop:=match k with
 | true=>h.IsList l xs
 | false=>h.IsTuple l xs
def fO (h:Heap) (k:Bool) (it l:Addr) (i:Nat):Prop:=match k with
 | true=>h.IsListIter it l i
 | false=>h.IsTupleIter it l i
theorem dT.at (x:dT h k l xs) (e:∀ o,h.get? l=some o->h'.get? l=some o):dT h' k l xs:=by
 cases k
 ·exact Heap.IsTuple.at x e
 ·exact Heap.IsList.at x e
theorem fO.at (x:fO h k it l i) (e:∀ o,h.get? it=some o->h'.get? it=some o):fO h' k it l i:=by
 cases k
 ·exact Heap.IsTupleIter.at x e
 ·exact Heap.IsListIter.at x e
theorem fO.lt (x:fO h k it l i):dN h it/\it < h.objs.size:=by
 cases k
 ·obtain ⟨o,e,c,_⟩:=x; exact ⟨⟨o,e,aG c⟩,lt_size e⟩
 ·obtain ⟨o,e,c,_⟩:=x; exact ⟨⟨o,e,aG c⟩,lt_size e⟩
theorem dT.liveN (x:dT h k l xs):dN h l:=by
 cases k
 ·obtain ⟨o,e,c,_⟩:=x; exact ⟨o,e,aG c⟩
 ·obtain ⟨o,e,c,_⟩:=x; exact ⟨o,e,aG c⟩
theorem dT.live (x:dT h k l xs):aW h l:=x.liveN.live
section
variable {prog:Program} {w:World} {A:Around} {E:Value->Shared->Prop} {s:Shared}
def ij {items} (FV:fO s.heap k it l i) (hl:dT s.heap k l items) (hx:items[i]?=some x)
  (hQ:∀ h',fO h' k it l (i+1)->SameBut it s.heap h'->Q x { s with heap:=h' }):wpAny (model prog w) A (Builtin.SmallTypes.nextOf (.ref it)) Q E s:=by
 cases k with
 | true=>exact wpAny_nextOf_list_item FV hl hx hQ
 | false=>
  obtain ⟨o,ho,hc,hd⟩:=id FV;obtain ⟨ol,JK,_,nl,HB⟩:=hl;have hT:s.TypeIs (.ref it) "tuple_iterator":=⟨o,ho,hc⟩;refine zC1 (wpAny_callSpecial?_slot (name:=ofString "__next__") hT PySem.F.slot_tuple_iterator_next
   (wpAny_call_entry PySem.F.slot_tuple_iterator_next hT PySem.F.entry_tuple_iterator_next ?_ (PySem.F.args_tuple_iterator_next_1 _)))
  refine (?_:wpAny _ _ (field (.ref it) 0 >>= _) _ _ s);refine (bFi ho hd (x:=.ref l) rfl ?_);refine wpAny_ite_false (c:=(Value.ref l==Value.none)=true) rfl ((bFi ho hd (x:=.int i 0) rfl ?_));refine (?_:wpAny _ _ (seqItems? (.ref l) >>= _) _ _ s);refine zC1 (wpAny_seqItems JK HB ?_);dsimp only;refine (hx:items[(i:Int).toNat]?=_).symm▸zC1 (wpAny_setField ho hd (by simp) (zC2 ⟨x,rfl,zC2 (hQ _ ?_ (SameBut.update ..))⟩));exact ⟨_,get?_update_self _ ho (isFreed_of_fields (data_mapFields hd _)),(Obj.cls_mapFields ..).trans hc,by rw [data_mapFields hd]; simp [rawInt]⟩
def jl {items} (hh:A.handled=none) (FV:fO s.heap k it l i) (hl:dT s.heap k l items) (hx:items[i]?=none)
  (hE:∀ h' e,Heap.ExtBut it s.heap h'->(∃ o,h'.get? e=some o/\o.cls=.type "StopIteration")->E (.ref e) { s with heap:=h' }):wpAny (model prog w) A (Builtin.SmallTypes.nextOf (.ref it)) Q E s:=by
 cases k with
 | true=>exact wpAny_nextOf_list_end hh FV hl hx hE
 | false=>
  obtain ⟨o,ho,hc,hd⟩:=id FV;obtain ⟨ol,JK,_,nl,HB⟩:=hl;have hT:s.TypeIs (.ref it) "tuple_iterator":=⟨o,ho,hc⟩;refine zC1 (wpAny_callSpecial?_slot (name:=ofString "__next__") hT PySem.F.slot_tuple_iterator_next
   (wpAny_call_entry PySem.F.slot_tuple_iterator_next hT PySem.F.entry_tuple_iterator_next ?_ (PySem.F.args_tuple_iterator_next_1 _)))
  refine (?_:wpAny _ _ (field (.ref it) 0 >>= _) _ _ s);refine (bFi ho hd (x:=.ref l) rfl ?_);refine wpAny_ite_false (c:=(Value.ref l==Value.none)=true) rfl ((bFi ho hd (x:=.int i 0) rfl ?_));refine (?_:wpAny _ _ (seqItems? (.ref l) >>= _) _ _ s);refine zC1 (wpAny_seqItems JK HB ?_);dsimp only;refine (hx:items[(i:Int).toNat]?=_).symm▸(bRu (zC1 (wpAny_setField ho hd (by simp) ?_)));refine (?_:wpAny _ _ (newExc (.type "StopIteration") [] >>= _) _ _ _);refine zC1 (zC1 (wpAny_newObj_type (zC1 (wpAny_of_eq (a:=Value.none) rfl (wpAny_newObj_type ?_ (by size_fits)))) (by size_fits)));refine wpAny_raiseNew_none (hh:A.in1.handled=none) ?_;exact hE _ _ (((SameBut.update ..).extBut.push _).push _) ⟨_,Q7 _ rfl,rfl⟩
def zw:0 < 5:=by decide
def DN:1 < 5:=by decide
def rH (hh:A.handled=none) (D:ZipApart z TI TO i1 i2 l1 l2)
  (hz:IsZip s.heap z TI TO .none) (hTI:IsPair s.heap TI (.ref i1) (.ref i2)) (hTO:IsPair s.heap TO a b)
  (h1:fO s.heap c1 i1 l1 k) (h2:fO s.heap c2 i2 l2 k) (hl1:dT s.heap c1 l1 xs) (hl2:dT s.heap c2 l2 ys)
  (hQ:∀ x y h',xs[k]?=some x->ys[k]?=some y->IsZip h' z TI TO (rawInt s.heap.objs.size)->IsPair h' TO x y->fO h' c1 i1 l1 (k+1)->fO h' c2 i2 l2 (k+1)->IsPair h' s.heap.objs.size x y ->
   (∀ c o,c≠z->c≠TO->c≠i1->c≠i2->s.heap.get? c=some o->h'.get? c=some o)->Q (.done (.ret (.ref s.heap.objs.size))) { s with heap:=h' })
  (hE:(xs[k]?=none\/ys[k]?=none)->∀ h' e,(∀ c o,c≠z->c≠TO->c≠i1->c≠i2->s.heap.get? c=some o->h'.get? c=some o)->(∃ o,h'.get? e=some o/\o.cls=.type "StopIteration")->E (.ref e) { s with heap:=h' }) :
  wpAny (model prog w) A (Builtin.«zip.__next__» ⟨[.ref z],[]⟩) Q E s:=by
 have EA:∀ {h:Heap} {e:Addr} {oe:Obj},IsZip h z TI TO .ellipsis->h.get? e=some oe->oe.cls=.type "StopIteration"->e≠z:=fun F2 H8 Ie x=>by
  subst x; (injection F2.symm.trans H8 with Xq; subst Xq); exact absurd (show Value.type "zip"=Value.type "StopIteration" from Ie) (by decide)
 refine (?_:wpAny _ _ (field (.ref z) 2 >>= _) _ _ _);refine (bFi hz rfl (x:=.bool false) rfl ?_);refine (?_:wpAny _ _ (field (.ref z) 3 >>= _) _ _ _);refine (bFi hz rfl (x:=.ref TI) rfl ?_);refine zC1 (wpAny_seqItems hTI rfl ?_);refine wpAny_bind (m:=Builtin.SmallTypes.ownedTupleIsFree (.ref z)) ((bFi hz rfl (x:=.none) rfl (zC2 ?_)));refine wpAny_ite_true rfl ((bRu ?_));refine (bFi hz rfl (x:=.ref TO) rfl ?_);refine zC1 (wpAny_setField_rec hz zw fun Ej F3 Ey=>?_);replace F3:IsZip Ej z TI TO .ellipsis:=F3;refine zC1 ?_;simp only [zipIdx_cons,List.zipIdx_nil,forIn_cons,forIn_nil];refine zC1 (zC1 (wpAny_onRaise ?_));refine (?_:wpAny _ _ (Builtin.SmallTypes.nextOf (.ref i1) >>= _) _ _ _);cases hx:xs[k]? with
 | none=>
  refine zC1 (jl hh (h1.at fun o e=>Ey.extBut _ o D.i1z e) (hl1.at fun o e=>Ey.extBut _ o D.l1z e) hx fun Ez e EV ⟨oe,H8,Ie⟩=>?_);have F2:IsZip Ez z TI TO .ellipsis:=EV _ _ D.i1z.symm F3;exact wpAny_setField_rec F2 zw fun Em U EU=>hE (.inl hx) Em e (fun c o c1 U c3 U x=>EU.extBut _ _ c1 (EV _ _ c3 (Ey.extBut _ _ c1 x))) ⟨oe,EU.extBut _ _ (EA F2 H8 Ie) H8,Ie⟩
 | some x=>
 refine zC1 (ij (h1.at fun o e=>Ey.extBut _ o D.i1z e) (hl1.at fun o e=>Ey.extBut _ o D.l1z e) hx fun Ez Kh EV=>zC2 ?_);have GJ:IsPair Ez TO a b:=EV.extBut _ _ D.TOi1 (Ey.extBut _ _ D.TOz hTO);refine zC1 (wpAny_seqItems GJ rfl ?_);refine zC1 (wpAny_updateSeq_pair GJ fun Em FY EU=>?_);replace FY:IsPair Em TO x b:=FY;refine zC1 (wpAny_letGo (zC2 ?_));refine zC1 (zC1 (wpAny_onRaise ?_));refine (?_:wpAny _ _ (Builtin.SmallTypes.nextOf (.ref i2) >>= _) _ _ _);have HF:fO Em c2 i2 l2 k:=h2.at fun o e=>EU.extBut _ o D.TOi2.symm (EV.extBut _ o D.i12.symm (Ey.extBut _ o D.i2z e));have GB:dT Em c2 l2 ys:=hl2.at fun o e=>EU.extBut _ o D.l2TO (EV.extBut _ o D.l2i1 (Ey.extBut _ o D.l2z e));have Hp:IsZip Em z TI TO .ellipsis:=EU.extBut _ _ D.TOz.symm (EV.extBut _ _ D.i1z.symm F3);have Hx:∀ c o,c≠z->c≠TO->c≠i1->s.heap.get? c=some o->Em.get? c=some o:=fun c o c1 c2 c3 e=>EU.extBut _ _ c2 (EV.extBut _ _ c3 (Ey.extBut _ _ c1 e));cases hy:ys[k]? with
 | none=>
  refine zC1 (jl hh HF GB hy fun FT e E3 ⟨oe,H8,Ie⟩=>?_);have Ho:IsZip FT z TI TO .ellipsis:=E3 _ _ D.i2z.symm Hp;exact wpAny_setField_rec Ho zw fun Fa U E2=>hE (.inr hy) Fa e (fun c o c1 c2 c3 c4 x=>E2.extBut _ _ c1 (E3 _ _ c4 (Hx c o c1 c2 c3 x))) ⟨oe,E2.extBut _ _ (EA Ho H8 Ie) H8,Ie⟩
 | some y=>
 refine zC1 (ij HF GB hy fun FT Kg E3=>zC2 ?_);have GH:IsPair FT TO x b:=E3.extBut _ _ D.TOi2 FY;refine zC1 (wpAny_seqItems GH rfl ?_);refine zC1 (wpAny_updateSeq_pair GH fun Fa Fz E2=>?_);replace Fz:IsPair Fa TO x y:=Fz;refine zC1 (wpAny_letGo (zC2 (zC2 ?_)));refine zC1 (wpAny_seqItems Fz rfl ?_);refine zC1 (wpAny_newTuple ?_);have hsz:Fa.objs.size=s.heap.objs.size:=E2.1.trans (E3.1.trans (EU.1.trans (EV.1.trans Ey.1)));have Hn:IsZip Fa z TI TO .ellipsis:=E2.extBut _ _ D.TOz.symm (E3.extBut _ _ D.i2z.symm Hp);have hn:Fa.objs.size≠z:=ne_of_gt (lt_size Hn);refine wpAny_bind (m:=Builtin.SmallTypes.ownedTupleHandOut (.ref z) (.ref Fa.objs.size)) (zC1 (wpAny_setField_rec (Q4 _ Hn) zw fun F7 Jq F4=>?_));refine wpAny_setField_rec Jq DN fun Jn Jp Hs=>?_;have up:∀ c o,c≠z->Fa.get? c=some o->Jn.get? c=some o:=fun c o c1 e=>Hs.extBut _ _ c1 (F4.extBut _ _ c1 (Q4 _ e));refine zC2 ?_;have fin:=hQ x y Jn hx hy;rw [<- hsz] at fin;exact fin Jp (up _ _ D.TOz Fz) (Kh.at fun o e=>up _ o D.i1z (E2.extBut _ o D.TOi1.symm (E3.extBut _ o D.i12 (EU.extBut _ o D.TOi1.symm e)))) (Kg.at fun o e=>up _ o D.i2z (E2.extBut _ o D.TOi2.symm e))
  (Hs.extBut _ _ hn (F4.extBut _ _ hn (Q7 _ rfl))) fun c o c1 c2 c3 c4 e=>up c o c1 (E2.extBut _ _ c2 (E3.extBut _ _ c4 (Hx c o c1 c2 c3 e)))
end
def mc {P:Addr->Prop} (h:P a) (t:∀ x∈l,P x):∀ x∈a :: l,P x:=zA1 ⟨h,t⟩
def BO {P:Addr->Prop} (h1:P a) (h2:P b) (h3:P c) (h4:P d):∀ x∈[a,b,c,d],P x:=mc h1 (mc h2 (mc h3 (mc h4 fun U m=>nM m)))
def Dq {P:Addr->Prop} (h1:P a) (h2:P b) (h3:P c) (h4:P d) (h5:P e) (h6:P f) (h7:P g):∀ x∈[a,b,c,d,e,f,g],P x:=mc h1 (mc h2 (mc h3 (BO h4 h5 h6 h7)))
def nm4 (h:x∉[a,b,c,d]):x≠a/\x≠b/\x≠c/\x≠d:=
 ⟨fun e=>h (e▸.head _),fun e=>h (e▸.tail _ (.head _)),fun e=>h (e▸.tail _ (.tail _ (.head _))),fun e=>h (e▸.tail _ (.tail _ (.tail _ (.head _))))⟩
theorem RpAll.unapp:∀ {l:List V},u.length=l.length->RpAll g bad h (u++v) (l++m)->RpAll g bad h u l/\RpAll g bad h v m:=by
 induction u with
 | nil=>intro l e x; obtain rfl:=length_eq_zero_iff.mp e.symm; exact ⟨.nil,x⟩
 | cons a u ih=>
  intro l e x;cases l with
  | nil=>exact nomatch e
  | cons b l=>cases x with | cons y x=>exact (ih (Nat.succ.inj e) x).imp_left (.cons y)
structure ZipSt (c1 c2:Bool) (z TI TO i1 i2 l1 l2:Addr) (xs ys:Array Value) (i:Nat) (h:Heap):Prop where
 z:IsZip h z TI TO .none
 ti:IsPair h TI (.ref i1) (.ref i2)
 to:∃ a b,IsPair h TO a b
 h1:fO h c1 i1 l1 i
 h2:fO h c2 i2 l2 i
 hl1:dT h c1 l1 xs
 hl2:dT h c2 l2 ys
def uF {l r:List V} {i:Nat} (e:(wc l r)[i]?=some x):∃ a b,l[i]?=some a/\r[i]?=some b/\x=.tuple [a,b]:=by
 unfold wc at e;rw [List.getElem?_zipWith] at e
 revert e
 cases l[i]? with
 | none=>exact fun e=>nN e.symm
 | some a=>cases r[i]? with
  | none=>exact fun e=>nN e.symm
  | some b=>exact fun e=>⟨_,_,rfl,rfl,(Option.some.inj e).symm⟩
def hU (l r:List V):(wc l r).length=min l.length r.length:=List.length_zipWith
def vR (hh:A.handled=none) {FZ:List Expr} {kk:Nat} {c1 c2:Bool} (D:ZipApart z TI TO i1 i2 l1 l2) (xs ys:Array Value) (la lb:List V) (hla:xs.size=la.length) (KF:ys.size=lb.length) :
  Feed g A (.Tuple FZ kk pos) z [z,TI,TO,i1,i2,l1,l2] [z,TO,i1,i2] (xs.toList++ys.toList) (la++lb) (wc la lb) (ZipSt c1 c2 z TI TO i1 i2 l1 l2 xs ys) where
 sub:=BO (.head _) (.tail _ (.tail _ (.head _))) (.tail _ (.tail _ (.tail _ (.head _)))) (.tail _ (.tail _ (.tail _ (.tail _ (.head _)))))
 frame:=fun i h h' st hk=>st.to.elim fun a ⟨b,e⟩=>
  have m4:TO∈[z,TI,TO,i1,i2,l1,l2]:=.tail _ (.tail _ (.head _));have t:∀ x∈[i1,i2,l1,l2],∀ o,h.get? x=some o->h'.get? x=some o:=fun x m=>hk x (.tail _ (.tail _ (.tail _ m)))
  ⟨hk z (.head _) _ st.z,hk TI (.tail _ (.head _)) _ st.ti,⟨a,b,hk TO m4 _ e⟩,st.h1.at (t _ (.head _)),st.h2.at (t _ (.tail _ (.head _))),st.hl1.at (t _ (.tail _ (.tail _ (.head _)))),st.hl2.at (t _ (.tail _ (.tail _ (.tail _ (.head _)))))⟩
 live:=fun i h b st hb=>st.to.elim fun a ⟨b',H3⟩=>Dq (P:=dN h) ⟨_,st.z,aG rfl⟩ ⟨_,st.ti,aG rfl⟩ ⟨_,H3,aG rfl⟩ st.h1.lt.1 st.h2.lt.1 st.hl1.liveN st.hl2.liveN b hb
 item:=fun i x s bad Q E hx st hv hb hw hQ=>by
  obtain ⟨xa,xb,ha,hbb,rfl⟩:=uF hx;have hv:=RpAll.unapp hla hv;obtain ⟨va,KU,ra⟩:=hv.1.get ha;obtain ⟨vb,KT,rb⟩:=hv.2.get hbb;replace KU:=Q2.symm.trans KU;replace KT:=Q2.symm.trans KT;obtain ⟨a,b,H3⟩:=st.to;have hT:s.TypeIs (.ref z) "zip":=⟨_,st.z,rfl⟩;unfold pyNext;refine zC1 (wpAny_attempt (wpAny_callSpecial?_slot (name:=ofString "__next__") hT PySem.F.slot_zip_next
   (wpAny_call_entry PySem.F.slot_zip_next hT PySem.F.entry_zip_next
    (rH hh D st.z st.ti H3 st.h1 st.h2 st.hl1 st.hl2 (fun x y h' ex ey a1 a2 a3 a4 a5 hk=>⟨_,rfl,zC2 ?_⟩) fun q=>q.elim (fun q=>nomatch KU.symm.trans q) fun q=>nomatch KT.symm.trans q) (PySem.F.args_zip_next_1 _))))
  (injection KU.symm.trans ex with Xq; subst Xq);(injection KT.symm.trans ey with Xq; subst Xq);refine ⟨_,rfl,wpAny_letOwnedTupleGo_zip a1 fun GK Ky EQ=>?_⟩;have up:∀ c o,c∉[z,TO,i1,i2]->s.heap.get? c=some o->GK.get? c=some o:=fun c o hc e=>
   have hc:=nm4 hc
   EQ.extBut _ _ hc.1 (hk c o hc.1 hc.2.1 hc.2.2.1 hc.2.2.2 e)
  have EX:s.heap.objs.size≠z:=ne_of_gt (lt_size st.z);have kb:cR bad bad s.heap GK:=fun c o e U nb=>⟨nb,up c o (fun m=>nb (hw c m)) e⟩;refine hQ _ GK s.toks ⟨Ky,?_,⟨_,_,EQ.extBut _ _ D.TOz a2⟩,a3.at fun o e=>EQ.extBut _ o D.i1z e,a4.at fun o e=>EQ.extBut _ o D.i2z e,?_,?_⟩ up (.tuple (fun q=>by obtain ⟨o,e⟩:=hb _ q; rw [ak] at e; (injection e; done)) (EQ.extBut _ _ EX a5) rfl rfl ?_)
  ·exact EQ.extBut _ _ D.TIz (hk _ _ D.TIz D.TITO D.TIi1 D.TIi2 st.ti)
  ·exact st.hl1.at fun o e=>EQ.extBut _ o D.l1z (hk _ o D.l1z D.l1TO D.l1i1 D.l1i2 e)
  ·exact st.hl2.at fun o e=>EQ.extBut _ o D.l2z (hk _ o D.l2z D.l2TO D.l2i1 D.l2i2 e)
  ·exact .cons (ra.map kb) (.cons (rb.map kb) .nil)
 done:=fun s Q E st hQ=>by
  obtain ⟨a,b,H3⟩:=st.to;have hT:s.TypeIs (.ref z) "zip":=⟨_,st.z,rfl⟩;unfold pyNext;refine zC1 (wpAny_attempt (wpAny_callSpecial?_slot (name:=ofString "__next__") hT PySem.F.slot_zip_next
   (wpAny_call_entry PySem.F.slot_zip_next hT PySem.F.entry_zip_next (rH hh D st.z st.ti H3 st.h1 st.h2 st.hl1 st.hl2 (fun x y h' ex ey U U U U U U=>?_) fun U h' e hk he=>?_) (PySem.F.args_zip_next_1 _))))
  ·exact absurd (Nat.lt_min.mpr ⟨hla▸(Array.getElem?_eq_some_iff.mp ex).1,KF▸(Array.getElem?_eq_some_iff.mp ey).1⟩) (not_lt.mpr (zB2 (hU la lb).symm))
  ·obtain ⟨o,ho,hc⟩:=he;refine zC1 (wpAny_isInstance (T:="StopIteration") (b:=true) ⟨o,ho,hc⟩ isSubtype_stop ?_);refine zC2 ⟨rfl,hQ _ s.toks fun c o hc e=>?_⟩;have hc:=nm4 hc;exact hk c o hc.1 hc.2.1 hc.2.2.1 hc.2.2.2 e
 self:=fun i s Q E st hQ=>wpAny_pyIter_zip st.z hQ
section
variable {A:Around} {E:Value->Shared->Prop} {s:Shared}
noncomputable def qF (c:Bool) (l:Addr):Obj:={ cls:=.type (if c then "list_iterator" else "tuple_iterator"),data:=.fields #[.ref l,.int 0 0] }
def pd (e:h.get? i=some (qF c l)):fO h c i l 0:=by
 cases c
 ·exact ⟨_,e,rfl,rfl⟩
 ·exact ⟨_,e,rfl,rfl⟩
def ll (h:dT s.heap c l xs) (hQ:Q (.ref s.heap.objs.size) { s with heap:=s.heap.push (qF c l) }):wpAny (model prog w) A (pyIter (.ref l)) Q E s:=by
 cases c
 ·exact wpAny_pyIter_tuple h hQ
 ·exact wpAny_pyIter_list h hQ
noncomputable def zH1 (h:Heap) (c1:Bool) (l1:Addr):Heap:=h.push (qF c1 l1)
noncomputable def zH2 (h:Heap) (c1 c2:Bool) (l1 l2:Addr):Heap:=(zH1 h c1 l1).push (qF c2 l2)
noncomputable def zH3 (h:Heap) (c1 c2:Bool) (l1 l2:Addr):Heap:=(zH2 h c1 c2 l1 l2).push { cls:=.type "tuple",data:=.seq #[.ref h.objs.size,.ref (zH1 h c1 l1).objs.size] }
noncomputable def zH4 (h:Heap) (c1 c2:Bool) (l1 l2:Addr):Heap:=(zH3 h c1 c2 l1 l2).push { cls:=.type "tuple",data:=.seq #[.none,.none] }
noncomputable def zH5 (h:Heap) (c1 c2:Bool) (l1 l2:Addr):Heap:=(zH4 h c1 c2 l1 l2).push { cls:=.type "zip",data:=.fields #[.none,.bool false,.bool false,.ref (zH2 h c1 c2 l1 l2).objs.size,.ref (zH3 h c1 c2 l1 l2).objs.size] }
def tm (c1 c2:Bool) (l1 l2:Addr) (xs ys:Array Value) :
  Meets (Builtin.«zip.__new__» ⟨[.type "zip",.ref l1,.ref l2],[]⟩) (fun U R s=>dT s.heap c1 l1 xs/\dT s.heap c2 l2 ys /\
   R (.ok (.ret (.ref (zH4 s.heap c1 c2 l1 l2).objs.size))) { s with heap:=zH5 s.heap c1 c2 l1 l2 }):=
 .of_wp fun prog w A R s h=>by
  obtain ⟨hp,g,d,tk,os⟩:=s; obtain ⟨hl1,hl2,h⟩:=h;have FD:=sub_zip;have hL1:dT (Shared.heap ⟨hp,g,d,tk,os⟩) c1 l1 xs:=hl1;have hL2:dT (Shared.heap ⟨hp.push (qF c1 l1),g,d,tk,os⟩) c2 l2 ys:=hl2.at fun o e=>Q4 _ e
  wp_walk using ll hL1,ll hL2
  exact ⟨_,rfl,h⟩
def vB (hl1:dT s.heap c1 l1 xs) (hl2:dT s.heap c2 l2 ys)
  (h:∀ h',IsZip h' (s.heap.objs.size+4) (s.heap.objs.size+2) (s.heap.objs.size+3) .none->IsPair h' (s.heap.objs.size+2) (.ref s.heap.objs.size) (.ref (s.heap.objs.size+1)) ->
   IsPair h' (s.heap.objs.size+3) .none .none->fO h' c1 s.heap.objs.size l1 0->fO h' c2 (s.heap.objs.size+1) l2 0 ->
   (∀ c o,s.heap.get? c=some o->h'.get? c=some o)->Q (.ref (s.heap.objs.size+4)) { s with heap:=h' }) :
  wpAny (model prog w) A (call (.type "zip") [.ref l1,.ref l2]) Q E s:=by
 refine callType_new PySem.F.called_zip (by decide) (PySem.F.typeCall_zip_2 _ _) (PySem.F.newCall_zip_2 _ _) (fun obj=>PySem.F.args_object_init_3 obj _ _) PySem.F.entry_zip_new
  (tm c1 c2 l1 l2 xs ys) ⟨hl1,hl2,?_⟩
 have z1:(zH1 s.heap c1 l1).objs.size=s.heap.objs.size+1:=size_push ..;have z2:(zH2 s.heap c1 c2 l1 l2).objs.size=s.heap.objs.size+2:=by unfold zH2; rw [size_push,z1]
 have z3:(zH3 s.heap c1 c2 l1 l2).objs.size=s.heap.objs.size+3:=by unfold zH3; rw [size_push,z2]
 have z4:(zH4 s.heap c1 c2 l1 l2).objs.size=s.heap.objs.size+4:=by unfold zH4; rw [size_push,z3]
 have g5:(zH5 s.heap c1 c2 l1 l2).get? (zH4 s.heap c1 c2 l1 l2).objs.size=some _:=Q7 _ rfl;have g4:(zH5 s.heap c1 c2 l1 l2).get? (zH3 s.heap c1 c2 l1 l2).objs.size=some _:=Q4 _ (Q7 _ rfl);have g3:(zH5 s.heap c1 c2 l1 l2).get? (zH2 s.heap c1 c2 l1 l2).objs.size=some _:=Q4 _ (Q4 _ (Q7 _ rfl));have g2:(zH5 s.heap c1 c2 l1 l2).get? (zH1 s.heap c1 l1).objs.size=some _:=Q4 _ (Q4 _ (Q4 _ (Q7 _ rfl)));have g1:(zH5 s.heap c1 c2 l1 l2).get? s.heap.objs.size=some _:=Q4 _ (Q4 _ (Q4 _ (Q4 _ (Q7 _ rfl))));refine (?_:_/\_);rw [z2,z3,z4] at g5;rw [z1,z2] at g3;rw [z3] at g4;rw [z1] at g2;rw [z4];exact ⟨⟨_,g5,rfl⟩,h _ g5 g3 g4 (pd g1) (pd g2) fun c o x=>
  Q4 _ (Q4 _ (Q4 _ (Q4 _ (Q4 _ x))))⟩
end
def BD (n a b:Nat) (h1:a < n) (h2:b < n):ZipApart (n+4) (n+2) (n+3) n (n+1) a b:=by
 have q:∀ {i j:Nat},i≠j->n+i≠n+j:=fun h e=>h (Nat.add_left_cancel e);have p:∀ {i x:Nat},x < n->x≠n+i:=fun h=>ne_of_lt (Q0 h (Q3 _ _));constructor <;> first | exact p (i:=0) h1 | exact p h1 | exact p (i:=0) h2 | exact p h2 | exact q (by decide) | exact q (i:=0) (by decide) | exact q (j:=0) (by decide)
section
variable {Φ:Ct} [Hm Φ.fx] {E:Value->Shared->Prop} {s:Shared} {st:Bool}
def zf (e:jf x=some l) (r:Φ.rp s.heap v x):∃ c a xs,v=.ref a/\dT s.heap c a xs/\Φ.rps s.heap xs.toList l/\xs.size=l.length/\¬ Φ.bad a/\l.length<=am:=
 lv (C:=fun x l=>Φ.rp s.heap v x->∃ c a xs,v=.ref a/\dT s.heap c a xs/\Φ.rps s.heap xs.toList l/\xs.size=l.length/\¬ Φ.bad a/\l.length<=am) e
  (fun l hz r=>r.list_elim fun a o vs n hb ha hc hd hl=>⟨true,a,vs,rfl,⟨_,ha,hc.1,_,hd⟩,hl,aQ hl,hb,hz⟩) (fun l hz r=>r.tuple_elim fun a o vs n hb ha hc hd hl=>⟨false,a,vs,rfl,⟨_,ha,hc,_,hd⟩,hl,aQ hl,hb,hz⟩) r
def vI (I:Inv Φ s) (e1:jf x=some la) (e2:jf y=some lb) (r1:Φ.rp s.heap v1 x) (r2:Φ.rp s.heap v2 y):dD Φ (.Tuple FZ kk pos) st s E "zip" (wc la lb) [v1,v2]:=by
 obtain ⟨c1,a1,xs,rfl,h1,rr1,len1,nb1,sz1⟩:=zf e1 r1;obtain ⟨c2,a2,ys,rfl,h2,rr2,Lf,nb2,_⟩:=zf e2 r2;refine vB h1 h2 fun h' hz hti H3 JW IN hk=>wpAny_pyIter_zip hz ⟨⟨hk,rfl,rfl⟩,?_⟩;have fresh:∀ k,s.heap.get? (s.heap.objs.size+k)=none:=fun k=>by
  cases e:s.heap.get? (s.heap.objs.size+k) with
  | none=>rfl
  | some o=>exact absurd (lt_size e) (not_lt.mpr (Q3 _ _))
 have lt1:a1 < s.heap.objs.size:=by obtain ⟨o,e⟩:=h1.live; exact lt_size e
 have lt2:a2 < s.heap.objs.size:=by obtain ⟨o,e⟩:=h2.live; exact lt_size e
 have D:ZipApart (s.heap.objs.size+4) (s.heap.objs.size+2) (s.heap.objs.size+3) s.heap.objs.size (s.heap.objs.size+1) a1 a2:=BD _ _ _ lt1 lt2;refine ⟨_,_,_,_,_,_,rfl,vR (I.ok.hand Hm.no) (c1:=c1) (c2:=c2) D xs ys la lb len1 Lf,⟨hz,hti,⟨_,_,H3⟩,JW,IN,h1.at fun o e=>hk _ o e,h2.at fun o e=>hk _ o e⟩,rr1.append rr2,BO (fresh 4) (fresh 3) (fresh 0) (fresh 1),Dq (.inl (fresh 4)) (.inl (fresh 2)) (.inl (fresh 3)) (.inl (fresh 0)) (.inl (fresh 1)) (.inr fun U=>nb1) (.inr fun U=>nb2),hU la lb▸zB1 (min_le_left _ _) sz1⟩
def xJ {qs:List (Expr×DV)} {FZ:List Expr} {kk:Nat} (hx:br Φ.fx.env.scope.names "zip"=true) (hq:∀ q∈qs,aq q.1=true/\bj Φ q) :
  eV Φ (.Tuple FZ kk tp) st (.Call (.Name "zip" fp) (qs.map Prod.fst) [] pos) (fun K=>bv (qs.map Prod.snd) fun xs=>okK (opN .zip xs) fun z=>okK (bK z) K):=
 oL (F:="zip") hx rfl hq fun s vs xs z l E I rs e el=>uP (C:=dD Φ (.Tuple FZ kk tp) st s E "zip" l) e rs fun v u x y r1 r2 e=>(bind_eq_some_iff.mp e).elim fun la ⟨h1,e⟩=>map_elim (C:=fun z=>bK z=some l->dD Φ (.Tuple FZ kk tp) st s E "zip" l [v,u]) e (fun lb h2 el=>fit_elim (C:=fun l=>dD Φ (.Tuple FZ kk tp) st s E "zip" l [v,u]) el fun U=>vI I h1 h2 r1 r2) el
end
def ay (h:x=none) (e:x=some a):False:=nomatch h.symm.trans e
def om (name:Str) (h:Int) (k v:Value) (o:Obj):(Obj.putName name h k v o).cls=o.cls:=by
 refine Obj.putName_eq.symm▸?_;obtain ⟨c,d,dt,sl⟩:=o;cases dt with
 | dict es n=>
  show (match es.findIdx? (fun e:DictEntry=>e.key.isStr name) with
   | some i=>(⟨c,d,.dict (es.modify i fun e=>{ e with val:=v }) n,sl⟩:Obj)
   | none=>⟨c,d,.dict (es.push ⟨h,k,v⟩) (n+1),sl⟩).cls=c
  split <;> rfl
 | _=>rfl
def qe {h:Heap} {a:Addr} {o o':Obj} {f:Obj->Obj} (e:h.get? a=some o) (e':(h.update a f).get? a=some o'):o'=f o:=by
 obtain ⟨e1,_⟩:=Heap.get?_some_iff.mp e;obtain ⟨e2,_⟩:=Heap.get?_some_iff.mp e';cases h
 simp only [Heap.update,Array.getElem?_modify,if_true] at e2;simp only at e1;rw [e1] at e2;simpa using e2.symm
def tn {M:Model} {Γ:Ctx} {E:Value->Pos->Shared->Prop} {p:Pos} {s:Shared} {a:Addr} {m} (hn:s.heap.Ns a m) (name:Str) (v:Value) (Q:Unit->Pos->Shared->Prop)
  (hQ:∀ h',h'.Ns a (fun x=>if x=name then some v else m x)->SameBut a s.heap h'->(∀ o,s.heap.get? a=some o->∃ o',h'.get? a=some o'/\o'.cls=o.cls) ->
   Q () p { s with heap:=h',toks:=s.toks+1 }):Sem.wp M Γ (nsSet a name v) Q E p s:=by
 have h1:=Sem.wp_nsSet M Γ E p s hn name v (fun U U s'=>s'.heap.Ns a (fun x=>if x=name then some v else m x)) fun h' GA U=>GA;refine av fun Z4 HX=>?_;obtain ⟨o,es,ep,ho,hd,hk,hm⟩:=hn;refine HX ?_;simp only [nsSet,strHash,Sem.wp_bind',Sem.wp_cmd_ask,Sem.wp_pure',Sem.wp_cmd_mkText] at h1 ⊢;rw [Sem.wp_loadPart_of M Γ E p { s with toks:=s.toks+1 } (o:=o) _ ho] at h1 ⊢;have LV:es.any (·.refKey)=false:=by
  rw [Array.any_eq_false']; intro e he; obtain ⟨n,t,h⟩:=hk e he; simp [DictEntry.refKey,h]
 simp only [hd,aRefKeyMayBeTheName_eq,aRefKeyMayBeTheNameByArray,LV,Bool.and_false,false_eq_true,if_false,Sem.wp_cmd_updatePart] at h1 ⊢;obtain ⟨h2,h3⟩:=h1;refine ⟨h2,hQ _ h3 (SameBut.update ..) fun o' ED=>?_⟩;rw [ho] at ED;(injection ED with ED; subst ED);refine av fun Z6 kZ6=>?_;obtain ⟨o',_,_,he,EN,_⟩:=h3;refine kZ6 ?_;exact ⟨o',he,by rw [qe ho he]; exact om ..⟩
def fF {E:Value->Shared->Prop} {m} {Q:Unit->Shared->Prop} (hn:s.heap.Ns a m)
  (h:∀ h',h'.Ns a (fun x=>if x=name then some v else m x)->SameBut a s.heap h'->(∀ o,s.heap.get? a=some o->∃ o',h'.get? a=some o'/\o'.cls=o.cls)->Q () { s with heap:=h',toks:=s.toks+1 }) :
  wpAny M A (nsSet a name v) Q E s:=fun Γ p U=>tn hn name v _ h
def iM {E:Value->Shared->Prop} {Q:Unit->Shared->Prop} (hc:s.heap.IsCell c v₀)
  (h:∀ h',h'.IsCell c v->SameBut c s.heap h'->(∀ o,s.heap.get? c=some o->∃ o',h'.get? c=some o'/\o'.cls=o.cls)->Q () { s with heap:=h' }):wpAny M A (cellSet c v) Q E s:=by
 obtain ⟨o,ho,hd⟩:=hc
 skip
 refine zC1 (wpAny_load ho ?_);refine hd.symm▸?_;have e:=get?_update_self (fun o:Obj=>{ o with data:=.cell v }) ho rfl;exact wpAny_update ho (h _ ⟨{ o with data:=.cell v },e,rfl⟩ (SameBut.update ..) fun o' ED=>⟨_,e,by replace ED:=ho▸ED; (injection ED with ED; subst ED); rfl⟩)
def y0 (a:Addr) (h h':Heap):Prop:=∀ o,h.get? a=some o->∃ o',h'.get? a=some o'/\o'.cls=o.cls
theorem gR.but (f:gR h0 h l) (hs:SameBut a h h') (c:(∃ o,h.get? a=some o/\iK o)\/(y0 a h h'/\∀ o,h'.get? a=some o->∀ vs,o.data≠.fields vs)):gR h0 h' l:=fun env m=>by
 refine av fun Z8 HW=>?_;obtain ⟨hk,L,o,hf,hn,ho,hc,hd⟩:=f env m;refine HW ?_;by_cases q:L=a
 ·subst q;rcases c with ⟨o',e',n⟩ | ⟨c,d⟩
  ·rw [ho] at e'; (injection e' with e'; subst e'); exact absurd hc n
  ·obtain ⟨o',e',q⟩:=c o ho;exact ⟨hk,L,o',hf,hn,e',q.trans hc,d o' e'⟩
 ·exact ⟨hk,L,o,hf,hn,hs.extBut L o q ho,hc,hd⟩
theorem fD.but (f:fD g A h) (hs:SameBut a h h') (c:(∃ o,h.get? a=some o/\iK o)\/(y0 a h h'/\∀ o,h'.get? a=some o->∀ vs,o.data≠.fields vs)):fD g A h':=f.elim fun l q=>⟨l,q.1,q.2.but hs c⟩
def iz (h:Heap) (p:Pl) (v:Option Value) (h':Heap):Prop:=match p with
 | .ns a x=>(∃ m,h.Ns a m/\h'.Ns a (fun y=>if y=x then v else m y))/\SameBut a h h'/\y0 a h h'
 | .cell c=>h'.IsCell c v/\SameBut c h h'/\y0 c h h'
 | .off=>False
section
variable {Φ Φ':Ct} {s s' s₀:Shared} {h h':Heap}
def eB (I:Inv Φ s) (hx:Φ.fx.ρ.lookup x=some k) (H':Φ.fx.env.kindOf x≠some .free) (h:∀ h' tk,iz s.heap (Φ.fx.pl k) (some v) h'->Q () { s with heap:=h',toks:=tk }):Φ.wp (storeName Φ.fx.env x v) Q s:=fun E=>by
 obtain ⟨u,pr,_⟩:=I.slot k;rcases I.ok.vis x k hx with ⟨hl,hp⟩ | ⟨hl,c,hc,hp⟩
 ·rw [hp] at pr h;obtain ⟨m,Hv,hv⟩:=pr;rw [storeName_local hl (by rw [I.ok.kind]; rfl)];exact fF Hv fun h' GA EQ ER=>h h' _ ⟨⟨m,Hv,GA⟩,EQ,ER⟩
 ·rw [hp] at pr h;rcases hl with hl | hl
  ·unfold storeName;rw [hl];refine bu (c:=(Φ.fx.env.scope.kind==.class&&some NameKind.cell==some .cell)=true) (by rw [I.ok.kind]; decide) ?_;exact zC1 (wpAny_cellOf hc (iM pr fun h' ER EQ E5=>h h' s.toks ⟨ER,EQ,E5⟩))
  ·exact absurd hl H'
theorem iz.addr (ps:iz h p v h'):∃ a,p.addr=some a/\SameBut a h h'/\aW h' a/\y0 a h h'/\∀ o,h'.get? a=some o->∀ vs,o.data≠.fields vs:=by
 cases p with
 | ns a x=>
  refine av fun Z13 Ln=>?_;obtain ⟨⟨m,_,hn⟩,hs,hc⟩:=ps;obtain ⟨o,es,ep,ho,hd,_⟩:=hn;refine Ln ?_;exact ⟨a,rfl,hs,⟨o,ho⟩,hc,fun o' e' vs q=>by replace e':=ho▸e'; (injection e' with e'; subst e'); exact nomatch hd.symm.trans q⟩
 | cell c=>
  refine av fun Z14 Lm=>?_;obtain ⟨⟨o,ho,hd⟩,hs,hc⟩:=ps;refine Lm ?_;exact ⟨c,rfl,hs,⟨o,ho⟩,hc,fun o' e' vs q=>by replace e':=ho▸e'; (injection e' with e'; subst e'); exact nomatch hd.symm.trans q⟩
 | off=>exact ps.elim
theorem iz.self (ps:iz h p v h'):bf h' p v:=by
 cases p with
 | ns a x=>obtain ⟨⟨m,_,hn⟩,hs,_⟩:=ps; exact ⟨_,hn,if_pos rfl⟩
 | cell c=>exact ps.1
 | off=>exact ps.elim
theorem iz.other (ps:iz h p v h') (EA:q≠p) (ap:∀ a x c,(p=.ns a x/\q=.cell c)\/(q=.ns a x/\p=.cell c)->a≠c) (r:bf h q u):bf h' q u:=by
 cases p with
 | ns a x=>
  obtain ⟨⟨m,hm,hn⟩,hs,_⟩:=ps;cases q with
  | ns b y=>
   obtain ⟨m',Ib,hu⟩:=r;by_cases e:b=a
   ·subst e;refine ⟨_,hn,?_⟩;rw [if_neg fun q=>EA (by rw [q])];refine av fun Z17 Ll=>?_;obtain ⟨o,es,ep,ho,hd,_,hf⟩:=hm;obtain ⟨o',Ge,ep',ED,EN,_,LL⟩:=Ib;refine Ll ?_;replace ED:=ho▸ED; (injection ED with ED; subst ED);replace EN:=hd▸EN; (injection EN with EN; subst EN);rw [<- hf,LL]; exact hu
   ·exact ⟨m',Ib.sameBut hs e,hu⟩
  | cell c=>obtain ⟨o,ho,hd⟩:=r; exact ⟨o,hs.extBut c o (Ne.symm (ap a x c (.inl ⟨rfl,rfl⟩))) ho,hd⟩
  | off=>exact r
 | cell c=>
  obtain ⟨hc,hs,_⟩:=ps;cases q with
  | ns b y=>obtain ⟨m',Ib,hu⟩:=r; exact ⟨m',Ib.sameBut hs (ap b y c (.inr ⟨rfl,rfl⟩)),hu⟩
  | cell d=>obtain ⟨o,ho,hd⟩:=r; exact ⟨o,hs.extBut d o (fun q=>EA (by rw [q])) ho,hd⟩
  | off=>exact r
 | off=>exact ps.elim
noncomputable def isI:Slot->Prop
 | .ownI _=>True
 | _=>False
structure Tr (Φ:Ct) (s:Shared) (Φ':Ct) (s':Shared):Prop where
 fx:Φ'.fx=Φ.fx
 keep:∀ b o,s.heap.get? b=some o->¬ Φ.own b->bF s'.heap b o
 live:∀ b,aW s.heap b->aW s'.heap b
 grow:∀ a,aW s.heap a->Φ'.own a->Φ.own a
 inst:∀ k a,Φ'.oa k=some a->isI (getSlot Φ'.G k)->Φ.oa k=some a/\isI (getSlot Φ.G k)
theorem Tr.refl (Φ:Ct) (s:Shared):Tr Φ s Φ s:=⟨rfl,fun U U e U=>.of e,fun U l=>l,fun U U q=>q,fun U U e q=>⟨e,q⟩⟩
theorem Tr.trans (x:Tr Φ s Φ₂ Ee) (y:Tr Φ₂ Ee Φ₃ EO):Tr Φ s Φ₃ EO where
 fx:=y.fx.trans x.fx
 keep:=fun b o e n=>(x.keep b o e n).step fun o' e'=>y.keep b o' e' fun q=>n (x.grow b ⟨o,e⟩ q)
 live:=fun b l=>y.live b (x.live b l)
 grow:=fun a l q=>x.grow a l (y.grow a (x.live a l) q)
 inst:=fun k a e q=>(y.inst k a e q).elim fun e q=>x.inst k a e q
theorem Tr.of_keeps (k:aI s.heap s'.heap):Tr Φ s Φ s':=⟨rfl,fun b o e U=>k b o e,fun U=>k.live,fun U U q=>q,fun U U e q=>⟨e,q⟩⟩
theorem Tr.mapK (t:Tr Φ s Φ' s'):cR Φ.bad Φ'.bad s.heap s'.heap:=fun a o e f n=>
 ⟨fun b=>b.elim (fun b=>n (.inl (t.fx▸b))) fun b=>n (.inr (t.grow a ⟨o,e⟩ b)),(t.keep a o e fun q=>n (.inr q)).get f⟩
def bV {G:Gs} {k:Nat} {x:Slot} (hk:k < G.length):getSlot (G.set k x) k=x:=by
 unfold getSlot; rw [getD_eq_getElem?_getD,List.getElem?_set_self hk]; rfl
def cI (h:j≠k):getSlot (G.set k x) j=getSlot G j:=by
 unfold getSlot; rw [getD_eq_getElem?_getD,getD_eq_getElem?_getD,List.getElem?_set_ne (Ne.symm h)]
noncomputable def Ct.put (Φ:Ct) (k:Nat) (oak:Option Addr) (sl:Slot):Ct:=⟨Φ.fx,fun j=>if j=k then oak else Φ.oa j,Φ.G.set k sl⟩
def put_own (q:(Φ.put k oak sl).own a):oak=some a\/Φ.own a:=by
 rcases q with q | ⟨j,q⟩
 ·exact .inr (.inl q)
 ·by_cases e:j=k
  ·exact .inl ((if_pos e).symm.trans q)
  ·exact .inr (.inr ⟨j,(if_neg e).symm.trans q⟩)
def jX (GW:k < Φ.G.length) (h:isI sl->Φ.oa k=oak/\isI (getSlot Φ.G k)):∀ j a,(Φ.put k oak sl).oa j=some a->isI (getSlot (Φ.put k oak sl).G j)->Φ.oa j=some a/\isI (getSlot Φ.G j):=fun j a e q=>by
 have e:(if j=k then oak else Φ.oa j)=some a:=e;have q:isI (getSlot (Φ.G.set k sl) j):=q;by_cases c:j=k
 ·subst c;rw [bV GW] at q;rw [if_pos rfl] at e;exact ⟨(h q).1.trans e,(h q).2⟩
 ·rw [if_neg c] at e;rw [cI c] at q;exact ⟨e,q⟩
theorem Inv.put (I:Inv Φ s₀) (B:Base Φ.fx.g s) (k₀:aI s₀.heap s.heap) (ps:iz s.heap (Φ.fx.pl k) v h')
  (so:d4 Φ.fx.g (Φ.put k oak sl).bad h' oak v sl) (EX:∀ a,oak=some a->s₀.heap.get? a=none/\aW h' a) (H9:¬ isI sl):Inv (Φ.put k oak sl) { s with heap:=h',toks:=tk }/\Tr Φ s₀ (Φ.put k oak sl) { s with heap:=h',toks:=tk }:=by
 refine av fun Z20 Lj=>?_;obtain ⟨a,ha,hs,hl,FB,IL⟩:=ps.addr;refine Lj ?_;have GW:k < Φ.G.length:=by
  rw [I.gl];refine Q0 (lt_of_not_le fun q=>?_) I.ok.nfs;replace ha:=(I.ok.offs k q)▸ha; (injection ha; done)
 have Fb:Φ.own a:=.inl ⟨k,ha⟩;have kp:∀ b o,b≠a->s₀.heap.get? b=some o->bF h' b o:=fun b o n e=>(k₀ b o e).step fun o' e'=>.of (hs.extBut b o' n e');have live:∀ b,aW s₀.heap b->aW h' b:=fun b ⟨o,e⟩=>(Classical.em (b=a)).elim (fun q=>q▸hl) fun n=>(kp b o n e).live;have nl:∀ b,oak=some b->¬ aW s₀.heap b:=fun b e ⟨o,q⟩=>by replace q:=((EX b e).1)▸q; (injection q; done)
 have mk:cR Φ.bad (Φ.put k oak sl).bad s₀.heap h':=fun b o e f n=>by
  refine ⟨fun q=>?_,(kp b o (fun q=>n (.inr (q▸Fb))) e).get f⟩;rcases q with q | q
  ·exact n (.inl q)
  ·exact (put_own q).elim (fun q=>nl b q ⟨o,e⟩) fun q=>n (.inr q)
 have Gr:∀ b,Φ.own b->¬ oak=some b:=fun b q e=>nl b e (I.new b q).1;refine ⟨⟨I.ok,⟨fun b o e=>hs.extBut b o (fun q=>ay (I.new a Fb).2.1 (q▸e)) (B.stays b o e),B.os,B.gens⟩,fun j=>?_,fun b q=>?_,fun i j b e1 e2=>?_,fun j b e i q=>?_,?_,fun b q=>live b (I.mo b q),(I.fr.keep k₀).but hs (.inr ⟨FB,IL⟩)⟩,
  ⟨rfl,fun b o e n=>kp b o (fun q=>n (q▸Fb)) e,live,fun b l q=>(put_own q).elim (fun q=>absurd l (nl b q)) id,jX GW fun q=>absurd q H9⟩⟩
 ·by_cases e:j=k
  ·subst e;refine ⟨v,ps.self,?_⟩;have e1:(Φ.put j oak sl).oa j=oak:=if_pos rfl;have e2:getSlot (Φ.put j oak sl).G j=sl:=bV GW;rw [e1,e2]; exact so
  ·obtain ⟨u,pr,sj⟩:=I.slot j;have e1:(Φ.put k oak sl).oa j=Φ.oa j:=if_neg e;have e2:getSlot (Φ.put k oak sl).G j=getSlot Φ.G j:=cI e;refine e1.symm▸e2.symm▸?_;refine ⟨u,?_,sj.map mk fun b eb o e f=>(kp b o (fun q=>I.off j b eb k (q▸ha)) e).get f⟩;by_cases ho:Φ.fx.pl j=.off
   ·refine (?_:bf h' (Φ.fx.pl j) u);rw [ho] at pr ⊢; exact pr
   ·exact ps.other (fun q=>e (I.ok.inj j k q ho)) (fun a' x c q=>q.elim (fun q=>I.ok.apart k j a' x c q.1 q.2) fun q=>I.ok.apart j k a' x c q.1 q.2) (pr.keep k₀)
 ·rcases put_own q with q | q
  ·exact ⟨(EX b q).2,aR (fun l=>I.base.stays.live l) (EX b q).1,fun z=>nl b q (I.mo b z)⟩
  ·obtain ⟨l,n⟩:=I.new b q;exact ⟨live b l,n⟩
 ·have c1:(if i=k then oak else Φ.oa i)=some b:=e1;have c2:(if j=k then oak else Φ.oa j)=some b:=e2;by_cases h1:i=k <;> by_cases h2:j=k
  ·exact h1.trans h2.symm
  ·rw [if_pos h1] at c1; rw [if_neg h2] at c2; exact absurd c1 (Gr b (.inr ⟨j,c2⟩))
  ·rw [if_neg h1] at c1; rw [if_pos h2] at c2; exact absurd c2 (Gr b (.inr ⟨i,c1⟩))
  ·rw [if_neg h1] at c1; rw [if_neg h2] at c2; exact I.inj i j b c1 c2
 ·have c:(if j=k then oak else Φ.oa j)=some b:=e;by_cases h1:j=k
  ·rw [if_pos h1] at c; exact Gr b (.inl ⟨i,q⟩) c
  ·rw [if_neg h1] at c; exact I.off j b c i q
 ·refine (?_:(Φ.G.set k sl).length=_);rw [length_set]; exact I.gl
theorem Inv.mutate (I:Inv Φ s) (hk:Φ.oa k=some a) (pr:bf s.heap (Φ.fx.pl k) (some u)) (H':∃ o,s.heap.get? a=some o/\iK o) (hs:SameBut a s.heap h') (hl:aW h' a) (ow:gE Φ.fx.g Φ.bad h' a u sl) (Jz:∀ x,sl≠.v x) (H6:sl≠.unset) (H9:isI sl->isI (getSlot Φ.G k)) :
  Inv (Φ.put k (some a) sl) { s with heap:=h',toks:=tk }/\Tr Φ s (Φ.put k (some a) sl) { s with heap:=h',toks:=tk }:=by
 have kp:∀ b o,b≠a->s.heap.get? b=some o->h'.get? b=some o:=fun b o n e=>hs.extBut b o n e;have Fb:Φ.own a:=.inr ⟨k,hk⟩;have GW:k < Φ.G.length:=by
  rw [I.gl];refine Q0 (lt_of_not_le fun q=>?_) I.ok.nfs;replace pr:=(I.ok.offs k q)▸pr; (injection pr; done)
 have eo:(Φ.put k (some a) sl).oa=Φ.oa:=funext fun j=>(Classical.em (j=k)).elim (fun e=>(if_pos e).trans (e▸hk.symm)) fun e=>if_neg e;have eb:(Φ.put k (some a) sl).bad=Φ.bad:=by unfold Ct.bad Ct.own; rw [eo]; rfl
 have ew:(Φ.put k (some a) sl).own=Φ.own:=by unfold Ct.own; rw [eo]; rfl
 have live:∀ b,aW s.heap b->aW h' b:=fun b FL=>FL.elim fun o e=>(Classical.em (b=a)).elim (fun q=>q▸hl) fun n=>⟨o,kp b o n e⟩;have mk:cR Φ.bad Φ.bad s.heap h':=fun b o e U n=>⟨n,kp b o (fun q=>n (.inr (q▸Fb))) e⟩;have plr:∀ j u,bf s.heap (Φ.fx.pl j) u->bf h' (Φ.fx.pl j) u:=fun j u r=>by
  have na:∀ c,(Φ.fx.pl j).addr=some c->c≠a:=fun c e q=>I.off k a hk j (q▸e);generalize Φ.fx.pl j=p at r na;cases p with
  | ns c x=>obtain ⟨m,hn,hu⟩:=r; exact ⟨m,hn.at' fun o e=>kp c o (na c rfl) e,hu⟩
  | cell c=>obtain ⟨o,ho,hd⟩:=r; exact ⟨o,kp c o (na c rfl) ho,hd⟩
  | off=>exact r
 refine ⟨⟨I.ok,⟨fun b o e=>kp b o (fun q=>ay (I.new a Fb).2.1 (q▸e)) (I.base.stays b o e),I.base.os,I.base.gens⟩,fun j=>?_,fun b q=>?_,by exact eo.symm▸I.inj,by exact eo.symm▸I.off,?_,fun b q=>live b (I.mo b q),I.fr.but hs (.inl H')⟩,
  ⟨rfl,fun b o e n=>.of (kp b o (fun q=>n (q▸Fb)) e),live,fun b l q=>ew▸q,jX GW fun q=>⟨hk,H9 q⟩⟩⟩
 ·refine eb.symm▸eo.symm▸?_;by_cases e:j=k
  ·subst e;refine ⟨some u,plr j _ pr,?_⟩;have e2:getSlot (Φ.put j (some a) sl).G j=sl:=bV GW;refine e2.symm▸?_;cases sl with
   | unset=>exact absurd rfl H6
   | v x=>exact absurd rfl (Jz x)
   | _=>exact ⟨a,u,hk,rfl,ow⟩
  ·refine av fun Z23 Li=>?_;obtain ⟨w,r,sj⟩:=I.slot j;refine Li ?_;have e2:getSlot (Φ.put k (some a) sl).G j=getSlot Φ.G j:=cI e;exact e2.symm▸⟨w,plr j w r,sj.map mk fun b eb o e' U=>kp b o (fun q=>e (I.inj j k a (q▸eb) hk)) e'⟩
 ·rw [ew] at q;obtain ⟨l,n⟩:=I.new b q;exact ⟨live b l,n⟩
 ·refine (?_:(Φ.G.set k sl).length=_);rw [length_set]; exact I.gl
end
noncomputable abbrev Ct.wi (Φ:Ct) (oa:Nat->Option Addr) (G:Gs):Ct:=⟨Φ.fx,oa,G⟩
section
variable {Φ:Ct} {s s' s₁:Shared} {v:Value} {x:V}
def i8 (I:Inv Φ s) (ps:iz s.heap (Φ.fx.pl k) (some v) h') (r:Φ.rp s.heap v x):Inv (Φ.put k none (.v x)) { s with heap:=h',toks:=tk }/\Tr Φ s (Φ.put k none (.v x)) { s with heap:=h',toks:=tk }:=by
 refine av fun Z1 Lq=>?_;obtain ⟨a,ha,hs,_⟩:=ps.addr;refine Lq ?_;refine Inv.put (oak:=none) (sl:=.v x) I I.base (.refl _) ps ⟨rfl,v,rfl,r.map fun b o e U n=>⟨fun q=>?_,hs.extBut b o (fun q=>n (.inr (.inl ⟨k,q▸ha⟩))) e⟩⟩ (fun a q=>nN q.symm) id;exact n (q.imp id fun (q:(Φ.put k none (.v x)).own b)=>(put_own q).elim (fun (z:none=some b)=>nN z.symm) id)
structure TgtOk (ρ:List (Str×Nat)) (env:Env) (n:Str) (k:Nat):Prop where
 lk:ρ.lookup n=some k
 nf:env.kindOf n≠some .free
def zb (hT:TgtOk Φ.fx.ρ Φ.fx.env n k) (I:Inv Φ s) (r:Φ.rp s.heap v x) :
  Φ.wp (assign (.Name n py) Φ.fx.env v) (fun U s'=>Inv (Φ.put k none (.v x)) s'/\Tr Φ s (Φ.put k none (.v x)) s'/\∀ b o,s.heap.get? b=some o->(Φ.fx.pl k).addr≠some b->s'.heap.get? b=some o) s:=fun E=>by
 rw [arm_assign_Name];refine (bSt (wpAny_bindName (eB I hT.lk hT.nf (fun h' tk ps=>?_) E)));refine av fun Z2 Jl=>?_;obtain ⟨a,ha,hs,_⟩:=ps.addr;refine Jl ?_;have q:=i8 (tk:=tk) I ps r;exact ⟨q.1,q.2,fun b o e n=>hs.extBut b o (fun q=>n (q▸ha)) e⟩
noncomputable def wm (ks:List Nat) (xs:List V) (G:Gs):Gs:=(ks.zip xs).foldl (fun G p=>G.set p.1 (.v p.2)) G
inductive TgtsOk (ρ:List (Str×Nat)) (env:Env):List Expr->List Nat->Prop
 | nil:TgtsOk ρ env [] []
 | cons {n:Str} {p:Pos} {k:Nat} {es:List Expr} {ks:List Nat}:TgtOk ρ env n k->TgtsOk ρ env es ks->TgtsOk ρ env (.Name n p :: es) (k :: ks)
noncomputable def offs (ks:List Nat) (oa:Nat->Option Addr):Nat->Option Addr:=ks.foldl (fun oa k j=>if j=k then none else oa j) oa
def mZ (fx:Fx) (oa:Nat->Option Addr) (G:Gs) (s:Shared) (ks:List Nat) (G':Gs) (s':Shared):Prop:=
 Inv ⟨fx,offs ks oa,G'⟩ s'/\Tr ⟨fx,oa,G⟩ s ⟨fx,offs ks oa,G'⟩ s'/\∀ b o,s.heap.get? b=some o->(∀ k∈ks,(fx.pl k).addr≠some b)->s'.heap.get? b=some o
def DH (hT:TgtsOk fx.ρ fx.env es ks):∀ {oa:Nat->Option Addr} {G:Gs} {vs:List Value} {xs:List V} {s:Shared},xs.length=ks.length->Inv ⟨fx,oa,G⟩ s->(Ct.mk fx oa G).rps s.heap vs xs ->
  (Ct.mk fx oa G).wp (assignInOrder ((assignEach es fx.env).map (·.2)) vs) (fun U s'=>mZ fx oa G s ks (wm ks xs G) s') s:=by
 induction hT with
 | nil=>
  intro oa G vs xs s hl I r E;obtain rfl:=length_eq_zero_iff.mp hl;cases r
  exact zC2 ⟨I,.refl _ _,fun U U e U=>e⟩
 | @cons n p k es ks h1 _ ih=>
  intro oa G vs xs s hl I r E;cases r with
  | nil=>(injection hl; done)
  | @cons v vs x xs r rs=>
   refine (?_:wpAny _ _ (holding vs (assign (.Name n p) fx.env v) >>= fun U=>assignInOrder ((assignEach es fx.env).map (·.2)) vs) _ _ _);refine zC1 (wpAny_holding (wpAny_mono (zb (Φ:=⟨fx,oa,G⟩) h1 I r E) (fun U s₁ q=>?_) fun U U z=>z));refine wpAny_mono (ih (Nat.succ.inj hl) q.1 (rs.map q.2.1.mapK) E) (fun U Ee z=>?_) fun U U z=>z;exact ⟨z.1,q.2.1.trans z.2.1,fun b o e n=>z.2.2 b o (q.2.2 b o e (n k (.head _))) fun j m=>n j (.tail _ m)⟩
def qf (hT:TgtsOk ρ e0 es ks):(assignEach es env).length=ks.length/\(assignEach es env).findIdx? (·.1)=none:=by
 induction hT with
 | nil=>exact ⟨rfl,rfl⟩
 | @cons n p k es ks h1 _ ih=>
  have e:assignEach (.Name n p :: es) env=(false,assign (.Name n p) env) :: assignEach es env:=rfl;rw [e];exact ⟨congrArg (· + 1) ih.1,by rw [List.findIdx?_cons,ih.2]; rfl⟩
def fG (e:aO ks G x=some G') {C:V->Gs->Prop} (k:∀ xs,xs.length=ks.length->C (.tuple xs) (wm ks xs G)):C x G':=by
 cases x with
 | tuple xs=>exact if_elim e fun h=>k xs h
 | _=>(injection e; done)
def BK [Hm Φ.fx] (hT:TgtsOk Φ.fx.ρ Φ.fx.env es ks) (I:Inv Φ s) (e:aO ks Φ.G x=some G') (r:Φ.rp s.heap v x) :
  Φ.wp (assign (.Tuple es kk p) Φ.fx.env v) (fun U s'=>mZ Φ.fx Φ.oa Φ.G s ks G' s') s:=fun E=>
 fG (C:=fun x G'=>Φ.rp s.heap v x->wpAny _ _ (assign (.Tuple es kk p) Φ.fx.env v) (fun U s'=>mZ Φ.fx Φ.oa Φ.G s ks G' s') E s) e (fun xs hl r=>r.tuple_elim fun a o vs n hb ha hc hd hr=>by
  obtain ⟨h1,h2⟩:=qf (env:=Φ.fx.env) hT;refine wpAny_assign_Tuple (I.ok.hand Hm.no) ⟨_,ha,hc,_,hd⟩ (by exact h1.symm▸hl▸(aQ hr).symm) h2 fun h' he=>?_;have gr:Grown s { s with heap:=h' }:=⟨fun b o e=>he b o (ne_of_lt (lt_size e)) e,rfl,rfl⟩;refine wpAny_mono (DH (oa:=Φ.oa) (G:=Φ.G) hT hl (I.keep (I.base.grown gr) gr.keeps) (hr.keep gr.keeps) E) (fun U Ee z=>⟨z.1,(Tr.of_keeps gr.keeps).trans z.2.1,fun b o e n=>z.2.2 b o (gr.stays b o e) n⟩) fun U U z=>z) r
def yZ (Φ:Ct) (s:Shared) (h:Heap) (f:Flow) (fl:Option V):Prop:=match fl with
 | none=>f=.next
 | some x=>noX x=true/\∃ v,f=.ret v/\Φ.rp h v x/\(Φ.fx.nw=true->lR s.heap v)
theorem yZ.lift (x:yZ Φ s₁ h f fl) (k:∀ b,aW s.heap b->aW s₁.heap b):yZ Φ s h f fl:=by
 cases fl with
 | none=>exact x
 | some y=>obtain ⟨nx,v,e,r,n⟩:=x; exact ⟨nx,v,e,r,fun q=>(n q).le k⟩
inductive PostS (Φ:Ct) (s:Shared) (K:Option V->Gs->Prop) (f:Flow) (s':Shared):Prop
 | mk:∀ oa' G' fl,(fl=none\/Φ.fx.hm=true->Inv (Φ.wi oa' G') s')->Base Φ.fx.g s'->Tr Φ s (Φ.wi oa' G') s'->yZ (Φ.wi oa' G') s s'.heap f fl->K fl G'->PostS Φ s K f s'
inductive PostX (Φ:Ct) (s:Shared) (K:Option V->Gs->Prop) (v:Value) (s':Shared):Prop
 | mk:∀ oa' G' c e,v=.ref e->c < Φ.fx.g.nc->Inv (Φ.wi oa' G') s'->Tr Φ s (Φ.wi oa' G') s'->ExcAt s'.heap s.heap e (.ref (Φ.fx.g.cls c)) .none->K (some (fK c)) G'->PostX Φ s K v s'
def ExB (fx:Fx) (t:Sem Flow) (X:B):Prop:=∀ oa G K s,X G K->Inv ⟨fx,oa,G⟩ s->wpAny (model fx.g.prog fx.g.w) fx.A t (PostS ⟨fx,oa,G⟩ s K) (PostX ⟨fx,oa,G⟩ s K) s
theorem ExcAt.le {h lo Jk:Heap} {e:Addr} {cls fl:Value} (x:ExcAt h lo e cls fl) (q:∀ b,aW Jk b->aW lo b):ExcAt h Jk e cls fl:=by
 obtain ⟨oe,vs,a,b,c,d,f,g,k⟩:=x;refine ⟨oe,vs,a,b,c,d,aR (q _) f,g,k.imp id ?_⟩;rintro ⟨T,oT,ts,a,b,c,d⟩;exact ⟨T,oT,ts,a,b,aR (q _) c,d⟩
theorem PostS.lift {K:Option V->Gs->Prop} {E1:Nat->Option Addr} (p:PostS (Φ.wi E1 El) s₁ K f s') (t:Tr Φ s (Φ.wi E1 El) s₁):PostS Φ s K f s':=by
 obtain ⟨oa',G',fl,I,B,t',h,h'⟩:=p;exact ⟨oa',G',fl,I,B,t.trans t',h.lift t.live,h'⟩
theorem PostX.lift {K:Option V->Gs->Prop} {E1:Nat->Option Addr} (p:PostX (Φ.wi E1 El) s₁ K v s') (t:Tr Φ s (Φ.wi E1 El) s₁):PostX Φ s K v s':=by
 obtain ⟨oa',G',c,e,h1,h2,I,t',x,h⟩:=p;exact ⟨oa',G',c,e,h1,h2,I,t.trans t',x.le t.live,h⟩
theorem PostX.imp {K K':Option V->Gs->Prop} (p:PostX Φ s K v s') (q:∀ x G,K (some x) G->K' (some x) G):PostX Φ s K' v s':=by
 obtain ⟨oa',G',c,e,h1,h2,I,t',x,h⟩:=p;exact ⟨oa',G',c,e,h1,h2,I,t',x,q _ _ h⟩
theorem PostS.next {K:Option V->Gs->Prop} {oa':Nat->Option Addr} (I:Inv (Φ.wi oa' G') s') (t:Tr Φ s (Φ.wi oa' G') s') (k:K none G'):PostS Φ s K .next s':=⟨oa',G',none,fun U=>I,I.base,t,rfl,k⟩
end
section
variable {fx:Fx} {s:Shared}
def Bh:ExB fx (execs [] fx.env) (fun G K=>K none G):=fun oa G K s hd I=>wpAny_execs_nil (.next I (.refl _ _) hd)
def ex_cons {st:Stmt} {r:List Stmt} {X Y:B} (h1:ExB fx (exec st fx.env) X) (h2:ExB fx (execs r fx.env) Y):ExB fx (execs (st :: r) fx.env) (fun G K=>X G fun fl G'=>match fl with | none=>Y G' K | some x=>K (some x) G'):=fun oa G K s hd I=>by
 refine wpAny_execs_cons (wpAny_mono (h1 oa G _ s hd I) (fun f s₁ ⟨E1,El,fl,C',B₁,t₁,hf,hk⟩=>?_) fun U U z=>z.imp fun U U k=>k);cases fl with
 | none=>subst hf; exact wpAny_mono (h2 E1 El K s₁ hk (C' (.inl rfl))) (fun U U p=>p.lift t₁) fun U U p=>p.lift t₁
 | some x=>obtain ⟨nx,v,rfl,r⟩:=hf; exact ⟨E1,El,some x,C',B₁,t₁,⟨nx,v,rfl,r⟩,hk⟩
def C3 {d:Gs->DV} (hc:∀ oa G,EvT ⟨fx,oa,G⟩ (isTrue c fx.env (eval c fx.env)) (tst (d G))) (ha:ExB fx (execs a fx.env) X) (hb:ExB fx (execs b fx.env) Y) :
  ExB fx (exec (.If c a b pos) fx.env) (fun G K=>d G fun x=>okK (cL x some) fun t=>if t=true then X G K else Y G K):=fun oa G K s hd I=>by
 refine wpAny_If (wpAny_mono (hc oa G (fun t=>if t=true then X G K else Y G K) s hd I _) (fun t s₁ ⟨B,k,t',hk,e⟩=>?_) fun U U z=>z);subst e;cases t with
 | true=>exact wpAny_mono (ha oa G K s₁ hk (I.keep B k)) (fun U U p=>p.lift (.of_keeps k)) fun U U p=>p.lift (.of_keeps k)
 | false=>exact wpAny_mono (hb oa G K s₁ hk (I.keep B k)) (fun U U p=>p.lift (.of_keeps k)) fun U U p=>p.lift (.of_keeps k)
def Bf {d:Gs->DV} (Fi:fx.nw=false) (h:∀ oa G,Ev ⟨fx,oa,G⟩ (eval e fx.env) (d G)):ExB fx (exec (.Return (some e) pos) fx.env) (fun G K=>d G fun x=>noX x=true/\K (some x) G):=fun oa G K s hd I=>by
 rw [exec_Return_some];exact (bSt (zC1 (wpAny_mono (h oa G _ s hd I _) ((by rintro v s₁ ⟨B,k,x,hx,r⟩; exact zC2 ⟨oa,G,some x,fun U=>I.keep B k,B,.of_keeps k,⟨hx.1,v,rfl,r,fun q=>nomatch Fi.symm.trans q⟩,hx.2⟩)) fun U U z=>z)))
def yF {d:Gs->DV} (h:∀ oa G,EvN ⟨fx,oa,G⟩ (eval e fx.env) (d G)):ExB fx (exec (.Return (some e) pos) fx.env) (fun G K=>d G fun x=>noX x=true/\K (some x) G):=fun oa G K s hd I=>by
 rw [exec_Return_some];exact (bSt (zC1 (wpAny_mono (h oa G _ s hd I _) ((by rintro v s₁ ⟨⟨B,k,x,hx,r⟩,n⟩; exact zC2 ⟨oa,G,some x,fun U=>I.keep B k,B,.of_keeps k,⟨hx.1,v,rfl,r,fun U=>n⟩,hx.2⟩)) fun U U z=>z)))
def mX {f:Nat} {qs:List (Expr×DV)} {K:V->Prop} {Q:Value->Shared->Prop} {E:Value->Shared->Prop} (hx:br Φ.fx.env.scope.names n=true) (hf:Φ.fx.g.fns.lookup n=some f) (Fw:keepIn Φ.fx.g.K (.ref (Φ.fx.g.fn f))=true) (Fe:Φ.safe f)
  (hq:∀ q∈qs,aq q.1=true/\bj Φ q) (hd:bv (qs.map Prod.snd) fun xs=>ao Φ.fx.g.P Φ.fx.d f xs K) (I:Inv Φ s)
  (hQ:∀ v s' y,Inv Φ s'->aI s.heap s'.heap->K y->noX y=true->Φ.rp s'.heap v y->(Φ.fx.g.newf f=true->lR s.heap v)->Q v s') (hE:∀ s' c e,Inv Φ s'->aI s.heap s'.heap->c < Φ.fx.g.nc->K (fK c)->ExcAt s'.heap s.heap e (.ref (Φ.fx.g.cls c)) .none->E (.ref e) s') :
  wpAny (model Φ.fx.g.prog Φ.fx.g.w) Φ.fx.A (eval (.Call (.Name n fp) (qs.map Prod.fst) [] pos) Φ.fx.env) Q E s:=by
 refine (?_:wpAny _ _ (eval (.Name n fp) Φ.fx.env >>= fun F=>callWith pos F [] (backTo pos (starEach (qs.map Prod.fst) Φ.fx.env)) []) _ _ s);refine zC1 (bP I hx (I.ok.gr.fns n f hf) ?_ E);refine callWith_of (by rw [dC (b8 fun q m=>(hq q m).1)]; rfl) (keeps_K Fw) (cM hq hd I fun vs xs s₁ C' Ef hx rs=>⟨C'.frag,?_⟩);exact wpAny_mono (C'.ok.call Φ.fx.hm f xs _ Φ.fx.A s₁ Φ.bad vs hx C'.ok.hand Fe C'.ok.room C'.ok.units C'.base C'.fr (fun a b=>C'.badLive b) (fun a b=>C'.bad0 b) rs) ((by rintro v s' ⟨B,k,y,hy,nx,r,nv⟩; exact hQ v s' y (C'.keep B k) (Ef.trans k) hy nx r fun q=>(nv q).le fun U=>Ef.live))
  (by rintro v s' ⟨B,k,c,e,hv,hc,hy,x⟩; exact hv▸hE s' c e (C'.keep B k) (Ef.trans k) hc hy (x.le fun U=>Ef.live))
def yG {qs:Gs->List (Expr×DV)} (J9:∀ G,(qs G).map Prod.fst=es) (hx:br fx.env.scope.names n=true) (hf:fx.g.fns.lookup n=some f) (Fw:keepIn fx.g.K (.ref (fx.g.fn f))=true) (Fe:fx.hm=true->fx.g.safe f=true) (Fi:fx.nw=false)
  (hq:∀ oa G,∀ q∈qs G,aq q.1=true/\bj ⟨fx,oa,G⟩ q):ExB fx (exec (.Return (some (.Call (.Name n fp) es [] cpos)) pos) fx.env) (fun G K=>bv ((qs G).map Prod.snd) fun xs=>ao fx.g.P fx.d f xs fun y=>K (some y) G):=fun oa G K s hd I=>by
 rw [exec_Return_some,<- J9 G];refine (bSt (zC1 (mX (Φ:=⟨fx,oa,G⟩) hx hf Fw Fe (hq oa G) hd I (fun v s' y I' k hy nx r nv=>zC2 ⟨oa,G,some y,fun U=>I',I'.base,.of_keeps k,⟨nx,v,rfl,r,fun q=>nomatch Fi.symm.trans q⟩,hy⟩) fun s' c e I' k hc hy x=>⟨oa,G,c,e,rfl,hc,I',.of_keeps k,x,hy⟩)))
def vT [Hm fx] (hx:br fx.env.scope.names x=true) (hc:fx.g.clss.lookup x=some c) :
  ExB fx (exec (.Raise (some (.Call (.Name x np) [.Constant (.str msg) kk mp] [] cpos)) none pos) fx.env) (fun G K=>K (some (fK c)) G):=fun oa G K s hd I=>by
 refine av fun Z8 HW=>?_;obtain ⟨hn,hm⟩:=I.ok.gr.clss x c hc;obtain ⟨nm,q,N,bs,bm,Mn,hdct,sn,sub,ab,col,dd,k0,k1,k2,k3,k5,B,newId,Gu,mN,F,hb,H9,hC,hN,hT⟩:=I.ok.gr.raises c hn;refine HW ?_;refine wpAny_Raise_call_subT (C:=fx.g.cls c) (nm:=nm) (q:=q) (N:=N) (bs:=bs) (bm:=bm) (hdct:=hdct) (sn:=sn) (sub:=sub) (ab:=ab) (col:=col) (dd:=dd) (k0:=k0) (k1:=k1) (k2:=k2) (k3:=k3) (k5:=k5) F hb (I.ok.hand Hm.no) rfl H9 (bP I hx hm ⟨rfl,?_⟩ _);refine Calls.evalArgs_plain (x:=eval (.Constant (.str msg) kk mp) fx.env) (rest:=[]) (Calls.spliced_cons (wpAny_Constant_str (Calls.spliced_nil ⟨rfl,by refine (?_:1<=sizeLine); decide,I.base.stays _ _ hC,hN.at' fun o e=>I.base.stays _ o e,hT.keeps fun b o e=>I.base.stays b o e,fun h' e hm=>?_⟩)));have gr:Grown s { s with heap:=h',toks:=s.toks+1 }:=⟨hm.keeps,rfl,rfl⟩;obtain ⟨t,ht,_,_⟩:=hm.there;exact ⟨oa,G,c,e,rfl,hn,I.keep (I.base.grown gr) gr.keeps,.of_keeps gr.keeps,⟨_,_,ht,rfl,rfl,rfl,hm.new,by refine (?_:1 < 6); decide,.inl rfl⟩,hd⟩
def ch (h:b0 value=true):swapsWith value t n env=pure false:=by
 cases value <;> first | rfl | exact nB h
def lK {d:Gs->DV} (hs:swapsWith value (some (.Name n py)) Eo.line fx.env=pure false) (hT:TgtOk fx.ρ fx.env n k) (h:∀ oa G,Ev ⟨fx,oa,G⟩ (eval value fx.env) (d G)) :
  ExB fx (exec (.Assign [.Name n py] value Eo) fx.env) (fun G K=>d G fun x=>K none (G.set k (.v x))):=fun oa G K s hd I=>by
 refine (exec_Assign_Name _ _ _ _ _ hs).symm▸?_;refine (bSt (zC1 (wpAny_mono (h oa G _ s hd I _) (fun v s₁ ⟨B,Ef,x,hx,r⟩=>?_) fun U U z=>z)));have C':=I.keep B Ef;refine (bSt (zC1 (wpAny_bindName (eB C' hT.lk hT.nf (fun h' tk ps=>zC2 ?_) _))));have q:=i8 (tk:=tk) C' ps r;exact .next q.1 ((Tr.of_keeps Ef).trans q.2) hx
end
noncomputable abbrev Fx.mo (fx:Fx) (X:Addr->Prop):Fx:={ fx with Mo:=fun b=>fx.Mo b\/X b }
noncomputable abbrev Ct.mo (Φ:Ct) (X:Addr->Prop):Ct:=⟨Φ.fx.mo X,Φ.oa,Φ.G⟩
section
variable {Φ:Ct} {s s' s₀ Ee:Shared} {h':Heap} {X:Addr->Prop}
theorem FxOk.any (ok:FxOk fx) (h:∀ a,M a->fx.g.h0.get? a=none):FxOk { fx with Mo:=M }:=⟨ok.gr,ok.hand,ok.kind,ok.globals,ok.builtins,ok.vis,ok.inj,ok.apart,ok.offs,ok.nfs,ok.room,ok.units,ok.call,h⟩
def sB (hX:∀ b,X b->s₀.heap.get? b=none) (k:aI s₀.heap Ee.heap):cR Φ.bad (Φ.mo X).bad s₀.heap Ee.heap:=fun b o e f n=>
 ⟨fun q=>q.elim (fun q=>q.elim (fun q=>n (.inl q)) fun q=>ay (hX b q) e) fun q=>n (.inr q),k.get e f⟩
theorem Inv.more (I:Inv Φ s₀) (B:Base Φ.fx.g Ee) (k:aI s₀.heap Ee.heap) (hX:∀ b,X b->s₀.heap.get? b=none) (hl:∀ b,X b->aW Ee.heap b):Inv (Φ.mo X) Ee where
 ok:=I.ok.any fun a q=>q.elim (I.ok.mo0 a) fun q=>aR (fun l=>I.base.stays.live l) (hX a q)
 base:=B
 slot:=fun j=>let ⟨v,r,x⟩:=I.slot j; ⟨v,r.keep k,x.map (sB hX k) fun a U o e f=>k.get e f⟩
 new:=fun a q=>let ⟨x,y,z⟩:=I.new a q; ⟨k.live x,y,fun w=>w.elim z fun w=>x.elim fun o e=>ay (hX a w) e⟩
 inj:=I.inj
 off:=I.off
 gl:=I.gl
 mo:=fun a q=>q.elim (fun q=>k.live (I.mo a q)) (hl a)
 fr:=I.fr.keep k
def tL:cR (Φ.mo X).bad Φ.bad h h:=fun b o e U n=>⟨fun q=>n (q.imp .inl id),e⟩
def xt (A:Around) (b:Addr):Prop:=∀ l env,A.frames=some l->env∈l->env.frame≠some b
theorem fD.look (f:fD g A h) (e:A.frames=some l) (m:env∈l) (q:env.frame=some b):∃ o,h.get? b=some o/\o.cls=.type "frame":=by
 obtain ⟨l',e',f⟩:=f;obtain rfl:=Option.some.inj (e.symm.trans e');refine av fun Z2 Jl=>?_;obtain ⟨_,L,o,hf,_,ho,hc,_⟩:=f env m;refine Jl ?_;obtain rfl:=Option.some.inj (q.symm.trans hf);exact ⟨o,ho,hc⟩
theorem fD.not (f:fD g A h) (n:dN h b):xt A b:=fun l env e m q=>(f.look e m q).elim fun o z=>n.nf z.1 z.2
theorem fD.new (f:fD g A h) (n:h.get? b=none):xt A b:=fun l env e m q=>(f.look e m q).elim fun o z=>ay n z.1
theorem Inv.others {wr:List Addr} {tk:Nat} {Mo₂:Addr->Prop} (I:Inv Φ s) (Fi:∀ b∈wr,xt Φ.fx.A b) (k:∀ b o,b∉wr->s.heap.get? b=some o->h'.get? b=some o) (hw:∀ b∈wr,Φ.fx.Mo b) (h0:∀ b∈wr,Φ.fx.g.h0.get? b=none) (hs:∀ a,Mo₂ a->Φ.fx.Mo a) (hl:∀ a,Mo₂ a->aW h' a):Inv ⟨{ Φ.fx with Mo:=Mo₂ },Φ.oa,Φ.G⟩ { s with heap:=h',toks:=tk }:=by
 have HU:∀ b,Φ.own b->b∉wr:=fun b q m=>(I.new b q).2.2 (hw b m);have mk:cR Φ.bad (Ct.mk { Φ.fx with Mo:=Mo₂ } Φ.oa Φ.G).bad s.heap h':=fun b o e U n=>⟨fun q=>n (q.imp (hs b) id),k b o (fun m=>n (.inl (hw b m))) e⟩;refine ⟨I.ok.any fun a q=>I.ok.mo0 a (hs a q),⟨fun b o e=>k b o (fun m=>ay (h0 b m) e) (I.base.stays b o e),I.base.os,I.base.gens⟩,fun j=>?_,fun a q=>?_,I.inj,I.off,I.gl,hl,I.fr.elim fun l q=>⟨l,q.1,fun env m=>?_⟩⟩
 ·obtain ⟨u,r,so⟩:=I.slot j;refine ⟨u,?_,so.map mk fun a ea o e U=>k a o (HU a (.inr ⟨j,ea⟩)) e⟩;refine (?_:bf h' (Φ.fx.pl j) u);have na:∀ a,(Φ.fx.pl j).addr=some a->a∉wr:=fun a e=>HU a (.inl ⟨j,e⟩);generalize Φ.fx.pl j=p at r na;cases p with
  | ns a x=>obtain ⟨m,hn,hu⟩:=r; exact ⟨m,hn.at' fun o e=>k a o (na a rfl) e,hu⟩
  | cell c=>obtain ⟨o,ho,hd⟩:=r; exact ⟨o,k c o (na c rfl) ho,hd⟩
  | off=>exact r
 ·refine av fun Z4 HX=>?_;refine (I.new a q).elim fun Iy Ix=>Iy.elim fun o e=>Ix.elim fun y z=>?_;refine HX ?_;exact ⟨⟨o,k a o (HU a q) e⟩,y,fun w=>z (hs a w)⟩
 ·refine av fun Z5 kZ5=>?_;refine (q.2 env m).elim fun hk Iw=>Iw.elim fun L Iv=>Iv.elim fun o Iu=>Iu.elim fun hf My=>My.elim fun hn Mx=>Mx.elim fun ho Mw=>Mw.elim fun hc hd=>?_;refine kZ5 ?_;exact ⟨hk,L,o,hf,hn,k L o (fun z=>Fi L z l env q.1 m hf) ho,hc,hd⟩
theorem Tr.mo (e:Φ'.fx=Φ.fx) (t:Tr (Φ.mo X) s (Φ'.mo X) s'):Tr Φ s Φ' s':=⟨e,t.keep,t.live,t.grow,t.inst⟩
theorem Tr.others {wr:List Addr} {tk:Nat} (t:Tr Φ s₀ Φ' s) (k:∀ b o,b∉wr->s.heap.get? b=some o->h'.get? b=some o) (hw:∀ b∈wr,s₀.heap.get? b=none):Tr Φ s₀ Φ' { s with heap:=h',toks:=tk } where
 fx:=t.fx
 keep:=fun b o e n=>(t.keep b o e n).step fun o' e'=>.of (k b o' (fun m=>ay (hw b m) e) e')
 live:=fun b l=>(t.live b l).elim fun o' e'=>⟨o',k b o' (fun m=>l.elim fun o e=>ay (hw b m) e) e'⟩
 grow:=t.grow
 inst:=t.inst
def g9 (h:bE e=true) (x:Value):foldedSetIterable e env x=pure x:=by
 cases e <;> first | rfl | exact nB h
def rG (fx:Fx) (T:Expr) (b:Gs->V->Option Gs):Prop:=∀ X oa G v x G' s,Inv ⟨fx.mo X,oa,G⟩ s->b G x=some G'->(Ct.mk (fx.mo X) oa G).rp s.heap v x->(Ct.mk (fx.mo X) oa G).wp (assign T fx.env v) (fun U s'=>∃ oa',Inv ⟨fx.mo X,oa',G'⟩ s'/\Tr ⟨fx.mo X,oa,G⟩ s ⟨fx.mo X,oa',G'⟩ s') s
end
theorem Feed.turn {St:Nat->Heap->Prop} (F:Feed g A T I fp wr vals l0 l St) {bad:Addr->Prop} {N:Shared->Prop} {Q:Value->Shared->Prop} {E:Value->Shared->Prop}
  (hx:l[i]?=some x) (st:St i s.heap) (rv:RpAll g bad s.heap vals l0) (hb:∀ a,bad a->aW s.heap a) (hw:∀ b∈wr,bad b)
  (hQ:∀ v h' tk,St (i+1) h'->(∀ b o,b∉wr->s.heap.get? b=some o->h'.get? b=some o)->Rp g bad h' v x->Q v { s with heap:=h',toks:=tk }) :
  wpAny (model g.prog g.w) A (pyNext (.ref I)) (fun r s₁=>match r with | none=>N s₁ | some v=>wpAny (model g.prog g.w) A (letOwnedTupleGo T (.ref I) v) (fun U Ee=>Q v Ee) E s₁) E s:=
 wpAny_mono (F.item i x s bad Q E hx st rv hb hw hQ) (fun r s₁ FA=>FA.elim fun v FM=>FM.elim fun e z=>by subst e; exact z) fun U U z=>z
theorem Feed.over {St:Nat->Heap->Prop} (F:Feed g A T I fp wr vals l0 l St) {N:Shared->Prop} {Q:Value->Shared->Prop} {E:Value->Shared->Prop}
  (st:St l.length s.heap) (hN:∀ h' tk,(∀ b o,b∉wr->s.heap.get? b=some o->h'.get? b=some o)->N { s with heap:=h',toks:=tk }) :
  wpAny (model g.prog g.w) A (pyNext (.ref I)) (fun r s₁=>match r with | none=>N s₁ | some v=>wpAny (model g.prog g.w) A (letOwnedTupleGo T (.ref I) v) (fun U Ee=>Q v Ee) E s₁) E s:=
 wpAny_mono (F.done s N E st hN) (fun r s₁ FL=>FL.elim fun e z=>by subst e; exact z) fun U U z=>z
inductive FLI (fx:Fx) (X:Addr->Prop) (oa:Nat->Option Addr) (G:Gs) (s₀:Shared) (Sp:Nat->Heap->Prop) (vals:List Value) (l0 l:List V) (b:Gs->V->Option Gs) (A:B) (K:Option V->Gs->Prop) (n:Nat) (s':Shared):Prop
 | mk (i:Nat) (oa':Nat->Option Addr) (G':Gs) (en:n=l.length - i) (hi:i<=l.length) (st:Sp i s'.heap) (I':Inv ⟨fx.mo X,oa',G'⟩ s') (t':Tr ⟨fx,oa,G⟩ s₀ ⟨fx,oa',G'⟩ s') (rv:(Ct.mk (fx.mo X) oa' G').rps s'.heap vals l0) (ef:eF b A (l.drop i) G' K):FLI fx X oa G s₀ Sp vals l0 l b A K n s'
def wV [Hm fx] {body:List Stmt} {d:Gs->(List V->Prop)->Prop} {b:Gs->V->Option Gs} (F8:bE iter=true) (hT:rG fx T b) (FG:∀ oa G,eV ⟨fx,oa,G⟩ T true iter (d G)) (hb:∀ X,ExB (fx.mo X) (execs body fx.env) A) :
  ExB fx (exec (.For T iter body [] pos) fx.env) (fun G K=>d G fun xs=>eF b A xs G K):=fun oa G K s hd I=>by
 refine wpAny_For (FG oa G _ s hd I _ _ fun l s₀ it Ee kl Er k₀ gr fa=>?_) (g9 F8);obtain ⟨J,fp,wr,vals,l0,Sp,rfl,F,st0,rv,GV,hfp,hsz⟩:=fa;have start:Tr ⟨fx,oa,G⟩ s ⟨fx,oa,G⟩ s₀:=.of_keeps k₀;have IS:∀ b∈wr,fx.g.h0.get? b=none:=fun b m=>aR (fun l=>Er.base.stays.live l) (GV b m)
 let X:Addr->Prop:=fun b=>b∈fp/\s₀.heap.get? b=none
 have GY:∀ b∈wr,(fx.mo X).Mo b:=fun b m=>.inr ⟨F.sub b m,GV b m⟩;have Gp:∀ {oa':Nat->Option Addr} {G':Gs} {s':Shared},Inv ⟨fx.mo X,oa',G'⟩ s'->Tr ⟨fx,oa,G⟩ s₀ ⟨fx,oa',G'⟩ s'->∀ b∈fp,¬ (Ct.mk fx oa' G').own b:=fun I' t' b hb q=>by
  cases e:s₀.heap.get? b with
  | none=>exact (I'.new b q).2.2 (.inr ⟨hb,e⟩)
  | some o=>exact ((hfp b hb).resolve_left fun z=>ay z e) rfl (.inr (t'.grow b ⟨o,e⟩ q))
 refine codeAny_forLoop_any (FLI fx X oa G s₀ Sp vals l0 l b A K) (fun n s' hLI=>?_) l.length ⟨0,oa,G,rfl,zero_le _,st0,Er.more (Er.base.grown gr) gr.keeps (fun b q=>q.2) fun b q=>(F.live 0 _ b st0 q.1).live,.of_keeps gr.keeps,rv.map (sB (fun b q=>q.2) gr.keeps),kl⟩;refine av fun Z kZ=>?_;obtain ⟨i,oa',G',rfl,hi,st,I',t',I9,ef⟩:=hLI;cases hx:l[i]? with
 | none=>
  have F':i=l.length:=le_antisymm hi (List.getElem?_eq_none_iff.mp hx);subst F';rw [List.drop_length] at ef;refine kZ (F.over st fun h' tk hk=>wpAny_execs_nil ?_);have I3:Inv ⟨fx,oa',G'⟩ { s' with heap:=h',toks:=tk }:=Inv.others (Φ:=⟨fx.mo X,oa',G'⟩) (Mo₂:=fx.Mo) I' (fun b m=>I'.fr.not (F.live _ _ b st (F.sub b m))) hk GY IS (fun a q=>.inl q) fun a q=>(I'.mo a (.inl q)).elim fun o e=>⟨o,hk a o (fun m=>(Er.mo a q).elim fun o e=>ay (GV a m) e) e⟩;exact .next I3 (start.trans (t'.others hk GV)) ef
 | some x=>
  have F':=(List.getElem?_eq_some_iff.mp hx).1;have ed:l.drop i=x :: l.drop (i+1):=by rw [List.drop_eq_getElem_cons F']; congr 1; exact (List.getElem?_eq_some_iff.mp hx).2
  replace ef:=ed▸ef;refine kZ (F.turn hx st I9 (fun a q=>I'.badLive q) (fun b m=>.inl (GY b m)) fun v h' tk st' hk rx=>?_);clear kZ;refine av fun Z kZ=>?_;refine ah ef fun El E0 ef=>?_;have I3:Inv ⟨fx.mo X,oa',G'⟩ { s' with heap:=h',toks:=tk }:=Inv.others (Φ:=⟨fx.mo X,oa',G'⟩) (Mo₂:=(fx.mo X).Mo) I' (fun b m=>I'.fr.not (F.live _ _ b st (F.sub b m))) hk GY IS (fun a q=>q) fun a q=>by
   by_cases nw:a∈wr
   ·exact (F.live _ _ a st' (F.sub a nw)).live
   ·obtain ⟨o,e⟩:=I'.mo a q;exact ⟨o,hk a o nw e⟩
  have t3:Tr ⟨fx,oa,G⟩ s₀ ⟨fx,oa',G'⟩ { s' with heap:=h',toks:=tk }:=t'.others hk GV;have rv3:(Ct.mk (fx.mo X) oa' G').rps h' vals l0:=I9.map fun b o e U n=>⟨n,hk b o (fun m=>n (.inl (GY b m))) e⟩;refine kZ (wpAny_mono (hT X oa' G' v x El _ I3 E0 rx _) (fun U ET F0=>F0.elim fun F1 Gf=>Gf.elim fun I4 t4=>?_) fun U U z=>z);have K3:Tr ⟨fx,oa,G⟩ s₀ ⟨fx,F1,El⟩ ET:=t3.trans (t4.mo (Φ:=⟨fx,oa',G'⟩) (Φ':=⟨fx,F1,El⟩) rfl);have HP:Sp (i+1) ET.heap:=F.frame _ _ _ st' fun b hb o e=>(t4.keep b o e (Gp I3 t3 b hb)).get ((F.live _ _ b st' hb).nf e);refine wpAny_mono (hb X F1 El _ ET ef I4) (fun f ES ⟨oa₅,G₅,fl,I5,B5,t5,hf,ek⟩=>?_) (by rintro v ES ⟨oa₅,G₅,c,e,hv,hc,I5,t5,xa,ek⟩; exact nB ek.1);have t05:Tr ⟨fx,oa,G⟩ s₀ ⟨fx,oa₅,G₅⟩ ES:=K3.trans (t5.mo (Φ:=⟨fx,F1,El⟩) (Φ':=⟨fx,oa₅,G₅⟩) rfl);cases fl with
  | none=>
   subst hf;exact ⟨l.length - (i+1),Nat.sub_succ_lt_self _ _ F',i+1,oa₅,G₅,rfl,F',F.frame _ _ _ HP fun b hb o e=>(t5.keep b o e (Gp I4 K3 b hb)).get ((F.live _ _ b HP hb).nf e),I5 (.inl rfl),t05,(rv3.map t4.mapK).map t5.mapK,ek⟩
  | some y=>
   obtain ⟨nx,w,rfl,rw,nv⟩:=hf;exact ⟨oa₅,G₅,some y,fun q=>q.elim nofun fun q=>(nomatch (Hm.no (fx:=fx)).symm.trans q),B5,start.trans t05,⟨nx,w,rfl,rw.map (tL (Φ:=⟨fx,oa₅,G₅⟩)),fun q=>(nv q).le fun b l=>K3.live b (k₀.live l)⟩,ek.2⟩
section
variable {fx:Fx}
def uY (hT:TgtOk fx.ρ fx.env n k):rG fx (.Name n py) (kA k):=fun X oa G v x G' s I e r E=>by
 (injection e with e; subst e);exact wpAny_mono (zb (Φ:=⟨fx.mo X,oa,G⟩) hT I r E) (fun U s' q=>⟨_,q.1,q.2.1⟩) fun U U z=>z
def uX [Hm fx] (hT:TgtsOk fx.ρ fx.env es ks):rG fx (.Tuple es kk p) (aO ks):=fun X oa G v x G' s I e r E=>have:Hm (fx.mo X):=⟨Hm.no (fx:=fx)⟩; wpAny_mono (BK (Φ:=⟨fx.mo X,oa,G⟩) hT I e r E) (fun U s' q=>⟨_,q.1,q.2.1⟩) fun U U z=>z
def r8 (hT:TgtOk fx.ρ fx.env n k) (I:Inv ⟨fx,oa,G⟩ s₀) (B:Base fx.g s) (k₀:aI s₀.heap s.heap) (ha:s₀.heap.get? a=none) (hl:aW s.heap a) (Jz:∀ x,sl≠.v x) (H6:sl≠.unset) (H9:¬ isI sl)
  (ow:∀ h',(∀ b o,s.heap.get? b=some o->¬ (Ct.mk fx oa G).own b->h'.get? b=some o)->gE fx.g ((Ct.mk fx oa G).put k (some a) sl).bad h' a u sl)
  (h:∀ s',Inv ((Ct.mk fx oa G).put k (some a) sl) s'->Tr ⟨fx,oa,G⟩ s₀ ((Ct.mk fx oa G).put k (some a) sl) s'->Q () s'):(Ct.mk fx oa G).wp (storeName fx.env n u) Q s:=fun E=>by
 refine eB (Φ:=⟨fx,oa,G⟩) (I.keep B k₀) hT.lk hT.nf (fun h' tk ps=>?_) E;refine ps.addr.elim fun c Ir=>Ir.elim fun hc Mr=>Mr.elim fun hs U=>?_;have kp:∀ b o,s.heap.get? b=some o->¬ (Ct.mk fx oa G).own b->h'.get? b=some o:=fun b o e nb=>hs.extBut b o (fun q=>nb (.inl ⟨k,q▸hc⟩)) e;have no:¬ (Ct.mk fx oa G).own a:=fun q=>(I.new a q).1.elim fun o e=>ay ha e;have so:d4 fx.g ((Ct.mk fx oa G).put k (some a) sl).bad h' (some a) (some u) sl:=by
  cases sl with
  | unset=>exact absurd rfl H6
  | v x=>exact absurd rfl (Jz x)
  | _=>exact ⟨a,u,rfl,rfl,ow h' kp⟩
 have q:=Inv.put (tk:=tk) I B k₀ ps so (fun b e=>by (injection e with e; subst e); exact ⟨ha,hl.elim fun o e=>⟨o,kp a o e no⟩⟩) H9;exact h _ q.1 q.2
def yI {qs:Gs->List (Expr×DV)} (hT:TgtOk fx.ρ fx.env n k) (he:∀ G,(qs G).map Prod.fst=es) (hq:∀ oa G,∀ q∈qs G,aq q.1=true/\bj ⟨fx,oa,G⟩ q) :
  ExB fx (exec (.Assign [.Name n py] (.List es pos) Eo) fx.env) (fun G K=>bv ((qs G).map Prod.snd) fun xs=>xs.length<=am/\K none (G.set k (.ownL xs))):=fun oa G K s hd I=>by
 rw [exec_Assign_Name _ _ _ _ _ (ch rfl),arm_eval_List,<- he G];simp only [bind_assoc];refine (bSt ((bSt (zC1 (wpAny_mono (eG (Φ:=⟨fx,oa,G⟩) (hq oa G) _ s hd I _) (fun vs s₁ ⟨B,Ef,xs,⟨hz,hx⟩,rs⟩=>?_) fun U U z=>z)))));have C':=I.keep B Ef;refine zC1 (wpAny_newObj_type ?_ (by refine (?_:vs.toArray.size<=sizeLine); exact size_toArray.symm▸rs.length.symm▸cE hz));have gr:=Grown.push s₁ { cls:=.type "list",data:=.seq vs.toArray } s₁.toks;have hD:s₁.heap.get? s₁.heap.objs.size=none:=ak _;refine (bSt (zC1 (wpAny_bindName (r8 (a:=s₁.heap.objs.size) (sl:=.ownL xs) hT C' (B.grown gr) gr.keeps hD ⟨_,Q7 _ rfl⟩ (fun U q=>nomatch q) (fun q=>nomatch q) id (fun h' kp=>?_) (fun s' I' t'=>zC2 (.next I' ((Tr.of_keeps Ef).trans t') hx)) _))));have nb:¬ (Ct.mk fx oa G).own s₁.heap.objs.size:=fun q=>C'.fresh (.inr q);refine ⟨rfl,_,_,_,kp _ _ (Q7 _ rfl) nb,⟨rfl,rfl⟩,rfl,?_⟩;refine rs.map fun b o e U n=>⟨fun q=>?_,kp b o (az _ _ b o e) fun q=>n (.inr q)⟩;rcases q with q | q
 ·exact n (.inl q)
 ·exact (put_own q).elim (fun q=>by (injection q with q; subst q); exact ay hD e) fun q=>n (.inr q)
end
section
variable {fx:Fx}
def iW (h:nF value=true):swappedStores [.Tuple es kk p] value env=pure none/\∀ t n,swapsWith value t n env=pure false:=by
 refine ⟨?_,fun t n=>ch (zA2 h).1⟩;cases value <;> first | rfl | exact nB h
def qR [Hm fx] {d:Gs->DV} (hs:nF value=true) (hT:TgtsOk fx.ρ fx.env es ks) (h:∀ oa G,Ev ⟨fx,oa,G⟩ (eval value fx.env) (d G)) :
  ExB fx (exec (.Assign [.Tuple es kk p] value Eo) fx.env) (fun G K=>d G fun x=>okK (aO ks G x) (K none)):=fun oa G K s hd I=>
 Assign_Tuple (wpAny_mono (h oa G _ s hd I _) (fun v s₁ ⟨B,Ef,x,hx,r⟩=>ah hx fun G' e kG=>wpAny_mono (BK (Φ:=⟨fx,oa,G⟩) hT (I.keep B Ef) e r _) (fun U Ee q=>.next q.1 ((Tr.of_keeps Ef).trans q.2.1) kG) fun U U z=>z) fun U U z=>z) ((iW (es:=es) (kk:=kk) (p:=p) hs).2 _ _:swapsWith value (some (.Tuple es kk p)) Eo.line fx.env=pure false) (iW hs).1
def dW (I:Inv Φ s) (e:getSlot Φ.G k=sl) (h:∀ {g bad h oak v},d4 g bad h oak v sl->∃ a u,oak=some a/\v=some u/\gE g bad h a u sl):∃ a u,Φ.oa k=some a/\bf s.heap (Φ.fx.pl k) (some u)/\gE Φ.fx.g Φ.bad s.heap a u sl:=by
 obtain ⟨v,pr,so⟩:=I.slot k;rw [e] at so;obtain ⟨a,u,ha,rfl,ow⟩:=h so;exact ⟨a,u,ha,pr,ow⟩
theorem Inv.frz (I:Inv Φ s) (ha:Φ.oa k=some a) (pr:bf s.heap (Φ.fx.pl k) (some u)) (cv:∀ EC,¬ EC a->cR Φ.bad EC s.heap s.heap->Rp Φ.fx.g EC s.heap u x):Inv (Φ.put k none (.v x)) s/\Tr Φ s (Φ.put k none (.v x)) s:=by
 have GW:k < Φ.G.length:=by
  rw [I.gl];refine Q0 (lt_of_not_le fun q=>?_) I.ok.nfs;rw [I.ok.offs k q] at pr; (injection pr; done)
 have sub:∀ b,(Φ.put k none (.v x)).own b->Φ.own b:=fun b q=>(put_own q).elim (fun (q:none=some b)=>nN q.symm) id;have mk:cR Φ.bad (Φ.put k none (.v x)).bad s.heap s.heap:=fun b o e U n=>⟨fun q=>n (q.imp id (sub b)),e⟩;have na:¬ (Φ.put k none (.v x)).bad a:=fun q=>by
  rcases q with q | q | ⟨j,q⟩
  ·exact (I.new a (.inr ⟨k,ha⟩)).2.2 q
  ·exact q.elim fun j q=>I.off k a ha j q
  ·have q:(if j=k then none else Φ.oa j)=some a:=q;by_cases e:j=k
   ·rw [if_pos e] at q; (injection q; done)
   ·rw [if_neg e] at q; exact e (I.inj j k a q ha)
 refine ⟨⟨I.ok,I.base,fun j=>?_,fun b q=>I.new b (sub b q),fun i j b e1 e2=>?_,fun j b e i=>?_,?_,I.mo,I.fr⟩,⟨rfl,fun b o e U=>.of e,fun U l=>l,fun b U q=>sub b q,jX GW fun q=>q.elim⟩⟩
 ·by_cases e:j=k
  ·subst e;have e1:(Φ.put j none (.v x)).oa j=none:=if_pos rfl;have e2:getSlot (Φ.put j none (.v x)).G j=.v x:=bV GW;rw [e1,e2];exact ⟨_,pr,rfl,_,rfl,cv _ na mk⟩
  ·obtain ⟨v,r,so⟩:=I.slot j;have e1:(Φ.put k none (.v x)).oa j=Φ.oa j:=if_neg e;have e2:getSlot (Φ.put k none (.v x)).G j=getSlot Φ.G j:=cI e;rw [e1,e2];exact ⟨v,r,so.map mk fun U U U e U=>e⟩
 ·have c1:(if i=k then none else Φ.oa i)=some b:=e1;have c2:(if j=k then none else Φ.oa j)=some b:=e2;by_cases h1:i=k
  ·rw [if_pos h1] at c1; (injection c1; done)
  ·by_cases h2:j=k
   ·rw [if_pos h2] at c2; (injection c2; done)
   ·rw [if_neg h1] at c1; rw [if_neg h2] at c2; exact I.inj i j b c1 c2
 ·have c:(if j=k then none else Φ.oa j)=some b:=e;by_cases h1:j=k
  ·rw [if_pos h1] at c; (injection c; done)
  ·rw [if_neg h1] at c; exact I.off j b c i
 ·refine (?_:(Φ.G.set k _).length=_);rw [length_set]; exact I.gl
theorem Inv.freeze (I:Inv Φ s) (e:getSlot Φ.G k=.ownL l):Inv (Φ.put k none (.v (.list l))) s/\Tr Φ s (Φ.put k none (.v (.list l))) s:=by
 obtain ⟨a,u,ha,pr,rfl,o,vs,n,ho,hc,hd,hl⟩:=dW I e id;exact I.frz ha pr fun b na mk=>.list na ho hc hd (hl.map mk)
theorem Inv.freezeD (I:Inv Φ s) (e:getSlot Φ.G k=.ownD l):Inv (Φ.put k none (.v (.dict l))) s/\Tr Φ s (Φ.put k none (.v (.dict l))) s:=by
 obtain ⟨a,u,ha,pr,rfl,o,es,n,ho,hc,hd,hk,r1,r2⟩:=dW I e id;exact I.frz ha pr fun b na mk=>.dict na (fun q=>I.ok.gr.sysm.elim fun o z=>ay (I.new a (.inr ⟨k,ha⟩)).2.1 (q▸z)) ho hc hd hk rfl rfl (r1.map mk) (r2.map mk)
def lA (e:jg G k=some l):getSlot G k=.ownD l:=by
 unfold jg at e
 revert e
 cases getSlot G k with
 | ownD m=>exact fun e=>congrArg Slot.ownD (Option.some.inj e)
 | _=>exact fun e=>nN e.symm
def qQ (h:ExB fx t Y):ExB fx t (fun G K=>okK (jg G k) fun l=>Y (G.set k (.v (.dict l))) K):=fun oa G K s hd I=>ah hd fun l e hk=>by
 have q:=Inv.freezeD (Φ:=⟨fx,oa,G⟩) I (lA e);exact wpAny_mono (h _ _ K s hk q.1) (fun U U p=>p.lift (Φ:=⟨fx,oa,G⟩) q.2) fun U U p=>p.lift (Φ:=⟨fx,oa,G⟩) q.2
def t7 (h:ExB fx t Y):ExB fx t (fun G K=>okK (bz G k) fun l=>Y (G.set k (.v (.list l))) K):=fun oa G K s hd I=>ah hd fun l e hk=>by
 have q:=Inv.freeze (Φ:=⟨fx,oa,G⟩) I (bY e);exact wpAny_mono (h _ _ K s hk q.1) (fun U U p=>p.lift (Φ:=⟨fx,oa,G⟩) q.2) fun U U p=>p.lift (Φ:=⟨fx,oa,G⟩) q.2
theorem Inv.quiet (I:Inv Φ s):interactive Φ.fx.env=false:=by unfold interactive; rw [I.ok.kind]; rfl
def yK {qs:Gs->List (Expr×DV)} (J9:∀ G,(qs G).map Prod.fst=es) (hx:br fx.env.scope.names n=true) (hf:fx.g.fns.lookup n=some f) (Fw:keepIn fx.g.K (.ref (fx.g.fn f))=true) (Fe:fx.hm=true->fx.g.safe f=true)
  (hq:∀ oa G,∀ q∈qs G,aq q.1=true/\bj ⟨fx,oa,G⟩ q):ExB fx (exec (.Expr (.Call (.Name n fp) es [] cpos) pos) fx.env) (fun G K=>bv ((qs G).map Prod.snd) fun xs=>ao fx.g.P fx.d f xs fun y=>if noX y=true then isNone y=true/\K none G else K (some y) G):=fun oa G K s hd I=>by
 rw [<- J9 G];refine wpAny_Expr (mX (Φ:=⟨fx,oa,G⟩) hx hf Fw Fe (hq oa G) hd I (fun v s' y I' k hy nx r U=>?_) fun s' c e I' k hc hy x=>⟨oa,G,c,e,rfl,hc,I',.of_keeps k,x,hy⟩) I.quiet rfl;rw [if_pos nx] at hy;cases y with
 | none=>exact r.none_elim (.next (Φ:=⟨fx,oa,G⟩) I' (.of_keeps k) hy.2)
 | _=>(injection hy.1; done)
def cW (o:Obj) (f:Array Value->Array Value):(o.mapSeq f).dict=o.dict:=by
 obtain ⟨c,d,dt,sl⟩:=o; cases dt <;> rfl
def ui {E:Value->Shared->Prop} {Q:Value->Shared->Prop} (ho:s.heap.get? l=some o) (hc:o.cls=.type "list"/\o.dict=none) (hd:o.data=.seq items n) (hsz:items.size<=sizeLine)
  (hQ:∀ h' o' n',h'.get? l=some o'->o'.cls=.type "list"/\o'.dict=none->o'.data=.seq (items.push x) n'->SameBut l s.heap h'->Q .none { s with heap:=h' }):wpAny (model prog w) A (call (.builtin "list.append") [.ref l,x]) Q E s:=by
 obtain ⟨n',EN⟩:=data_mapSeq hd (·.push x);refine wpAny_call_entry slot_list_append ⟨o,ho,hc.1⟩ entry_list_append ?_ (args_list_append _ _);refine (?_:wpAny _ _ (updateSeq l (·.push x) >>= fun U=>ret .none) _ _ s);exact zC1 (wpAny_updateSeq ho hd (zC2 ⟨.none,rfl,hQ _ _ n' (get?_update_self _ ho (isFreed_of_seq EN)) ⟨(cls_mapSeq ..).trans hc.1,(cW ..).trans hc.2⟩ EN (SameBut.update ..)⟩))
def t9 {d:Gs->DV} (hx:fx.ρ.lookup n=some k) (hn:aV n=true) (hp:aq e=true) (Es:(Ew.endLine==pos.line)=true) (h:∀ oa G,Ev ⟨fx,oa,G⟩ (eval e fx.env) (d G)) :
  ExB fx (exec (.Expr (.Call (.Attribute (.Name n np) "append" Ew) [e] [] pos) Eo) fx.env) (fun G K=>okK (bz G k) fun l=>d G fun x=>l.length < am/\K none (G.set k (.ownL (l++[x])))):=fun oa G K s hd I=>ah hd fun l el hd=>by
 refine wpAny_Expr ?_ I.quiet rfl;obtain ⟨a,u,ha,pr,rfl,o,vs,m,ho,hc,EN,hl⟩:=dW I (bY el) id;refine wpAny_Call_method (T:="list") (id:="list.append") (bN rfl) ?_ Es PySem.F.plainAttrs_list slot_list_append type_list_append (bO (Φ:=⟨fx,oa,G⟩) I.ok hx hn pr ⟨⟨o,ho,hc.1⟩,fun a q=>by cases q; exact ⟨o,ho,hc.2⟩,?_⟩ _)
 ·rw [aJ hp]; rfl
 refine callWith_builtin (by rw [aJ hp]; rfl) ?_;refine cM (Φ:=⟨fx,oa,G⟩) (qs:=[(e,d G)]) (K:=fun xs=>okK (one xs some) fun x=>l.length < am/\K none (G.set k (.ownL (l++[x])))) (fun q m=>by cases zA6 m; exact ⟨hp,h oa G⟩) hd I fun ws xs s₁ C' Ef hx rs=>ah hx fun x e hk=>?_;refine cP (Φ:=⟨fx,oa,G⟩) (C:=fun ws=>wpAny _ _ (call (.builtin "list.append") ([.ref a]++ws) []) _ _ s₁) e rs fun w y r e=>?_;cases e
 refine ui (Ef.get ho (aG hc.1)) hc EN (cE (by rw [aQ (Φ:=⟨fx,oa,G⟩) hl]; exact le_of_lt hk.1)) fun h' o' n' ED ER GG hs=>?_;have mk:cR (Ct.mk fx oa G).bad (Ct.mk fx oa G).bad s₁.heap h':=fun b o e U nb=>⟨nb,hs.extBut b o (fun q=>nb (.inr (.inr ⟨k,q▸ha⟩))) e⟩;have q:=Inv.mutate (Φ:=⟨fx,oa,G⟩) (sl:=.ownL (l++[x])) (tk:=s₁.toks) C' ha (pr.keep Ef) ⟨o,Ef.get ho (aG hc.1),aG hc.1⟩ hs ⟨_,ED⟩ ⟨rfl,o',_,n',ED,ER,GG,by rw [toList_push]; exact ((hl.keep Ef).map mk).append (.cons (r.map mk) .nil)⟩ (fun U q=>nomatch q) (fun q=>nomatch q) fun q=>q.elim;exact .next (Φ:=⟨fx,oa,G⟩) q.1 ((Tr.of_keeps Ef).trans q.2) hk.2
def tY {E:Value->Shared->Prop} {Q:Value->Shared->Prop} (ho:s.heap.get? l=some o) (hc:o.cls=.type "list"/\o.dict=none) (hd:o.data=.seq items n) (hb:s.heap.get? b=some o2) (G6:o2.cls=.type "list") (EP:o2.data=.seq items2 n2) (hsz:items.size+items2.size<=sizeLine)
  (hQ:∀ h' o' n',h'.get? l=some o'->(o'.cls=.type "list"/\o'.dict=none)->o'.data=.seq (items++items2) n'->SameBut l s.heap h'->Q .none { s with heap:=h' }):wpAny (model prog w) A (call (.builtin "list.extend") [.ref l,.ref b]) Q E s:=by
 obtain ⟨n',EN⟩:=data_mapSeq hd (·++items2);refine wpAny_call_entry PySem.F.slot_list_extend ⟨o,ho,hc.1⟩ PySem.F.entry_list_extend ?_ (PySem.F.args_list_extend_2 _ _);refine (?_:wpAny _ _ (Builtin.List.listExtendWith (.ref l) (.ref b) .none) _ _ s);unfold Builtin.List.listExtendWith;refine zC1 (wpAny_typeOf (⟨o2,hb,G6⟩:s.TypeIs (.ref b) "list") ?_);rw [if_pos (by simp)];refine zC1 (listItems_at hb EP (zC1 (listItems_at ho hd ?_)));refine bu (extend_door hsz) ?_;refine zC1 (listUpdate_at ho hd ?_ (zB1 (Q3 _ _) hsz) (hsz2:=by rw [size_append]; exact le_succ_of_le hsz));exact (bPu (zC2 ⟨.none,rfl,hQ _ _ n' (get?_update_self _ ho (isFreed_of_seq EN)) ⟨(cls_mapSeq ..).trans hc.1,(cW ..).trans hc.2⟩ EN (SameBut.update ..)⟩))
def t8 {d:Gs->DV} (hx:fx.ρ.lookup n=some k) (hn:aV n=true) (hp:aq e=true) (Es:(Ew.endLine==pos.line)=true) (h:∀ oa G,Ev ⟨fx,oa,G⟩ (eval e fx.env) (d G)) :
  ExB fx (exec (.Expr (.Call (.Attribute (.Name n np) "extend" Ew) [e] [] pos) Eo) fx.env) (fun G K=>okK (bz G k) fun l=>d G fun x=>okK (dY x some) fun m=>l.length+m.length<=am/\K none (G.set k (.ownL (l++m)))):=fun oa G K s hd I=>ah hd fun l el hd=>by
 refine wpAny_Expr ?_ I.quiet rfl;obtain ⟨a,u,ha,pr,rfl,o,vs,m,ho,hc,EN,hl⟩:=dW I (bY el) id;refine wpAny_Call_method (T:="list") (id:="list.extend") (bN rfl) ?_ Es PySem.F.plainAttrs_list PySem.F.slot_list_extend PySem.F.type_list_extend (bO (Φ:=⟨fx,oa,G⟩) I.ok hx hn pr ⟨⟨o,ho,hc.1⟩,fun a q=>by cases q; exact ⟨o,ho,hc.2⟩,?_⟩ _)
 ·rw [aJ hp]; rfl
 refine callWith_builtin (by rw [aJ hp]; rfl) ?_;refine cM (Φ:=⟨fx,oa,G⟩) (qs:=[(e,d G)]) (K:=fun xs=>okK (one xs some) fun x=>okK (dY x some) fun m=>l.length+m.length<=am/\K none (G.set k (.ownL (l++m)))) (fun q m=>by cases zA6 m; exact ⟨hp,h oa G⟩) hd I fun ws xs s₁ C' Ef hx rs=>ah hx fun x e hk=>?_;refine cP (Φ:=⟨fx,oa,G⟩) (C:=fun ws=>wpAny _ _ (call (.builtin "list.extend") ([.ref a]++ws) []) _ _ s₁) e rs fun w y r e=>?_;cases e
 refine ah hk fun q e hk=>?_;refine bL (C:=fun x=>(Ct.mk fx oa G).rp s₁.heap w x->wpAny _ _ (call (.builtin "list.extend") ([.ref a]++[w]) []) _ _ s₁) e (fun q' e r=>?_) r;cases e
 refine r.list_elim fun b ob vb nb U hb hcb hdb KF=>?_;refine tY (Ef.get ho (aG hc.1)) hc EN hb hcb.1 hdb (cE (by rw [aQ (Φ:=⟨fx,oa,G⟩) hl,aQ (Φ:=⟨fx,oa,G⟩) KF]; exact hk.1)) fun h' o' n' ED ER GG hs=>?_;have mk:cR (Ct.mk fx oa G).bad (Ct.mk fx oa G).bad s₁.heap h':=fun b o e U nb=>⟨nb,hs.extBut b o (fun q=>nb (.inr (.inr ⟨k,q▸ha⟩))) e⟩;have q:=Inv.mutate (Φ:=⟨fx,oa,G⟩) (sl:=.ownL (l++q)) (tk:=s₁.toks) C' ha (pr.keep Ef) ⟨o,Ef.get ho (aG hc.1),aG hc.1⟩ hs ⟨_,ED⟩ ⟨rfl,o',_,n',ED,ER,GG,by rw [toList_append]; exact ((hl.keep Ef).map mk).append (KF.map mk)⟩ (fun U q=>nomatch q) (fun q=>nomatch q) fun q=>q.elim;exact .next (Φ:=⟨fx,oa,G⟩) q.1 ((Tr.of_keeps Ef).trans q.2) hk.2
end
section
variable {prog:Program} {w:World} {A:Around} {R:Result->Shared->Prop} {s:Shared}
def lY (I:Nat->Shared->Prop)
  (turn:∀ n s,I n s->wpAny (model prog w) A (pyNext it) (fun r s₁=>match r with
   | none=>R (.ok .next) s₁
   | some v=>wpAny (model prog w) A (letOwnedTupleGo target it v) (fun U Hi=>wpAny (model prog w) A (assign target env v) (fun U Ee=>
     wpAny (model prog w) A (forIn ifs true fun c r=>if r=true then do let ok <- isTrue c env (eval c env); pure (ForInStep.yield ok) else pure (ForInStep.yield r)) (fun ok EO=>
      if ok=true then wpAny (model prog w) A (eval EI env) (fun x ET=>
       wpAny (model prog w) A (call (.builtin "list.append") [EJ,x]) (fun U ES=>∃ m,m < n/\I m ES) (notedBy (model prog w) A env fun e s'=>R (.error e) s') ET) (notedBy (model prog w) A env fun e s'=>R (.error e) s') EO
      else ∃ m,m < n/\I m EO) (notedBy (model prog w) A env fun e s'=>R (.error e) s') Ee) (notedBy (model prog w) A env fun e s'=>R (.error e) s') Hi) (notedBy (model prog w) A env fun e s'=>R (.error e) s') s₁) (notedBy (model prog w) A env fun e s'=>R (.error e) s') s)
  (n:Nat) (h:I n s):codeAny (model prog w) A (.compLoop (.ListComp EI [⟨target,iter,ifs,0⟩] scope pos) 0 it EJ env) R s:=by
 refine codeAny_loop rfl I (fun n s hI=>?_) n h
 (refine (?_:wpAny _ A ((compTurn (.ListComp EI [⟨target,iter,ifs,0⟩] scope pos) 0 it EJ env).onRaise (fun x=>do noteFrame x env; theTreesLotGoes x)) _ _ s))
 refine wpAny_noted ?_;rw [compTurn_list];refine (bSt (zC1 (wpAny_mono (turn n s hI) (fun r s₁ Ej=>?_) fun U U h'=>h')));cases r with
 | none=>exact wpAny_pure Ej
 | some v=>
  refine zC1 (wpAny_mono Ej (fun U Hi Jo=>?_) fun U U h'=>h');refine zC1 (wpAny_mono Jo (fun U Ee Ez=>zC1 (wpAny_mono Ez (fun ok EO Em=>?_) fun U U h'=>h')) fun U U h'=>h');cases ok with
  | false=>exact zC2 ⟨rfl,Em⟩
  | true=>
   exact zC1 (zC1 (wpAny_mono Em (fun x ET FT=>zC1 (wpAny_mono FT (fun U ES Fa=>zC2 (zC2 ⟨rfl,Fa⟩)) fun U U h'=>h')) fun U U h'=>h'))
end
noncomputable def dU (ifs:List Expr) (env:Env):Sem Bool:=forIn ifs true fun c r=>if r=true then do let ok <- isTrue c env (eval c env); pure (ForInStep.yield ok) else pure (ForInStep.yield r)
theorem hW (env:Env):∀ ifs:List Expr,(forIn ifs false fun c r=>if r=true then do let ok <- isTrue c env (eval c env); pure (ForInStep.yield ok) else pure (ForInStep.yield r):Sem Bool)=pure false
 | []=>rfl
 | c :: r=>by
  rw [forIn_cons];simp only [false_eq_true,if_false,pure_bind];exact hW env r
def cX (hk:env.scope.kind=.function):(relabel scope env).names=ip env.scope.names scope.names:=by
 unfold relabel ip;simp only [hk];apply List.map_congr_left
 rintro ⟨n,k⟩ _;have:(ScopeKind.function==ScopeKind.function)=true:=by decide
 simp only [this,Bool.and_true];rfl
theorem relab_lookup (sc:List (Str×NameKind)):∀ (names:List (Str×NameKind)) (x:Str),(ip sc names).lookup x=(names.lookup x).map fun k=>if k==.free&&sc.lookup x==some .cell then .cell else k
 | [],x=>rfl
 | (n,k) :: r,x=>by
  have ih:=relab_lookup sc r x;have e:ip sc ((n,k) :: r)=(n,if k==.free&&sc.lookup n==some .cell then .cell else k) :: ip sc r:=by
   unfold ip;rw [map_cons]
   congr 1
   show (if _ then (n,NameKind.cell) else (n,k))=_
   split <;> rfl
  rw [e,lookup_cons,lookup_cons];cases hx:x==n with
  | true=>have:=beq_iff_eq.mp hx; subst this; rfl
  | false=>exact ih
noncomputable def clOf (cells:List (Str×Addr)):List (Str×NameKind)->List (Str×Addr)->List (Str×Addr)
 | [],EJ=>EJ
 | (n,k) :: r,EJ=>clOf cells r (if k==.free then (n,(cells.lookup n).getD 0) :: EJ else EJ)
def nP (cells:List (Str×Addr)) (names:List (Str×NameKind)):Prop:=∀ n,(n,NameKind.free)∈names->∃ c,cells.lookup n=some c
def jJ (h:nP env.cells scope.names):closureFor scope env=pure (clOf env.cells scope.names []):=by
 unfold closureFor
 suffices ∀ (names:List (Str×NameKind)) (EJ:List (Str×Addr)),nP env.cells names->(do
   let r <- forIn names EJ fun x r=>match x with
    | (name,kind)=>if (kind==NameKind.free)=true then do let c <- cellOf env name; pure (ForInStep.yield ((name,c) :: r)) else pure (ForInStep.yield r)
   pure r:Sem (List (Str×Addr)))=pure (clOf env.cells names EJ) by
  simpa using this scope.names [] h
 intro names;induction names with
 | nil=>intro EJ _; rfl
 | cons p r ih=>
  obtain ⟨n,k⟩:=p;intro EJ hf;rw [forIn_cons];have hr:nP env.cells r:=fun m q=>hf m (.tail _ q);by_cases hk:k=.free
  ·subst hk;obtain ⟨c,hc⟩:=hf n (.head _);have e1:cellOf env n=pure c:=by unfold cellOf; rw [hc]
   have:=ih ((n,c) :: EJ) hr;simp only [beq_self_eq_true,if_true,e1,pure_bind,clOf,hc,getD_some] at this ⊢;exact this
  ·have hb:(k==NameKind.free)=false:=by simpa using hk
   have:=ih EJ hr;simp only [hb,false_eq_true,if_false,pure_bind,clOf] at this ⊢;exact this
theorem gB (cells:List (Str×Addr)):∀ (names:List (Str×NameKind)) (EJ:List (Str×Addr)) (x:Str) (c:Addr),cells.lookup x=some c->((x,NameKind.free)∈names\/EJ.lookup x=some c)->(∀ d,EJ.lookup x=some d->d=c)->(clOf cells names EJ).lookup x=some c
 | [],EJ,x,c,_,h,_=>by rcases h with h | h; cases h; exact h
 | (n,k) :: r,EJ,x,c,hc,h,ha=>by
  unfold clOf;by_cases hk:k=.free
  ·subst hk;simp only [beq_self_eq_true,if_true];by_cases hx:x=n
   ·subst hx;refine gB cells r _ x c hc (.inr ?_) fun d hd=>?_
    ·simp [hc]
    ·simp only [lookup_cons,beq_self_eq_true,hc,getD_some,Option.some.injEq] at hd; exact hd.symm
   ·have hb:(x==n)=false:=by simpa using hx
    refine gB cells r _ x c hc ?_ fun d hd=>?_
    ·rcases h with h | h
     ·rcases mem_cons.mp h with q | q
      ·(injection q with q; subst q); exact absurd rfl hx
      ·exact .inl q
     ·exact .inr (by rw [lookup_cons,hb]; exact h)
    ·rw [lookup_cons,hb] at hd; exact ha d hd
  ·have hb:(k==NameKind.free)=false:=by simpa using hk
   simp only [hb,false_eq_true,if_false];refine gB cells r EJ x c hc ?_ ha;rcases h with h | h
   ·rcases mem_cons.mp h with q | q
    ·cases q; exact absurd rfl hk
    ·exact .inl q
   ·exact .inr h
theorem jm:∀ {l:List (Str×α)} {n:Str} {c:α},l.lookup n=some c->(n,c)∈l
 | (k,v) :: r,n,c,h=>by
  rw [lookup_cons] at h;cases hb:n==k with
  | true=>replace h:=hb▸h; (injection h with h; subst h); rw [beq_iff_eq.mp hb]; exact .head _
  | false=>rw [hb] at h; exact .tail _ (jm h)
theorem c7 {p:Str->Bool}:∀ {l:List (Str×Nat)} {x:Str} {k:Nat},(l.filter fun q=>p q.1).lookup x=some k->p x=true/\l.lookup x=some k
 | [],_,_,h=>by simp at h
 | (n,v) :: r,x,k,h=>by
  replace h:=List.filter_cons▸h;split at h
  ·rename_i hp;rw [lookup_cons] at h ⊢;cases hx:x==n with
   | true=>replace h:=hx▸h; (injection h with h; subst h); have:=beq_iff_eq.mp hx; subst this; exact ⟨hp,rfl⟩
   | false=>rw [hx] at h; exact c7 h
  ·rename_i hp;obtain ⟨h1,h2⟩:=c7 h;refine ⟨h1,?_⟩;rw [lookup_cons];cases hx:x==n with
   | true=>have:=beq_iff_eq.mp hx; subst this; exact absurd h1 (by exact hp)
   | false=>exact h2
theorem oH:∀ {qs:List (Expr×DV)},(∀ q∈qs,EvT Φ (isTrue q.1 Φ.fx.env (eval q.1 Φ.fx.env)) (tst q.2))->EvT Φ (dU (qs.map Prod.fst) Φ.fx.env) (pP true (qs.map Prod.snd))
 | [],_=>fun K s hd I=>EvR.pure (a:=true) I hd rfl
 | q :: r,h=>fun K s hd I=>by
  have e:dU ((q :: r).map Prod.fst) Φ.fx.env=(isTrue q.1 Φ.fx.env (eval q.1 Φ.fx.env) >>= fun ok=>if ok then dU (r.map Prod.fst) Φ.fx.env else pure false):=by
   unfold dU;rw [map_cons,forIn_cons];simp only [if_true,bind_assoc,pure_bind]
   congr 1
   funext ok
   cases ok
   ·exact hW _ _
   ·rfl
  rw [e];refine (h q (.head _)).bind (K₁:=fun c=>if c=true then pP true (r.map Prod.snd) K else K c) hd I fun t c s₁ C' Ef hk e=>?_;subst e;cases t
  ·exact EvR.pure C' hk rfl
  ·exact oH (fun x m=>h x (.tail _ m)) K s₁ hk C'
noncomputable def cpl (fx:Fx) (C:Addr) (x x':Str) (k:Nat):Pl:=if k=fx.nf then .ns C x else if k=fx.nf+1 then (if x'=x then .off else .ns C x') else fx.pl k
noncomputable def aF (fx:Fx) (scope:Scope) (C:Addr) (x x':Str) (X:Addr->Prop):Fx:=
 { fx with env:=compEnvC scope (clOf fx.env.cells scope.names []) C fx.env,ρ:=(x,fx.nf) :: (x',fx.nf+1) :: fx.ρ.filter (fun p=>scope.names.lookup p.1==some .free),nf:=fx.nf+2,Mo:=fun b=>fx.Mo b\/X b,pl:=cpl fx C x x' }
structure CompOk (fx:Fx) (scope:Scope) (x x':Str):Prop where
 kind:scope.kind=.function
 loc:scope.names.lookup x=some .local
 loc':scope.names.lookup x'=some .local
 nocell:∀ y∈scope.names,y.2≠.cell
 names:∀ y∈scope.names,y.2=.local->scope.names.lookup y.1=some .local
 free:∀ n,(n,NameKind.free)∈scope.names->fx.env.kindOf n=some .cell\/fx.env.kindOf n=some .free
 cells:nP fx.env.cells scope.names
 room:fx.nf+2<=fx.ns
section
variable {Φ:Ct} {s s₀ Ee:Shared} {X:Addr->Prop} {scope:Scope} {x x':Str} {C:Addr}
def cpl_c (fx:Fx) (C:Addr) (x x':Str) (k:Nat):(k=fx.nf/\cpl fx C x x' k=.ns C x)\/(k=fx.nf+1/\x'≠x/\cpl fx C x x' k=.ns C x')\/(k=fx.nf+1/\cpl fx C x x' k=.off)\/cpl fx C x x' k=fx.pl k:=by
 unfold cpl;by_cases h:k=fx.nf
 ·exact .inl ⟨h,if_pos h⟩
 ·rw [if_neg h];by_cases h':k=fx.nf+1
  ·rw [if_pos h'];by_cases e:x'=x
   ·exact .inr (.inr (.inl ⟨h',if_pos e⟩))
   ·exact .inr (.inl ⟨h',e,if_neg e⟩)
  ·exact .inr (.inr (.inr (if_neg h')))
def sZ (ho:∀ k,fx.nf<=k->fx.pl k=.off) (h:fx.pl k≠.off):cpl fx C x x' k=fx.pl k:=by
 have:k < fx.nf:=lt_of_not_le fun q=>h (ho k q);unfold cpl;rw [if_neg (ne_of_lt this),if_neg (ne_of_lt (Nat.lt_succ_of_lt this))]
def compFx_addr (h:((aF fx scope C x x' X).pl k).addr=some a):a=C\/(fx.pl k).addr=some a:=by
 have h:(cpl fx C x x' k).addr=some a:=h;rcases cpl_c fx C x x' k with ⟨_,e⟩ | ⟨_,_,e⟩ | ⟨_,e⟩ | e <;> replace h:=e▸h
 ·(injection h with h; subst h); exact .inl rfl
 ·(injection h with h; subst h); exact .inl rfl
 ·(injection h; done)
 ·exact .inr h
theorem CompOk.toFx (c:CompOk fx scope x x') (ok:FxOk fx) (hC:∀ j,(fx.pl j).addr≠some C) (hX0:∀ b,X b->fx.g.h0.get? b=none):FxOk (aF fx scope C x x' X) where
 gr:=ok.gr
 hand:=ok.hand
 kind:=c.kind
 globals:=ok.globals
 builtins:=ok.builtins
 vis:=fun y k hy=>by
  have kn:∀ y,(aF fx scope C x x' X).env.kindOf y=(ip fx.env.scope.names scope.names).lookup y:=fun y=>by
   refine (?_:(relabel scope fx.env).names.lookup y=_);rw [cX ok.kind]
  have hy:((x,fx.nf) :: (x',fx.nf+1) :: fx.ρ.filter (fun p=>scope.names.lookup p.1==some .free)).lookup y=some k:=hy;rw [lookup_cons] at hy;cases hb:y==x with
  | true=>
   replace hy:=hb▸hy; (injection hy with hy; subst hy);cases eq_of_beq hb
   exact .inl ⟨by rw [kn,relab_lookup,c.loc]; rfl,if_pos rfl⟩
  | false=>
   rw [hb] at hy;replace hy:((x',fx.nf+1) :: fx.ρ.filter (fun p=>scope.names.lookup p.1==some .free)).lookup y=some k:=hy;rw [lookup_cons] at hy;cases Gc:y==x' with
   | true=>
    replace hy:=Gc▸hy; (injection hy with hy; subst hy);cases eq_of_beq Gc
    refine .inl ⟨by rw [kn,relab_lookup,c.loc']; rfl,?_⟩;refine (?_:cpl fx C x x' (fx.nf+1)=.ns C x');unfold cpl;rw [if_neg (succ_ne_self _),if_pos rfl,if_neg fun q=>by rw [q,beq_self_eq_true] at hb; (injection hb; done)]
   | false=>
    rw [Gc] at hy;obtain ⟨hf,hk⟩:=c7 (p:=fun y=>scope.names.lookup y==some .free) hy;have hf:=eq_of_beq hf;have hm:=jm hf;right
    refine ⟨?_,?_⟩
    ·rw [kn,relab_lookup,hf];simp only [map_some,beq_self_eq_true,Bool.true_and];split
     ·exact .inl rfl
     ·exact .inr rfl
    ·obtain ⟨cc,hcc⟩:=c.cells y hm;refine ⟨cc,gB _ _ _ _ _ hcc (.inl hm) (fun d hd=>by (injection hd; done)),?_⟩;rcases ok.vis y k hk with ⟨q,_⟩ | ⟨_,c',ER,hp⟩
     ·rcases c.free y hm with q' | q' <;> rw [q] at q' <;> cases q'
     ·replace ER:=hcc▸ER; (injection ER with ER; subst ER);exact (sZ ok.offs (by exact hp.symm▸nofun)).trans hp
 inj:=fun k j e EA=>by
  have e:cpl fx C x x' k=cpl fx C x x' j:=e;have EA:cpl fx C x x' k≠.off:=EA;have no:∀ j y,Pl.ns C y≠fx.pl j:=fun j y q=>hC j (by rw [<- q]; rfl);rcases cpl_c fx C x x' k with ⟨h1,e1⟩ | ⟨h1,n1,e1⟩ | ⟨_,e1⟩ | e1 <;> rcases cpl_c fx C x x' j with ⟨h2,e2⟩ | ⟨h2,n2,e2⟩ | ⟨_,e2⟩ | e2 <;>
   first | exact h1.trans h2.symm | exact absurd e1 EA | exact absurd (e.trans e2) EA | (replace e:=e2▸e1▸e; first | (cases e; exact absurd rfl n1) | (cases e; exact absurd rfl n2) | exact absurd e (no _ _) | exact absurd e.symm (no _ _) | exact ok.inj k j e (e1▸EA))
 apart:=fun k j a y cc e1 e2=>by
  have e1:cpl fx C x x' k=.ns a y:=e1;have e2:cpl fx C x x' j=.cell cc:=e2;have e2:fx.pl j=.cell cc:=by
   rcases cpl_c fx C x x' j with ⟨_,q⟩ | ⟨_,_,q⟩ | ⟨_,q⟩ | q
   ·exact nomatch q.symm.trans e2
   ·exact nomatch q.symm.trans e2
   ·exact nomatch q.symm.trans e2
   ·exact q.symm.trans e2
  have HS:a=C->a≠cc:=fun z q=>hC j (by rw [e2,<- z,q]; rfl);rcases cpl_c fx C x x' k with ⟨_,q⟩ | ⟨_,_,q⟩ | ⟨_,q⟩ | q <;> replace e1:=q▸e1
  ·(injection e1 with e1; subst e1); exact HS rfl
  ·(injection e1 with e1; subst e1); exact HS rfl
  ·(injection e1; done)
  ·exact ok.apart k j a y cc e1 e2
 offs:=fun k hk=>by
  have hk:fx.nf+2<=k:=hk;have a:k≠fx.nf:=ne_of_gt (Q0 (Nat.lt_add_of_pos_right (by decide)) hk);have b:k≠fx.nf+1:=ne_of_gt hk;exact (if_neg a).trans ((if_neg b).trans (ok.offs k (zB1 (Q3 _ _) hk)))
 nfs:=c.room
 room:=ok.room
 units:=ok.units
 call:=ok.call
 mo0:=fun a q=>q.elim (ok.mo0 a) (hX0 a)
def comp_own (q:(Ct.mk (aF Φ.fx scope C x x' X) oa G).own a) (h:oa=Φ.oa):a=C\/Φ.own a:=by
 subst h;rcases q with ⟨j,q⟩ | q
 ·exact (compFx_addr q).imp id fun q=>.inl ⟨j,q⟩
 ·exact .inr (.inr q)
def vh (I:Inv Φ s) (q:Φ.own a):(Ct.mk (aF Φ.fx scope C x x' X) Φ.oa Φ.G).own a:=by
 rcases q with ⟨j,q⟩ | q
 ·exact .inl ⟨j,by refine (?_:(cpl Φ.fx C x x' j).addr=some a); rw [sZ I.ok.offs fun e=>by replace q:=e▸q; (injection q; done)]; exact q⟩
 ·exact .inr q
theorem Inv.comp (c:CompOk Φ.fx scope x x') (I:Inv Φ s₀) (B:Base Φ.fx.g s) (k:aI s₀.heap s.heap) (hX:∀ b,X b->s₀.heap.get? b=none/\aW s.heap b/\b≠C) (Fk:s₀.heap.get? C=none) (hC:s.heap.Ns C fun U=>none) :
  Inv ⟨aF Φ.fx scope C x x' X,Φ.oa,Φ.G⟩ s/\cR Φ.bad (Ct.mk (aF Φ.fx scope C x x' X) Φ.oa Φ.G).bad s₀.heap s.heap:=by
 have Kf:aW s.heap C:=by obtain ⟨o,_,_,e,_⟩:=hC; exact ⟨o,e⟩
 have hCp:∀ j,(Φ.fx.pl j).addr≠some C:=fun j e=>(I.new C (.inl ⟨j,e⟩)).1.elim fun o e=>ay Fk e;have mk:cR Φ.bad (Ct.mk (aF Φ.fx scope C x x' X) Φ.oa Φ.G).bad s₀.heap s.heap:=fun b o e f n=>by
  refine ⟨fun q=>?_,k.get e f⟩;rcases q with (q | q) | q
  ·exact n (.inl q)
  ·exact ay (hX b q).1 e
  ·exact (comp_own (Φ:=Φ) q rfl).elim (fun q=>ay Fk (q▸e)) fun q=>n (.inr q)
 refine ⟨⟨c.toFx I.ok hCp fun b q=>aR (fun l=>I.base.stays.live l) (hX b q).1,B,fun j=>?_,fun a q=>?_,I.inj,fun j a e i q=>?_,I.gl,fun a q=>q.elim (fun q=>k.live (I.mo a q)) fun q=>(hX a q).2.1,I.fr.keep k⟩,mk⟩
 ·obtain ⟨v,r,so⟩:=I.slot j;have so':=so.map mk fun a U o e f=>k.get e f;refine ⟨v,?_,so'⟩;refine (?_:bf s.heap (cpl Φ.fx C x x' j) v);have vn:Φ.fx.nf<=j->v=none:=fun q=>by rw [I.ok.offs j q] at r; exact r
  rcases cpl_c Φ.fx C x x' j with ⟨h,e⟩ | ⟨h,_,e⟩ | ⟨h,e⟩ | e <;> refine e.symm▸?_
  ·rw [vn (zB2 h.symm)]; exact ⟨_,hC,rfl⟩
  ·rw [vn (h▸le_succ _)]; exact ⟨_,hC,rfl⟩
  ·exact vn (h▸le_succ _)
  ·exact r.keep k
 ·rcases comp_own (Φ:=Φ) q rfl with rfl | q
  ·exact ⟨Kf,aR (fun l=>I.base.stays.live l) Fk,fun z=>z.elim (fun z=>(I.mo a z).elim fun o e=>ay Fk e) fun z=>(hX a z).2.2 rfl⟩
  ·obtain ⟨⟨o,e⟩,n,m⟩:=I.new a q;exact ⟨(k a o e).live,n,fun z=>z.elim m fun z=>ay (hX a z).1 e⟩
 ·rcases compFx_addr q with rfl | q
  ·exact (I.new a (.inr ⟨j,e⟩)).1.elim fun o e=>ay Fk e
  ·exact I.off j a e i q
end
def gf {h h':Heap} {D:Addr} {vs:Array Value} (p:h.PlainList D vs) (k:∀ o,h.get? D=some o->h'.get? D=some o):h'.PlainList D vs:=p.elim fun c e=>⟨c,k _ e⟩
def jZ {h:Heap} {D:Addr} {vs:Array Value} (p:h.PlainList D vs):dN h D:=p.elim fun c e=>⟨_,e,aG rfl⟩
def ja {h:Heap} {D:Addr} {vs:Array Value} (p:h.PlainList D vs):aW h D:=p.elim fun c e=>⟨_,e⟩
def u9 {Φ:Ct} {k:Nat} {sl:Slot} (h:Φ.oa k=none):Φ.put k none sl=⟨Φ.fx,Φ.oa,Φ.G.set k sl⟩:=by
 unfold Ct.put
 congr 1
 funext j
 by_cases e:j=k
 ·rw [if_pos e,e,h]
 ·exact if_neg e
section
variable {Φ:Ct} [Hm Φ.fx] {s s₀ Ee:Shared} {scope:Scope} {x x':Str}
inductive CompEnd (Φ:Ct) (s₀:Shared) (K:List V->Prop) (D C:Addr) (s':Shared):Prop
 | mk:∀ m ys,Base Φ.fx.g s'->aI s₀.heap s'.heap->s₀.heap.get? C=none->s₀.heap.get? D=none->D≠C->s'.heap.Ns C m->K ys->∀ vs,s'.heap.PlainList D vs->RpAll Φ.fx.g (fun b=>Φ.bad b\/b=C) s'.heap vs.toList ys->CompEnd Φ s₀ K D C s'
def nZ (Φ:Ct) (scope:Scope) (T:Expr) (x x':Str) (b:Gs->V->Option Gs):Prop:=(∀ G y El z,b G y=some El->b El z=b G z) /\
 ∀ C X G El v y s,Φ.fx.env.scope.kind=.function->(∀ k,Φ.fx.nf<=k->Φ.oa k=none)->Inv ⟨aF Φ.fx scope C x x' X,Φ.oa,G⟩ s->b G y=some El->(Ct.mk (aF Φ.fx scope C x x' X) Φ.oa G).rp s.heap v y ->
  (Ct.mk (aF Φ.fx scope C x x' X) Φ.oa G).wp (assign T (aF Φ.fx scope C x x' X).env v) (fun U s'=>Inv ⟨aF Φ.fx scope C x x' X,Φ.oa,El⟩ s'/\∀ b o,b≠C->s.heap.get? b=some o->s'.heap.get? b=some o) s
inductive CLC (Φ:Ct) (Fd:Fx) (s₀:Shared) (Sp:Nat->Heap->Prop) (vals:List Value) (l0 l:List V) (Da:Addr) (de:D) (ts:List D) (b:Gs->V->Option Gs) (K:List V->Prop) (n:Nat) (s':Shared):Prop
 | mk (i:Nat) (G':Gs) (zs:List V) (vs:Array Value) (en:n=l.length - i) (hi:i<=l.length) (st:Sp i s'.heap) (I':Inv ⟨Fd,Φ.oa,G'⟩ s') (hG:∀ z,b G' z=b Φ.G z) (kx:aI s₀.heap s'.heap) (rv:(Ct.mk Fd Φ.oa Φ.G).rps s'.heap vals l0)
   (hD:s'.heap.PlainList Da vs) (rz:(Ct.mk Fd Φ.oa Φ.G).rps s'.heap vs.toList zs) (hz:zs.length<=i) (ec:jH de ts b Φ.G (l.drop i) fun ys=>K (zs++ys)):CLC Φ Fd s₀ Sp vals l0 l Da de ts b K n s'
def lL {EI iter T:Expr} {b:Gs->V->Option Gs} {ifs:List Expr} {pos:Pos} {l:List V} {it:Value} {de:D} {ts:List D} {K:List V->Prop} {RR:Value->Addr->Result->Shared->Prop} {E:Value->Shared->Prop}
  (c:CompOk Φ.fx scope x x') (Er:Inv Φ s₀) (gr:Grown s₀ Ee) (fa:FeedAt Φ T false s₀ Ee it l)
  (Ga:∀ C X oa G,Ev ⟨aF Φ.fx scope C x x' X,oa,G⟩ (eval EI (aF Φ.fx scope C x x' X).env) (de G))
  (Fm:∀ C X oa G,EvT ⟨aF Φ.fx scope C x x' X,oa,G⟩ (dU ifs (aF Φ.fx scope C x x' X).env) (cw true ts G))
  (hT:nZ Φ scope T x x' b) (er:jH de ts b Φ.G l K)
  (hK:∀ D C s',CompEnd Φ s₀ K D C s'->RR (.ref D) C (.ok .next) s') :
  wpAny (model Φ.fx.g.prog Φ.fx.g.w) Φ.fx.A (newList []) (fun EJ EO=>wpAny (model Φ.fx.g.prog Φ.fx.g.w) Φ.fx.A (newFunctionEnv scope Φ.fx.env.globals (clOf Φ.fx.env.cells scope.names []) [] Φ.fx.env.qual none .none (some Φ.fx.env)) (fun Ku ET=>
   codeAny (model Φ.fx.g.prog Φ.fx.g.w) Φ.fx.A (.compStart (.ListComp EI [⟨T,iter,ifs,0⟩] scope pos) 0 it EJ { Ku with scope:=relabel scope Φ.fx.env }) (RR EJ Ku.locals) ET) E EO) E Ee:=by
 refine av fun Z kZ=>?_;obtain ⟨J,fp,wr,vals,l0,Sp,rfl,F,st0,rv,GV,hfp,hsz⟩:=fa;refine kZ (wpAny_newObj_type (wpAny_newFunctionEnv c.nocell (fun y hy=>nM hy) (fun Ej Fv Fu=>?_) c.kind));clear kZ;dsimp only at Fv Fu ⊢;generalize hH2:Ee.heap.push { cls:=.type "list",dict:=none,data:=.seq ([]:List Value).toArray }=H2 at Fv Fu ⊢;have LX:Ee.heap.get? Ee.heap.objs.size=none:=ak _;have Ii:s₀.heap.get? Ee.heap.objs.size=none:=aR gr.keeps.live LX;have up1:∀ b o,Ee.heap.get? b=some o->H2.get? b=some o:=fun b o e=>hH2▸Q4 _ e;have L4:H2.get? Ee.heap.objs.size=some { cls:=.type "list",dict:=none,data:=.seq ([]:List Value).toArray }:=hH2▸Q7 _ rfl;have L5:H2.get? H2.objs.size=none:=ak _;have KP:Ee.heap.get? H2.objs.size=none:=aR (fun l=>l.elim fun o e=>⟨o,up1 _ o e⟩) L5;have Fk:s₀.heap.get? H2.objs.size=none:=aR gr.keeps.live KP;have HE:Ee.heap.objs.size≠H2.objs.size:=fun q=>ay L5 (q▸L4);have K1:∀ b o,b≠H2.objs.size->H2.get? b=some o->Ej.get? b=some o:=fun b o n e=>Fu.extBut b o n (Q4 _ e);have up:aL Ee.heap Ej:=fun b o e=>K1 b o (fun q=>ay KP (q▸e)) (up1 b o e);have LY:Ej.PlainList Ee.heap.objs.size #[]:=⟨_,K1 _ _ HE L4⟩;generalize hDD:Ee.heap.objs.size=D at LX Ii L4 HE LY ⊢;generalize hCC:H2.objs.size=C at Fv Fu L5 Fk KP HE K1 ⊢;have L8:Grown s₀ { Ee with heap:=Ej,toks:=Ee.toks+([]:List (Str×Value)).length }:=gr.trans ⟨up,rfl,rfl⟩
 let X:Addr->Prop:=fun b=>(b∈fp/\s₀.heap.get? b=none)\/b=D
 have Ma:∀ b∈fp,aW Ee.heap b:=fun b hb=>(F.live 0 _ b st0 hb).live;have Mb:∀ b∈fp,b≠C:=fun b hb q=>(Ma b hb).elim fun o e=>ay KP (q▸e);have fpD:∀ b∈fp,b≠D:=fun b hb q=>(Ma b hb).elim fun o e=>ay LX (q▸e);have hXp:∀ b,X b->s₀.heap.get? b=none/\aW Ej b/\b≠C:=fun b q=>by
  rcases q with ⟨q,n⟩ | rfl
  ·exact ⟨n,up.live (Ma b q),Mb b q⟩
  ·exact ⟨Ii,ja LY,HE⟩
 obtain ⟨C',Jf⟩:=Er.comp (X:=X) c (Er.base.grown L8) L8.keeps hXp Fk Fv
 let Fd:=aF Φ.fx scope C x x' X
 have Gz:∀ k,Φ.fx.nf<=k->Φ.oa k=none:=fun k hk=>by
  obtain ⟨v,r,so⟩:=Er.slot k;replace r:=(Er.ok.offs _ hk)▸r;cases r
  generalize getSlot Φ.G k=sl at so;cases sl with
  | unset=>exact so.1
  | v x=>exact so.1
  | _=>obtain ⟨_,_,_,q,_⟩:=so; cases q
 have GY:∀ b∈wr,Fd.Mo b:=fun b m=>.inr (.inl ⟨F.sub b m,GV b m⟩);have IS:∀ b∈wr,Φ.fx.g.h0.get? b=none:=fun b m=>aR (fun l=>Er.base.stays.live l) (GV b m);have D0:Φ.fx.g.h0.get? D=none:=aR (fun l=>Er.base.stays.live l) Ii;have wrD:D∉wr:=fun m=>fpD D (F.sub D m) rfl;have EK:Sp 0 Ej:=F.frame _ _ _ st0 fun b U o e=>up b o e;have plC:(Fd.pl Φ.fx.nf).addr=some C:=by show (cpl Φ.fx C x x' Φ.fx.nf).addr=_; unfold cpl; rw [if_pos rfl]; rfl
 have Jj:codeAny (model Φ.fx.g.prog Φ.fx.g.w) Φ.fx.A (.compLoop (.ListComp EI [⟨T,iter,ifs,0⟩] scope pos) 0 (.ref J) (.ref D) Fd.env) (RR (.ref D) C) { Ee with heap:=Ej,toks:=Ee.toks+([]:List (Str×Value)).length }:=by
  refine lY (CLC Φ Fd s₀ Sp vals l0 l D de ts b K) ?_ l.length ⟨0,Φ.G,[],#[],rfl,zero_le _,EK,C',fun U=>rfl,L8.keeps,rv.map Jf,LY,.nil,zero_le _,er⟩;intro n s' hLC;refine av fun Z kZ=>?_;obtain ⟨i,G',zs,vs,rfl,hi,st,I',hG,kx,I9,hD',rz,hz,ec⟩:=hLC;cases hx:l[i]? with
  | none=>
   have F':i=l.length:=le_antisymm hi (List.getElem?_eq_none_iff.mp hx);subst F';replace ec:=List.drop_length▸ec;refine kZ (F.over st fun h' tk hk=>hK D C _ ?_);have kC:∀ b o,s'.heap.get? b=some o->b∉wr->h'.get? b=some o:=fun b o e n=>hk b o n e;obtain ⟨v,⟨m,hn,hv⟩,_⟩:∃ v,(∃ m,s'.heap.Ns C m/\m x=v)/\True:=by
    obtain ⟨v,r,_⟩:=I'.slot Φ.fx.nf;have r:bf s'.heap (cpl Φ.fx C x x' Φ.fx.nf) v:=r;unfold cpl at r;rw [if_pos rfl] at r;exact ⟨v,r,trivial⟩
   refine ⟨m,zs,⟨fun b o e=>hk b o (fun q=>ay (IS b q) e) (I'.base.stays b o e),I'.base.os,I'.base.gens⟩,fun b o e=>(kx b o e).step fun o' e'=>.of (hk b o' (fun q=>ay (GV b q) e) e'),Fk,Ii,HE,hn.at' fun o e=>hk C o (fun q=>Mb C (F.sub C q) rfl) e,?_,vs,gf hD' fun o e=>hk D o wrD e,rz.map fun b o e U n=>⟨fun q=>n ?_,hk b o (fun q=>n (.inl (GY b q))) e⟩⟩
   ·have ec:K (zs++[]):=ec;rwa [append_nil] at ec
   ·rcases q with q | rfl
    ·exact q.imp .inl fun q=>vh (X:=X) Er q
    ·exact .inr (.inl ⟨_,plC⟩)
  | some y=>
   have F':=(List.getElem?_eq_some_iff.mp hx).1;have ed:l.drop i=y :: l.drop (i+1):=by rw [List.drop_eq_getElem_cons F']; congr 1; exact (List.getElem?_eq_some_iff.mp hx).2
   rw [ed] at ec;refine kZ (F.turn (bad:=(Ct.mk Fd Φ.oa G').bad) hx st I9 (fun a q=>I'.badLive q) (fun b m=>.inl (GY b m)) fun v h' tk st' hk rx=>?_);clear kZ;refine av fun Z kZ=>?_;have I3:Inv ⟨Fd,Φ.oa,G'⟩ { s' with heap:=h',toks:=tk }:=Inv.others (Φ:=⟨Fd,Φ.oa,G'⟩) (Mo₂:=Fd.Mo) I' (fun b m=>I'.fr.not (F.live _ _ b st (F.sub b m))) hk GY IS (fun a q=>q) fun a q=>by
    by_cases nw:a∈wr
    ·exact (F.live _ _ a st' (F.sub a nw)).live
    ·exact (I'.mo a q).elim fun o e=>⟨o,hk a o nw e⟩
   have mk3:cR (Ct.mk Fd Φ.oa Φ.G).bad (Ct.mk Fd Φ.oa Φ.G).bad s'.heap h':=fun b o e U n=>⟨n,hk b o (fun m=>n (.inl (GY b m))) e⟩;have ec:okK (b Φ.G y) fun El=>_:=ec;refine ah ec fun El E0 ec=>kZ (wpAny_mono (hT.2 C X G' El v y _ Er.ok.kind Gz I3 ((hG y).trans E0) rx _) (fun U ET q=>?_) fun U U z=>z);clear kZ;refine av fun Z kZ=>?_;obtain ⟨I4,kC⟩:=q;have mk4:cR (Ct.mk Fd Φ.oa Φ.G).bad (Ct.mk Fd Φ.oa Φ.G).bad h' ET.heap:=fun b o e U n=>⟨n,kC b o (fun q=>n (.inr (.inl ⟨_,q▸plC⟩))) e⟩;have kx4:aI s₀.heap ET.heap:=fun b o e=>(kx b o e).step fun o' e'=>.of (kC b o' (fun q=>ay Fk (q▸e)) (hk b o' (fun q=>ay (GV b q) e) e'));have HP:Sp (i+1) ET.heap:=F.frame _ _ _ st' fun b hb o e=>kC b o (Mb b hb) e;have rv4:=(I9.map mk3).map mk4;have rz4:=(rz.map mk3).map mk4;have hD4:ET.heap.PlainList D vs:=gf hD' fun o e=>kC D o HE (hk D o wrD e);refine kZ (wpAny_mono (Fm C X Φ.oa El _ ET ec I4 _) (fun b' ES ⟨B5,k5,c5,hc5,e5⟩=>?_) fun U U z=>z);clear kZ;refine av fun Z kZ=>?_;subst e5;have I5:=I4.keep B5 k5;have K4:Sp (i+1) ES.heap:=F.frame _ _ _ HP fun b hb o e=>k5.get e ((F.live _ _ b HP hb).nf e);have LZ:ES.heap.PlainList D vs:=gf hD4 fun o e=>k5.get e ((jZ hD4).nf e);have hGs:∀ z,b El z=b Φ.G z:=fun z=>hT.1 _ _ _ z E0;cases b' with
   | false=>exact kZ ⟨l.length - (i+1),Nat.sub_succ_lt_self _ _ F',i+1,_,zs,vs,rfl,F',K4,I5,hGs,kx4.trans k5,rv4.keep k5,LZ,rz4.keep k5,le_succ_of_le hz,hc5⟩
   | true=>
    refine kZ (wpAny_mono (Ga C X Φ.oa El _ ES hc5 I5 _) (fun yv Fh ⟨B6,k6,z,hz6,rz6⟩=>?_) fun U U z=>z);clear kZ;refine av fun Z kZ=>?_;have I6:=I5.keep B6 k6;have hD6:Fh.heap.PlainList D vs:=gf LZ fun o e=>k6.get e ((jZ LZ).nf e);have rzs:=(rz4.keep k5).keep k6;refine kZ (wpAny_list_append_plain (hsz:=cE (by rw [aQ (Φ:=⟨Fd,Φ.oa,Φ.G⟩) rzs]; exact zB1 hz (zB1 hi hsz))) hD6 fun F7 hD7 JA=>?_);have k7:∀ b o,b∉[D]->Fh.heap.get? b=some o->F7.get? b=some o:=fun b o n e=>JA.extBut b o (fun q=>n (by rw [q]; exact .head _)) e;have I7:Inv ⟨Fd,Φ.oa,El⟩ { Fh with heap:=F7,toks:=Fh.toks }:=Inv.others (Φ:=⟨Fd,Φ.oa,El⟩) (Mo₂:=Fd.Mo) I6 (fun b m=>by cases zA6 m; exact I6.fr.not (jZ hD6)) k7 (fun b m=>by cases zA6 m; exact .inr (.inr rfl)) (fun b m=>by cases zA6 m; exact D0) (fun a q=>q) fun a q=>by
     by_cases nd:a=D
     ·subst nd; exact ja hD7
     ·exact (I6.mo a q).elim fun o e=>⟨o,JA.extBut a o nd e⟩
    have Lb:cR (Ct.mk Fd Φ.oa Φ.G).bad (Ct.mk Fd Φ.oa Φ.G).bad Fh.heap F7:=fun b o e U n=>⟨n,JA.extBut b o (fun q=>n (.inl (.inr (.inr q)))) e⟩;refine ⟨l.length - (i+1),Nat.sub_succ_lt_self _ _ F',i+1,_,zs++[z],vs.push yv,rfl,F',F.frame _ _ _ K4 fun b hb o e=>JA.extBut b o (fpD b hb) (k6.get e ((F.live _ _ b K4 hb).nf e)),I7,hGs,fun b o e=>(((kx4.trans k5).trans k6) b o e).step fun o' e'=>.of (JA.extBut b o' (fun q=>ay Ii (q▸e)) e'),((rv4.keep k5).keep k6).map Lb,hD7,?_,by rw [zB5]; exact succ_le_succ hz,?_⟩
    ·rw [toList_push];exact (rzs.map Lb).append (.cons (rz6.map Lb) .nil)
    ·have e:(fun ys=>K (zs++[z]++ys))=fun ys=>K (zs++(z :: ys)):=funext fun ys=>by rw [append_assoc]; rfl
     rw [e]; exact hz6
 exact codeAny_compStart_list Jj (F.self 0 _ _ _ EK Jj)
end
def j7 (ds:List D) (G:Gs):bR ds G=bv (ds.map (· G)):=by
 induction ds with
 | nil=>rfl
 | cons d r ih=>exact funext fun f=>congrArg (d G) (funext fun x=>congrFun ih fun xs=>f (x :: xs))
def hO (b:Bool) (ds:List D) (G:Gs):cw b ds G=pP b (ds.map (· G)):=by
 induction ds with
 | nil=>rfl
 | cons d r ih=>exact funext fun f=>congrArg (d G) (funext fun x=>congrArg (okK (cL x some)) (funext fun c=>congrArg (fun z=>if c=b then z else f c) (congrFun ih f)))
section
variable {Φ:Ct} {scope:Scope} {x x':Str}
def mU (hk:fx.env.scope.kind=.function) (h:scope.names.lookup y=some .local):(aF fx scope C x x' X).env.kindOf y≠some .free:=by
 show (relabel scope fx.env).names.lookup y≠_
 rw [cX hk,relab_lookup,h]; exact nofun
def zW (h:fx.nf<=k) (ho:fx.pl k=.off) (q:(cpl fx C x x' k).addr=some b):b=C:=by
 rcases cpl_c fx C x x' k with ⟨_,e⟩ | ⟨_,_,e⟩ | ⟨_,e⟩ | e <;> rw [e] at q
 ·(injection q with q; subst q); rfl
 ·(injection q with q; subst q); rfl
 ·(injection q; done)
 ·rw [ho] at q; (injection q; done)
def Bw (c:CompOk Φ.fx scope x x'):nZ Φ scope (.Name x py) x x' (kA Φ.fx.nf):=by
 refine ⟨fun G y El z e=>by (injection e with e; subst e); exact congrArg some (set_set ..),fun C X G El v y s hk Gz I e r E=>?_⟩;(injection e with e; subst e);refine wpAny_mono (zb (Φ:=⟨aF Φ.fx scope C x x' X,Φ.oa,G⟩) (k:=Φ.fx.nf) ⟨by refine (?_:((x,Φ.fx.nf) :: _).lookup x=_); rw [lookup_cons,beq_self_eq_true],mU hk c.loc⟩ I r E) (fun U s' q=>?_) fun U U z=>z;obtain ⟨I',_,k'⟩:=q;rw [u9 (Φ:=⟨aF Φ.fx scope C x x' X,Φ.oa,G⟩) (Gz _ (le_refl _))] at I';refine ⟨I',fun b o n e=>k' b o e fun q=>n ?_⟩;have q:(cpl Φ.fx C x x' Φ.fx.nf).addr=some b:=q;unfold cpl at q;rw [if_pos rfl] at q;(injection q with q; subst q); rfl
def DM {G:Gs} {k:Nat} (a b c d:Slot):(((G.set k a).set (k+1) b).set k c).set (k+1) d=(G.set k c).set (k+1) d:=by
 rw [List.set_comm _ _ (succ_ne_self k),set_set,set_set]
def Bv [Hm Φ.fx] {kk:Nat} {p p1 p2:Pos} (c:CompOk Φ.fx scope x x') (EA:x'≠x) (ho:∀ k,Φ.fx.nf<=k->Φ.fx.pl k=.off):nZ Φ scope (.Tuple [.Name x p1,.Name x' p2] kk p) x x' (aO [Φ.fx.nf,Φ.fx.nf+1]):=by
 refine ⟨fun G y El z e=>?_,fun C X G El v y s hk Gz I e r E=>?_⟩
 ·refine fG (C:=fun U El=>aO [Φ.fx.nf,Φ.fx.nf+1] El z=aO [Φ.fx.nf,Φ.fx.nf+1] G z) e fun xs hl=>?_;obtain ⟨a,b,rfl⟩:∃ a b,xs=[a,b]:=by
   rcases xs with _ | ⟨a,_ | ⟨b,_ | _⟩⟩ <;> cases hl
   exact ⟨a,b,rfl⟩
  cases z with
  | tuple zs=>
   rcases zs with _ | ⟨c,_ | ⟨d,_ | _⟩⟩ <;> try rfl
   exact congrArg some (DM (.v a) (.v b) (.v c) (.v d))
  | _=>rfl
 ·have hb:(x'==x)=false:=by cases q:x'==x with | false=>rfl | true=>exact absurd (eq_of_beq q) EA
  have:Hm (aF Φ.fx scope C x x' X):=⟨Hm.no (fx:=Φ.fx)⟩;refine wpAny_mono (BK (Φ:=⟨aF Φ.fx scope C x x' X,Φ.oa,G⟩) (ks:=[Φ.fx.nf,Φ.fx.nf+1]) (.cons ⟨?_,mU hk c.loc⟩ (.cons ⟨?_,mU hk c.loc'⟩ .nil)) I e r E) (fun U s' q=>?_) fun U U z=>z
  ·show ((x,Φ.fx.nf) :: _).lookup x=_; rw [lookup_cons,beq_self_eq_true]
  ·show ((x,Φ.fx.nf) :: (x',Φ.fx.nf+1) :: _).lookup x'=_; rw [lookup_cons,hb]; show lookup x' ((x',Φ.fx.nf+1) :: _)=_; rw [lookup_cons,beq_self_eq_true]
  ·obtain ⟨I',_,k'⟩:=q;have eo:offs [Φ.fx.nf,Φ.fx.nf+1] Φ.oa=Φ.oa:=funext fun j=>by
    show (if j=Φ.fx.nf+1 then none else if j=Φ.fx.nf then none else Φ.oa j)=_
    by_cases h:j=Φ.fx.nf+1
    ·rw [if_pos h,h,Gz _ (le_succ _)]
    ·rw [if_neg h];by_cases h':j=Φ.fx.nf
     ·rw [if_pos h',h',Gz _ (le_refl _)]
     ·rw [if_neg h']
   rw [eo] at I';refine ⟨I',fun b o n e=>k' b o e fun j m q=>n ?_⟩;rcases mem_cons.mp m with rfl | m
   ·exact zW (le_refl _) (ho _ (le_refl _)) q
   ·cases zA6 m
    exact zW (le_succ _) (ho _ (le_succ _)) q
end
section
variable {Φ:Ct} [Hm Φ.fx] {s s₀:Shared} {scope:Scope} {x x':Str}
theorem CompEnd.rp {K:List V->Prop} {D C:Addr} {s':Shared} (Er:Inv Φ s₀) (ce:CompEnd Φ s₀ K D C s'):∃ ys,K ys/\Rp Φ.fx.g (fun b=>Φ.bad b\/b=C) s'.heap (.ref D) (.list ys):=by
 obtain ⟨m,ys,B,kx,Fk,Ii,HE,hn,ky,vs,⟨c,hP⟩,rp⟩:=ce;exact ⟨ys,ky,.list (fun q=>q.elim (fun q=>(Er.badLive q).elim fun o e=>ay Ii e) HE) hP ⟨rfl,rfl⟩ rfl rp⟩
def sU {b:Gs->V->Option Gs} {ds:(List V->Prop)->Prop} (c:CompOk Φ.fx scope x x') (hT:nZ Φ scope T x x' b) (F8:bE iter=true) (FG:eV Φ T false iter ds)
  (Ga:∀ C X oa G,Ev ⟨aF Φ.fx scope C x x' X,oa,G⟩ (eval EI (aF Φ.fx scope C x x' X).env) (de G))
  (Fm:∀ C X oa G,EvT ⟨aF Φ.fx scope C x x' X,oa,G⟩ (dU ifs (aF Φ.fx scope C x x' X).env) (cw true ts G)) :
  Ev Φ (eval (.ListComp EI [⟨T,iter,ifs,0⟩] scope pos) Φ.fx.env) (fun K=>ds fun xs=>jH de ts b Φ.G xs fun ys=>K (.list ys)):=fun K s hd I E=>by
 rw [eval_ListComp];refine wpAny_comprehension_free (use:=none) rfl (g9 F8) (jJ c.cells) c.kind c.names (FG _ s hd I _ _ fun l s₀ it Ee kl Er k₀ gr fa=>lL (RR:=fun EJ C=>compPost _ Φ.fx.A E none (Post Φ Φ.rp s K) EJ C) c Er gr fa Ga Fm hT kl fun D C s' ce=>?_);obtain ⟨ys,ky,rp⟩:=ce.rp Er;obtain ⟨m,_,B,kx,Fk,_,_,hn,_⟩:=ce;have h0:Φ.fx.g.h0.get? C=none:=aR (fun l=>Er.base.stays.live l) Fk;exact ⟨m,hn,fun h' hs=>⟨⟨fun b o e=>hs.extBut b o (fun q=>ay h0 (q▸e)) (B.stays b o e),B.os,B.gens⟩,fun b o e=>((k₀.trans kx) b o e).step fun o' e'=>.of (hs.extBut b o' (fun q=>(k₀ b o e).live.elim fun o e=>ay Fk (q▸e)) e'),_,ky,rp.map fun b o e U n=>⟨fun q=>n (.inl q),hs.extBut b o (fun q=>n (.inr q)) e⟩⟩⟩
noncomputable def zc (sc:List (Str×NameKind)) (scope:Scope) (y:Str) (py vp:Pos):Bool:=sc.lookup y==some .local&&py.line==vp.line&&!(scope.names.any fun (n,k)=>n==y&&(k==.local||k==.cell))
def rW {fx:Fx} {EI:Expr} {gens:List Comprehension} {pos py:Pos} {y:Str} {n:Nat} (hk:fx.env.scope.kind=.function):swapsWith (.ListComp EI gens scope pos) (some (.Name y py)) n fx.env=pure (zc fx.env.scope.names scope y py pos):=by
 have hb:(fx.env.blockKind==ScopeKind.function)=true:=by unfold Env.blockKind; rw [hk]; rfl
 refine (?_:(pure (fx.env.blockKind==ScopeKind.function&&_&&_&&_):Sem Bool)=_);rw [hb];rfl
def iO {fx:Fx} [Hm fx] {EI iter T:Expr} {b:Gs->V->Option Gs} {ifs:List Expr} {pos py p' Eo:Pos} {y:Str} {k:Nat} {ds:Gs->(List V->Prop)->Prop} {de:D} {ts:List D} (c:CompOk fx scope x x') (hTc:∀ oa G,nZ ⟨fx,oa,G⟩ scope T x x' b) (F8:bE iter=true) (FG:∀ oa G,eV ⟨fx,oa,G⟩ T false iter (ds G))
  (Ga:∀ C X oa G,Ev ⟨aF fx scope C x x' X,oa,G⟩ (eval EI (aF fx scope C x x' X).env) (de G))
  (Fm:∀ C X oa G,EvT ⟨aF fx scope C x x' X,oa,G⟩ (dU ifs (aF fx scope C x x' X).env) (cw true ts G)) (hT:TgtOk fx.ρ fx.env y k) :
  ExB fx (exec (.Assign [.Name y p'] (.ListComp EI [⟨T,iter,ifs,0⟩] scope pos) Eo) fx.env) (fun G K=>ds G fun xs=>jH de ts b G xs fun ys=>K none (G.set k (.v (.list ys)))):=fun oa G K s hd I=>by
 cases hsw:zc fx.env.scope.names scope y p' pos with
 | false=>exact lK (fx:=fx) (d:=fun G K=>ds G fun xs=>jH de ts b G xs fun ys=>K (.list ys)) (by rw [rW I.ok.kind,hsw]) hT (fun oa G=>sU (Φ:=⟨fx,oa,G⟩) c (hTc oa G) F8 (FG oa G) Ga Fm) oa G K s hd I
 | true=>
  rw [exec_Assign_Name_used _ _ _ _ ((rW I.ok.kind).trans (by rw [hsw]))];refine (bSt (zC1 ?_))
  show wpAny _ _ (do let _ <- comprehension (.ListComp EI [⟨T,iter,ifs,0⟩] scope pos) scope fx.env _ (newList []) false (eval iter fx.env) (some (assign (.Name y p') fx.env))) _ _ s
  refine zC1 (wpAny_mono (wpAny_comprehension_free (use:=some (assign (.Name y p') fx.env)) (Q:=fun U s'=>PostS ⟨fx,oa,G⟩ s K .next s') (E:=PostX ⟨fx,oa,G⟩ s K) rfl (g9 F8) (jJ c.cells) c.kind c.names ?_) (fun U s' hq=>zC2 (wpAny_pure hq)) fun U U z=>z);refine FG oa G _ s hd I _ _ fun l s₀ it Ee kl Er k₀ gr fa=>lL (Φ:=⟨fx,oa,G⟩) (RR:=fun EJ C=>compPost _ fx.A (PostX ⟨fx,oa,G⟩ s K) (some (assign (.Name y p') fx.env)) (fun U s'=>PostS ⟨fx,oa,G⟩ s K .next s') EJ C) c Er gr fa Ga Fm (hTc oa G) kl fun D C s' ce=>?_;obtain ⟨ys,ky,rp⟩:=ce.rp Er;obtain ⟨m,_,B,kx,Fk,_,_,hn,_⟩:=ce;have h0:fx.g.h0.get? C=none:=aR (fun l=>Er.base.stays.live l) Fk;have Kf:aW s'.heap C:=by obtain ⟨o,_,_,e,_⟩:=hn; exact ⟨o,e⟩
  have I':Inv ((Ct.mk fx oa G).mo (·=C)) s':=Er.more B kx (fun b q=>q▸Fk) fun b q=>q▸Kf
  show wpAny _ _ (assign (.Name y p') fx.env (.ref D)) _ _ _
  refine wpAny_mono (zb (Φ:=(Ct.mk fx oa G).mo (·=C)) hT I' (rp.map fun b o e U n=>⟨fun q=>n (q.elim (fun q=>q.elim (fun q=>.inl (.inl q)) .inr) fun q=>.inl (.inr q)),e⟩) _) (fun _ ES ⟨I5,t5,k5⟩=>?_) fun U U z=>z;have hpC:(fx.pl k).addr≠some C:=fun q=>(Er.new C (.inl ⟨k,q⟩)).1.elim fun o e=>ay Fk e;refine ⟨m,hn.at' fun o e=>k5 C o e hpC,fun h' hs=>?_⟩;have kC:∀ b o,b∉[C]->ES.heap.get? b=some o->h'.get? b=some o:=fun b o n e=>hs.extBut b o (fun q=>n (by rw [q]; exact .head _)) e;have I6:=Inv.others (tk:=ES.toks) (Φ:=((Ct.mk fx oa G).mo (·=C)).put k none (.v (.list ys))) (Mo₂:=fx.Mo) I5 (fun b m=>by cases zA6 m; exact Er.fr.new Fk) kC (fun b m=>by cases zA6 m; exact .inr rfl) (fun b m=>by cases zA6 m; exact h0) (fun a q=>.inl q)
   fun a q=>(I5.mo a (.inl q)).elim fun o e=>⟨o,hs.extBut a o (fun z=>(Er.mo a q).elim fun o e=>ay Fk (z▸e)) e⟩
  have t6:Tr ⟨fx,oa,G⟩ s₀ ((Ct.mk fx oa G).put k none (.v (.list ys))) ES:=(Tr.of_keeps kx).trans (Tr.mo (Φ:=⟨fx,oa,G⟩) (Φ':=(Ct.mk fx oa G).put k none (.v (.list ys))) (X:=(·=C)) rfl t5);exact .next (Φ:=⟨fx,oa,G⟩) I6 ((Tr.of_keeps k₀).trans (t6.others (tk:=ES.toks) kC fun b m=>by cases zA6 m; exact Fk)) ky
end
section
variable {Φ:Ct} {s:Shared} {v u:Value} {x y z:V} {d d1 d2 d3:DV}
def jK {γ δ:Type} {R:Heap->γ->δ->Prop} {K:δ->Prop} {K₁:Bool->Prop} {fin stop:Value->Sem γ} (hs:bE c=true) (h1:Ev Φ (eval a Φ.fx.env) d1) (h2:Ev Φ (eval b Φ.fx.env) d2) (h3:Ev Φ (eval c Φ.fx.env) d3)
  (LJ:∀ s b,Inv Φ s->K₁ b->Φ.wp (fin (.bool b)) (Post Φ R s K) s) (Jw:∀ s,Inv Φ s->K₁ false->Φ.wp (stop (.bool false)) (Post Φ R s K) s)
  (hd:d1 fun x=>d2 fun y=>okK (aX .LtE x y) fun t=>if t=true then d3 fun z=>okK (aX o y z) K₁ else K₁ false) (I:Inv Φ s):Φ.wp (do
  let x <- eval a Φ.fx.env
  let y <- holding [x] (eval b Φ.fx.env)
  standAt pos
  let t <- holding [x,y] (compareOp .LtE x y)
  release [x,y] [t]
  if <- holding [t,y] (truthy t) then (do
   let z <- holding [y] (markedBehindIn o c (eval c Φ.fx.env))
   standAt pos
   let u <- operate [y,z] (compareOp o y z)
   fin u) else stop t) (Post Φ R s K) s:=by
 rw [ji hs];refine h1.bind hd I fun v x s₁ C' Ef hx r1=>h2.holding.bind hx C' fun u y Ee Eu Ex hy r2=>bi ?_;refine ah hy fun t e kt E=>zC1 (wpAny_holding (wpAny_mono (rD (o:=.LtE) (c:=t) e Eu (r1.keep Ex) r2 E) (fun w s' q=>?_) fun U U z=>z));obtain ⟨rfl,rfl⟩:=q;refine zC1 (b7 (zC1 (wpAny_holding (wpAny_truthy_bool ?_))));cases t with
 | false=>exact Jw _ Eu kt E
 | true=>exact h3.holding.bind kt Eu (fun w z EO FN Ft hz r3=>ah hz fun c e kc=>bi fun E=>zC1 (dF (fun E'=>wpAny_mono (rD (o:=o) e FN (r2.keep Ft) r3 E') (fun w s' q=>by obtain ⟨rfl,rfl⟩:=q; exact LJ _ _ FN kc E) fun U U z=>z) E)) E
def v0 (hs:bE c=true) (h1:Ev Φ (eval a Φ.fx.env) d1) (h2:Ev Φ (eval b Φ.fx.env) d2) (h3:Ev Φ (eval c Φ.fx.env) d3) :
  Ev Φ (eval (.Compare a [.LtE,o] [b,c] pos) Φ.fx.env) (fun K=>d1 fun x=>d2 fun y=>okK (aX .LtE x y) fun t=>if t=true then d3 fun z=>okK (aX o y z) fun u=>K (.bool u) else K (.bool false)):=fun K s hd I=>by
 have q:=jK (o:=o) (pos:=pos) (fin:=pure) (stop:=pure) (R:=Φ.rp) (K:=K) hs h1 h2 h3 (fun s b I k=>EvR.pure I k (.bool b)) (fun s I k=>EvR.pure I k (.bool _)) hd I;simp only [bind_pure] at q;exact q
def qg (hs:bE c=true) (h1:Ev Φ (eval a Φ.fx.env) d1) (h2:Ev Φ (eval b Φ.fx.env) d2) (h3:Ev Φ (eval c Φ.fx.env) d3) :
  EvT Φ (isTrue (.Compare a [.LtE,o] [b,c] pos) Φ.fx.env w) (fun K=>d1 fun x=>d2 fun y=>okK (aX .LtE x y) fun t=>if t=true then d3 fun z=>okK (aX o y z) fun u=>K u else K false):=fun K s hd I=>
 jK (o:=o) (pos:=pos) (fin:=fun c=>holding [c] (truthy c)) (stop:=fun U=>pure false) (R:=fun U=>Eq) (K:=K) hs h1 h2 h3 (fun s b I k E=>wpAny_holding (wpAny_truthy_bool ⟨I.base,.refl _,b,k,rfl⟩)) (fun s I k=>EvR.pure I k rfl) hd I
def pz {dd:V->Prop} {K:V->Prop} (hx:br Φ.fx.env.scope.names f=true) (hF:bI.lookup f=some F) (hk:(∃ id,F=.builtin id)\/∃ T,F=.type T) (hp:aq e=true) (h:Ev Φ (eval e Φ.fx.env) d)
  (st:∀ s v x E,Inv Φ s->Φ.rp s.heap v x->dd x->wpAny (model Φ.fx.g.prog Φ.fx.g.w) Φ.fx.A (call F [v]) (iy Φ s K) E s) (hd:d dd) (I:Inv Φ s):Φ.wp (eval (.Call (.Name f fp) [e] [] pos) Φ.fx.env) (iy Φ s K) s:=fun E=>by
 refine (?_:wpAny _ _ (eval (.Name f fp) Φ.fx.env >>= fun F=>callWith pos F [] (backTo pos (starEach [e] Φ.fx.env)) []) _ _ s);refine zC1 (bH I hx hF ?_ E);have IK:(backTo pos (starEach [e] Φ.fx.env)).any (·.1)=false:=by rw [aJ hp]; rfl
 have main:wpAny (model Φ.fx.g.prog Φ.fx.g.w) Φ.fx.A (evalArgs F true (backTo pos (starEach [e] Φ.fx.env)) []) (fun a s₁=>wpAny (model Φ.fx.g.prog Φ.fx.g.w) Φ.fx.A (call F ([]++a.pos) a.kw) (iy Φ s K) E s₁) E s:=
  cM (qs:=[(e,d)]) (K:=fun xs=>okK (one xs some) dd) (fun q m=>by obtain rfl:=zA6 m; exact ⟨hp,h⟩) hd I fun vs xs s₁ C' Ef hx rs=>ah hx fun x e hx=>cP (C:=fun vs=>wpAny _ _ (call F ([]++vs) []) _ _ s₁) e rs fun v x' r e=>by
   (injection e with e; subst e);exact wpAny_mono (st s₁ v _ E C' r hx) (fun U U p=>p.lift Ef) fun U U z=>z
 rcases hk with ⟨id,rfl⟩ | ⟨T,rfl⟩
 ·exact callWith_builtin IK main
 ·exact PySem.callWith_type IK main
def ud (hx:br Φ.fx.env.scope.names "list"=true) (hp:aq e=true) (h:Ev Φ (eval e Φ.fx.env) d):EvN Φ (eval (.Call (.Name "list" fp) [e] [] pos) Φ.fx.env) (fun K=>d fun x=>okK (opN .listOf [x]) K):=fun K s hd I=>
 pz hx rfl (.inr ⟨_,rfl⟩) hp h (fun s v x E I r hx=>ah hx fun z e kz=>map_elim (C:=fun z=>K z->wpAny _ _ (call (.type "list") [v]) (iy Φ s K) E s) e (fun l e kz=>wpAny_mono (yg I e r E) (fun w s' q=>⟨⟨I.base.grown q.2.1,q.2.1.keeps,_,kz,q.2.2⟩,q.1▸eQ (le_refl _)⟩) fun U U z=>z) kz) hd I
def xR {vs:List Value} {ns:List Int} (z:IntsAre vs ns):Φ.rps h vs (ns.map .int):=by
 induction z with
 | nil=>exact .nil
 | cons n t hr ih=>exact .cons (.int n t) ih
def uc (hx:br Φ.fx.env.scope.names "sorted"=true) (hp:aq e=true) (h:Ev Φ (eval e Φ.fx.env) d) :
  EvN Φ (eval (.Call (.Name "sorted" fp) [e] [] pos) Φ.fx.env) (fun K=>d fun x=>okK (dY x eS) fun is=>is.length < 64/\∀ r:List Int,r.Perm is->r.Pairwise (·<=·)->K (.list (r.map .int))):=fun K s hd I=>
 pz hx rfl (.inl ⟨_,rfl⟩) hp h (fun s v x E I r hx=>ah hx fun is e ⟨hz,hK⟩=>by
  refine bL (C:=fun x=>Φ.rp s.heap v x->wpAny _ _ (call (.builtin "sorted") [v]) _ E s) e (fun l e r=>?_) r;refine r.list_elim fun a o vs n U ha hc hd hl=>?_;have hi:=jz e hl;refine sorted_ints (vs:=vs.toList) ⟨o,ha,hc.1,n,by rw [hd]⟩ hi (by rw [<- hi.nums,zA4] at hz; exact hz) fun out ns' h1 h2 h3=>?_;have k:aL s.heap (sortedAll s.heap vs.toList out):=fun b o e=>sortedAll_old e;obtain ⟨ep,ho⟩:=sortedAll_at s.heap vs.toList out;refine ⟨⟨I.base.grown (kf (tk:=s.toks) k),k.keeps,_,hK ns' h2 h3,.list (fun q=>?_) ho ⟨rfl,rfl⟩ rfl (xR h1)⟩,eQ (le_succ _)⟩;obtain ⟨o',e'⟩:=I.badLive q;exact absurd (lt_size e') (not_lt.mpr (le_succ _))) hd I
end
section
variable {Φ:Ct} {s:Shared} {d:DV}
def vV (hn:Φ.fx.ρ.lookup n=some k) (ho:aV n=true) (h:Ev Φ (eval slice Φ.fx.env) d) :
  Ev Φ (eval (.Subscript (.Name n p) slice pos) Φ.fx.env) (fun K=>okK (bz Φ.G k) fun l=>d fun y=>okK (jy l id y) K):=fun K s hd I=>ah hd fun l e hl E=>by
 rw [arm_eval_Subscript];refine zC1 (oW (sl:=.ownL l) hn ho I (bY e) id (fun a u ha ow=>?_) E);obtain ⟨rfl,o,vs,n,ho,hc,hd,hv⟩:=ow;refine h.holding.bind hl I (fun u y s₁ C' Ef hy r=>ah hy fun z ez kz=>step C' kz ?_) E;have hL:s₁.heap.IsList a vs:=⟨_,Ef.get ho (aG hc.1),hc.1,_,hd⟩;exact jV ⟨⟨_,_,hL.typeIs,slot_list_getitem.lookup⟩,sI ez hL (hv.keep Ef) r⟩
end
theorem RpAll.set:∀ {m:List V} {vs:List Value} {j:Nat},RpAll g bad h vs m->Rp g bad h v y->RpAll g bad h (vs.set j v) (m.set j y)
 | [],_,_,h,_=>by cases h; exact .nil
 | _ :: _,_,0,h,r=>by cases h with | cons a b=>exact .cons r b
 | _ :: _,_,j+1,h,r=>by cases h with | cons a b=>exact .cons a (RpAll.set b r)
theorem qq {E:Value->Shared->Prop} {Q:Unit->Shared->Prop} (ho:s.heap.get? l=some o) (hc:o.cls=.type "list"/\o.dict=none) (hd:o.data=.seq items n) (h0:0<=k) (FI:k < 2 ^ 63) (hn:k < items.size)
  (hQ:∀ h' o' n',h'.get? l=some o'->(o'.cls=.type "list"/\o'.dict=none)->o'.data=.seq (items.setIfInBounds k.toNat v) n'->SameBut l s.heap h'->Q () { s with heap:=h' }) :
  wpAny (model prog w) A (setItem (.ref l) (.int k t) v) Q E s:=by
 have hL:s.heap.IsList l items:=⟨o,ho,hc.1,n,hd⟩;unfold setItem
 try with_reducible refine wpAny_holding ?_
 first | refine zC1 (zC2 ?_) | skip
 refine zC1 (wpAny_sequenceKey hL.typeIs (by decide) ?_);refine zC1 (wpAny_callSpecial?_slot (name:=ofString "__setitem__") hL.typeIs slot_list_setitem
  (wpAny_call_entry slot_list_setitem hL.typeIs entry_list_setitem ?_ (args_list_setitem _ _ _)))
 refine (?_:wpAny _ _ (Builtin.List.listSubscript? (.int k t) >>= _) _ _ s);refine zC1 (wpAny_listSubscript_int (fitsIndex_of h0 FI) ?_);clear FI;obtain ⟨j,rfl⟩:=eq_ofNat_of_zero_le h0;have hj:j < items.size:=ofNat_lt.mp hn;have Hq:items[j]?=some items[j]:=Array.getElem?_eq_getElem hj;refine (?_:wpAny _ _ ((seqItemAt l j >>= fun r=>pure (r.map (j,·))) >>= _) _ _ s);refine zC1 (zC1 (wpAny_seqItemAt ho hd (zC2 ?_)));rw [Hq];refine (?_:wpAny _ _ (setSeqItemAt l j v >>= _) _ _ s);obtain ⟨n',EN⟩:=data_mapSeq hd (·.setIfInBounds j v);refine zC1 (wpAny_setSeqItemAt ho hd ?_);have z:=hQ _ _ n' (get?_update_self _ ho (isFreed_of_seq EN)) ⟨(cls_mapSeq ..).trans hc.1,(cW ..).trans hc.2⟩ EN (SameBut.update ..);first
  | exact zC1 (zC2 (zC2 ⟨.none,rfl,wpAny_pure z⟩))
  | exact zC2 ⟨.none,rfl,wpAny_pure z⟩
section
variable {fx:Fx}
def yJ (hT:TgtOk fx.ρ fx.env n k):ExB fx (exec (.Assign [.Name n py] (.Dict [] [] pos) Eo) fx.env) (fun G K=>K none (G.set k (.ownD []))):=fun oa G K s hd I=>by
 rw [exec_Assign_Name _ _ _ _ _ (ch rfl)];refine zC1 (wpAny_standAt (zC1 (wpAny_Dict_empty ?_)));have gr:=Grown.push s { cls:=.type "dict",data:=.dict #[] } s.toks;have hD:s.heap.get? s.heap.objs.size=none:=ak _;refine zC1 (wpAny_standAt (zC1 (wpAny_bindName (r8 (a:=s.heap.objs.size) (sl:=.ownD []) hT I (I.base.grown gr) gr.keeps hD ⟨_,Q7 _ rfl⟩ (fun U q=>nomatch q) (fun q=>nomatch q) id (fun h' kp=>?_) (fun s' I' t'=>zC2 (.next I' t' hd)) _))));have nb:¬ (Ct.mk fx oa G).own s.heap.objs.size:=fun q=>I.fresh (.inr q);exact ⟨rfl,_,#[],0,kp _ _ (Q7 _ rfl) nb,⟨rfl,rfl,rfl⟩,rfl,⟨rfl,nodup_nil,rfl⟩,.nil,.nil⟩
def yE {n:Str} {k:Nat} {np sp Eo:Pos} {ei ev:Expr} {d1 d2:Gs->DV} (hx:fx.ρ.lookup n=some k) (hn:aV n=true) (hs:b0 ev=true) (h1:∀ oa G,Ev ⟨fx,oa,G⟩ (eval ev fx.env) (d1 G)) (h2:∀ oa G,Ev ⟨fx,oa,G⟩ (eval ei fx.env) (d2 G)) :
  ExB fx (exec (.Assign [.Subscript (.Name n np) ei sp] ev Eo) fx.env) (fun G K=>okK (jg G k) fun l=>d1 G fun y=>d2 G fun x=>okK (if (dJ x&&decide (l.length < am))=true then some (r9 l x y) else none) fun l'=>K none (G.set k (.ownD l'))):=fun oa G K s hd I=>ah hd fun l el hd=>by
 rw [exec_Assign_Subscript _ _ _ _ _ (ch hs)];refine zC1 (wpAny_standAt (zC1 (wpAny_mono (h1 oa G _ s hd I _) (fun v1 s₁ ⟨B1,k1,y,hy,r1⟩=>?_) fun U U z=>z)));have I1:=I.keep B1 k1;rw [assign_Subscript];obtain ⟨a,u,ha,pr,rfl,o,es,m,ho,hc,Fc,hk,q1,q2⟩:=dW (Φ:=⟨fx,oa,G⟩) I1 (lA el) id;refine zC1 (zC1 (wpAny_holding (bO (Φ:=⟨fx,oa,G⟩) I1.ok hx hn pr ?_ _)));refine zC1 (wpAny_holding (wpAny_mono (h2 oa G _ s₁ hy I1 _) (fun v2 Ee ⟨B2,k2,x,hxx,r2⟩=>?_) fun U U z=>z));have I2:=I1.keep B2 k2;refine ah hxx fun l2 e2 kz=>?_;refine bo e2 fun hf e2=>?_;obtain rfl:=Option.some.inj e2;have hf:=zA2 hf;obtain ⟨c,rfl⟩:=mD r2 hf.1;have JM:=k2.get ho (aG hc.1);obtain ⟨xs,D,En⟩:=DAt.dk (bad:=(Ct.mk fx oa G).bad) ⟨rfl,o,es,m,JM,hc,Fc,hk,q1.keep k2,q2.keep k2⟩;refine zC1 (wpAny_standAt (zC1 (wpAny_holding (@wpAny_setItem_heap _ _ V fM (jv fx.g.prog fx.g.w) _ _ _ _ _ _ _ _ _ (Inv.room3 (Φ:=⟨fx,oa,G⟩) I) (KIs.of hf.1 r2) D (fun h' D' sb=>b7 (zC2 ?_)) (cE (by rw [En.length]; exact le_of_lt (of_decide_eq_true hf.2)))))));have mk:cR (Ct.mk fx oa G).bad (Ct.mk fx oa G).bad Ee.heap h':=fun b o e U nb=>⟨nb,sb.extBut b o (fun q=>nb (.inr (.inr ⟨k,q▸ha⟩))) e⟩;have dn:=DAt.of D' ((En.map mk).put hf.1 (r2.map mk) ((r1.keep k2).map mk));have q:=Inv.mutate (Φ:=⟨fx,oa,G⟩) (sl:=.ownD (r9 l x y)) (tk:=Ee.toks+BT x) I2 ha (pr.keep k2) ⟨o,JM,aG hc.1⟩ sb (dn.casesOn fun U o U U ho U U U U U=>⟨o,ho⟩) dn (fun U q=>nomatch q) (fun q=>nomatch q) fun q=>q.elim;exact .next (Φ:=⟨fx,oa,G⟩) q.1 ((Tr.of_keeps (k1.trans k2)).trans q.2) kz
def yD {ei ev:Expr} {d1 d2:Gs->DV} (hx:fx.ρ.lookup n=some k) (hn:aV n=true) (hs:b0 ev=true) (h1:∀ oa G,Ev ⟨fx,oa,G⟩ (eval ev fx.env) (d1 G)) (h2:∀ oa G,Ev ⟨fx,oa,G⟩ (eval ei fx.env) (d2 G)) :
  ExB fx (exec (.Assign [.Subscript (.Name n np) ei sp] ev Eo) fx.env) (fun G K=>okK (bz G k) fun l=>d1 G fun v=>d2 G fun y=>okK (lI y fun i=>if 0<=i/\i < l.length/\l.length<=am then some (l.set i.toNat v) else none) fun l'=>K none (G.set k (.ownL l'))):=fun oa G K s hd I=>ah hd fun l el hd=>by
 rw [exec_Assign_Subscript _ _ _ _ _ (ch hs)];refine zC1 (wpAny_standAt (zC1 (wpAny_mono (h1 oa G _ s hd I _) (fun v1 s₁ ⟨B1,k1,y,hy,r1⟩=>?_) fun U U z=>z)));have I1:=I.keep B1 k1;rw [assign_Subscript];obtain ⟨a,u,ha,pr,rfl,o,vs,m,ho,hc,Fc,hl⟩:=dW (Φ:=⟨fx,oa,G⟩) I1 (bY el) id;refine zC1 (zC1 (wpAny_holding (bO (Φ:=⟨fx,oa,G⟩) I1.ok hx hn pr ?_ _)));refine zC1 (wpAny_holding (wpAny_mono (h2 oa G _ s₁ hy I1 _) (fun v2 Ee ⟨B2,k2,x,hxx,r2⟩=>?_) fun U U z=>z));have I2:=I1.keep B2 k2;refine ah hxx fun l2 e2 kz=>?_;refine bA (C:=fun x=>(Ct.mk fx oa G).rp Ee.heap v2 x->_) e2 (fun i e2 r2=>?_) r2;refine bo e2 fun hf e2=>?_;obtain rfl:=Option.some.inj e2;refine r2.int_elim fun t=>?_;have len:vs.size=l.length:=aQ (Φ:=⟨fx,oa,G⟩) hl;have JM:=k2.get ho (aG hc.1);refine zC1 (wpAny_standAt (zC1 (wpAny_holding (qq JM hc Fc hf.1 (Int.lt_of_lt_of_le hf.2.1 (le_trans (ofNat_le.mpr hf.2.2) (by decide))) (by rw [len]; exact hf.2.1) fun h' o' n' ED ER EN sb=>b7 (zC2 ?_)))));have mk:cR (Ct.mk fx oa G).bad (Ct.mk fx oa G).bad Ee.heap h':=fun b o e U nb=>⟨nb,sb.extBut b o (fun q=>nb (.inr (.inr ⟨k,q▸ha⟩))) e⟩;have q:=Inv.mutate (Φ:=⟨fx,oa,G⟩) (sl:=.ownL (l.set i.toNat y)) (tk:=Ee.toks) I2 ha (pr.keep k2) ⟨o,JM,aG hc.1⟩ sb ⟨_,ED⟩ ⟨rfl,o',_,n',ED,ER,EN,by rw [Array.toList_setIfInBounds]; exact ((hl.keep k2).map mk).set ((r1.keep k2).map mk)⟩ (fun U q=>nomatch q) (fun q=>nomatch q) fun q=>q.elim;exact .next (Φ:=⟨fx,oa,G⟩) q.1 ((Tr.of_keeps (k1.trans k2)).trans q.2) kz
end
section
variable {prog:Program} {w:World} {A:Around} {E:Value->Shared->Prop} {s:Shared}
def qz {α:Type} {l m:List α} (hl:l.length=m.length) (h:∀ (j:Nat) v,l[j]?=some v->m[j]?=some v):l=m:=by
 refine List.ext_getElem? fun j=>?_;cases e:l[j]? with
 | some v=>exact (h j v e).symm
 | none=>exact (List.getElem?_eq_none (hl▸List.getElem?_eq_none_iff.mp e)).symm
def qO {R:Result->Shared->Prop} {D X:Addr} {T:String} {c:Nat} {res:Value} (C:List Value->Prop) (hh:A.handled=none) (hD:s.heap.get? D=some { cls:=.type "list",dict:=none,data:=.seq #[] c,slots:=#[] }) (EA:D≠X) (hT:T="set"\/T="dict_values") (Gh:s.TypeIs (.ref X) T)
  (JX:∀ (s':Shared) (Q:Bool->Shared->Prop) (E:Value->Shared->Prop),aL s.heap s'.heap->Q false s'->wpAny (model prog w) A.in1 (Builtin.List.listLengthHint (.ref X)) Q E s')
  (FV:∀ (Q:Value->Shared->Prop) (E:Value->Shared->Prop),(∀ (Fs:List Value) I fp wr St h' d,C Fs->Fs.length<=sizeLine->aL s.heap h'->(∀ b∈wr,s.heap.get? b=none)->D∉fp->Walks prog w A.in1 I fp wr Fs.length (fun i v=>Fs[i]?=some v) St->St 0 h'->Q (.ref I) { s with heap:=h',drawn:=d })->wpAny (model prog w) A.in1 (pyIter (.ref X)) Q E s)
  (hR:∀ (out:List Value) h' d tk c',C out->(∀ b o,b≠D->s.heap.get? b=some o->h'.get? b=some o)->h'.get? D=some { cls:=.type "list",dict:=none,data:=.seq out.toArray c',slots:=#[] }->R (.ok (.ret res)) { s with heap:=h',drawn:=d,toks:=tk }) :
  wpAny (model prog w) A.in1 (Builtin.List.listExtendWith (.ref D) (.ref X) res) (fun fin s'=>match fin with | .done f=>R (.ok f) s' | .again c'=>c'.quiet=true/\codeAny (model prog w) A c' R s') (fun e s'=>R (.error e) s') s:=by
 unfold Builtin.List.listExtendWith;refine zC1 (wpAny_typeOf Gh ?_);have h1:Builtin.List.listSameRef (.ref D) (.ref X)=false:=by simp [Builtin.List.listSameRef,EA]
 have h2:(Value.type T==Value.type "list")=false:=by rcases hT with rfl | rfl <;> decide
 have h3:(Value.type T==Value.type "tuple")=false:=by rcases hT with rfl | rfl <;> decide
 simp only [h1,h2,h3,Bool.or_false,false_eq_true,if_false];refine zC1 (FV _ _ fun Fs I fp wr St h' d hC hz k hw hf W FE=>?_);refine zC1 (wpAny_holding (JX _ _ _ k ?_));rw [if_pos (by rcases hT with rfl | rfl <;> decide)];refine (bRu (zC1 ?_));have hS1:=k _ _ hD;refine (?_:wpAny _ A.in1 (updateSeq D (·.push .none) >>= fun U=>updateSeq D (·.pop)) _ _ _);refine zC1 (wpAny_updateSeq hS1 rfl ?_);have hS2:=get?_update_self (mapSeq (·.push Value.none)) hS1 rfl;refine wpAny_updateSeq hS2 rfl ?_;have hS3:=get?_update_self (mapSeq (·.pop)) hS2 rfl;have HS:∀ b ob,b≠D->h'.get? b=some ob->((h'.update D (mapSeq (·.push Value.none))).update D (mapSeq (·.pop))).get? b=some ob:=
  fun b ob hb e=>(get?_update_other _ _ (Ne.symm hb)).trans ((get?_update_other _ _ (Ne.symm hb)).trans e)
 refine zC2 ⟨plainId_quiet PySem.F.plain_extend_loop _,codeAny_extend_loopS W.toS hz _ hf _ Fs.length 0 _ _ _ rfl (zero_le _) (W.frame 0 _ _ FE fun b hb ob e=>HS b ob (fun q=>hf (q▸hb)) e) hS3 (ItemsOf.nil _) fun s' Mq c' hm hS' Kc=>?_⟩;have e1:Mq.toList=Fs:=qz (by rw [zB3,Kc.1]) fun j v e=>Kc.2 j v (Q2▸e);obtain ⟨hp,gs,dr,tk,os⟩:=s';obtain ⟨m1,m2,m3,m4,m5⟩:=hm;subst m2; cases m3; subst m4;refine hR Fs hp d tk c' hC (fun b ob q e=>m1 b ob (fun q'=>?_) (HS b ob q (k _ _ e))) (by subst e1; exact hS');rcases mem_cons.mp q' with q' | q'
 ·exact q q'
 ·have:=hw b q'; rw [e] at this; (injection this; done)
end
def yj {items:Array Value} {ws:List Value} (hx:items.toList=ws++[x]):items.isEmpty=false/\((seqIndex? (-1) items.size).bind fun k=>items[k]?.map (k,·))=some (ws.length,x)/\items.eraseIdxIfInBounds ws.length=ws.toArray:=by
 obtain ⟨l⟩:=items;obtain rfl:l=ws++[x]:=hx;have hs:(Array.mk (ws++[x])).size=ws.length+1:=length_append;refine ⟨?_,?_,?_⟩
 ·cases ws <;> rfl
 ·rw [hs,show seqIndex? (-1) (ws.length+1)=some ws.length from j9 (.inr ⟨by decide,by lia,by lia⟩) (lt_succ_self _),bind_some];refine (?_:Option.map _ ((ws++[x]).toArray[ws.length]?)=_);rw [List.getElem?_toArray,getElem?_append_right (le_refl _),sub_self]; rfl
 ·refine (?_:(ws++[x]).toArray.eraseIdxIfInBounds ws.length=_);rw [List.eraseIdxIfInBounds_toArray,List.eraseIdx_append_of_length_le (le_refl _),sub_self];exact congrArg _ (append_nil _)
def AF {E:Value->Shared->Prop} {items:Array Value} {ws:List Value} {n:Nat} {Q:Value->Shared->Prop} (ho:s.heap.get? l=some o) (hc:o.cls=.type "list"/\o.dict=none) (hd:o.data=.seq items n) (hx:items.toList=ws++[x]) (hsz:items.size<=sizeLine)
  (hQ:∀ h' o' n',h'.get? l=some o'->o'.cls=.type "list"/\o'.dict=none->o'.data=.seq ws.toArray n'->SameBut l s.heap h'->Q x { s with heap:=h' }):wpAny (model prog w) A (call (.builtin "list.pop") [.ref l]) Q E s:=by
 refine (yj hx).elim fun h1 Gf=>Gf.elim fun h2 h3=>?_;refine wpAny_call_entry F.slot_list_pop ⟨o,ho,hc.1⟩ F.entry_list_pop ?_ (F.args_list_pop_1 _);refine (?_:wpAny _ _ (Builtin.List.listItems (.ref l) >>= _) _ _ s);refine zC1 (listItems_at ho hd ?_);refine bu (by exact h1.symm▸Bool.false_ne_true) ?_;refine h2.symm▸?_;refine (data_mapSeq hd (·.eraseIdxIfInBounds ws.length)).elim fun n' EN=>?_;rw [h3] at EN;exact zC1 (listUpdate_at ho hd (zC2 ⟨x,rfl,hQ _ _ n' (get?_update_self _ ho (isFreed_of_seq EN)) ⟨(cls_mapSeq ..).trans hc.1,(cW ..).trans hc.2⟩ EN (SameBut.update ..)⟩) hsz (h3.symm▸by rw [size_toArray]; rw [<- zB3,hx,zB5] at hsz; exact zB1 (Q3 _ _) (le_succ_of_le hsz)))
section
variable {M:Model} {A:Around} {E:Value->Shared->Prop} {s:Shared} {env:Env} {pos:Pos} {Q:List Value->Shared->Prop}
def oM (hp:aq e=true) (h:wpAny M A (eval e env) (fun v s₁=>wpAny M A (spliced (backTo pos (starEach r env))) (fun vs Ee=>Q (v :: vs) Ee) E s₁) E s):wpAny M A (spliced (backTo pos (starEach (e :: r) env))) Q E s:=by
 refine (aJ hp).symm▸?_;have q:spliced (backTo pos ((false,eval e env) :: starEach r env))=(eval e env >>= fun v=>holding [v] (spliced (backTo pos (starEach r env))) >>= fun vs=>pure (v :: vs)):=rfl;exact q.symm▸zC1 (wpAny_mono h (fun v s₁ p=>zC1 (wpAny_holding (wpAny_mono p (fun vs Ee p=>wpAny_pure p) fun U U z=>z))) fun U U z=>z)
end
section
variable {Φ:Ct} {pos:Pos} {E:Value->Shared->Prop}
theorem mq:∀ {qs:List (Expr×DV)} {K:List V->Prop} {s:Shared} {Q:List Value->Shared->Prop},(∀ q∈qs,aq q.1=true/\bj Φ q)->bv (qs.map Prod.snd) K->Inv Φ s ->
  (∀ vs xs s₁,Inv Φ s₁->aI s.heap s₁.heap->K xs->Φ.rps s₁.heap vs xs->wpAny (model Φ.fx.g.prog Φ.fx.g.w) Φ.fx.A (spliced (backTo pos (starEach r Φ.fx.env))) (fun ws Ee=>Q (vs++ws) Ee) E s₁) ->
  wpAny (model Φ.fx.g.prog Φ.fx.g.w) Φ.fx.A (spliced (backTo pos (starEach (qs.map Prod.fst++r) Φ.fx.env))) Q E s
 | [],K,s,Q,_,hd,I,h=>h [] [] s I (.refl _) hd .nil
 | q :: qs,K,s,Q,hq,hd,I,h=>oM (hq q (.head _)).1 (wpAny_mono ((hq q (.head _)).2 _ s hd I E) (fun v s₁ ⟨B,Ef,x,hx,rx⟩=>mq (fun q m=>hq q (.tail _ m)) hx (I.keep B Ef) fun vs xs Ee Eu Ex hk rs=>h (v :: vs) (x :: xs) Ee Eu (Ef.trans Ex) hk (.cons (rx.keep Ex) rs)) fun U U z=>z)
theorem RpAll.snoc:∀ {m:List V} {vs:List Value},RpAll g bad h vs (m++[y])->∃ ws v,vs=ws++[v]/\RpAll g bad h ws m/\Rp g bad h v y:=by
 intro m;induction m with
 | nil=>
  intro vs r;cases r with
  | cons r rs=>cases rs with
   | nil=>exact ⟨[],_,rfl,.nil,r⟩
 | cons x m ih=>
  intro vs r;cases r with
  | cons r rs=>
   refine (ih rs).elim fun ws It=>It.elim fun v Iq=>Iq.elim fun e He=>He.elim fun r1 r2=>?_;exact ⟨_ :: ws,v,congrArg (_ :: ·) e,.cons r r1,r2⟩
def xS (hk:Φ.oa k=some a):(Φ.put k (some a) sl).bad=Φ.bad:=by
 have eo:(Φ.put k (some a) sl).oa=Φ.oa:=funext fun j=>(Classical.em (j=k)).elim (fun e=>(if_pos e).trans (e▸hk.symm)) fun e=>if_neg e;unfold Ct.bad Ct.own; rw [eo]; rfl
def AE (hx:Φ.fx.ρ.lookup n=some k) (hn:aV n=true) (Es:(Ew.endLine==ppos.line)=true) (I:Inv Φ s) (el:bz Φ.G k=some l) (hz:l.length<=am) (ey:l.getLast?=some y)
  (h:∀ a v s',Φ.oa k=some a->Inv (Φ.put k (some a) (.ownL l.dropLast)) s'->Tr Φ s (Φ.put k (some a) (.ownL l.dropLast)) s'->Φ.rp s'.heap v y->Q v s'):wpAny (model Φ.fx.g.prog Φ.fx.g.w) Φ.fx.A (eval (.Call (.Attribute (.Name n np) "pop" Ew) [] [] ppos) Φ.fx.env) Q E s:=by
 obtain ⟨a,u,ha,pr,rfl,o,vs,m,ho,hc,EN,hl⟩:=dW I (bY el) id;refine wpAny_Call_method (T:="list") (id:="list.pop") (bN rfl) rfl Es PySem.F.plainAttrs_list F.slot_list_pop F.type_list_pop (bO I.ok hx hn pr ⟨⟨o,ho,hc.1⟩,fun a q=>by (injection q with q; subst q); exact ⟨o,ho,hc.2⟩,?_⟩ _);refine callWith_builtin rfl (PySem.evalArgs_none ?_);have hsz:=aQ hl;obtain ⟨m',rfl⟩:=List.getLast?_eq_some_iff.mp ey;obtain ⟨ws,v,ev,r1,r2⟩:=hl.snoc;replace h:=List.dropLast_concat▸h;refine AF ho hc EN ev (hsz▸cE hz) fun h' o' n' ED ER GG hs=>?_;have mk:cR Φ.bad Φ.bad s.heap h':=fun b o e U nb=>⟨nb,hs.extBut b o (fun q=>nb (.inr (.inr ⟨k,q▸ha⟩))) e⟩;have q:=Inv.mutate (sl:=.ownL m') (tk:=s.toks) I ha pr ⟨o,ho,aG hc.1⟩ hs ⟨_,ED⟩ ⟨rfl,o',_,n',ED,ER,GG,by rw [List.toList_toArray]; exact r1.map mk⟩ (fun U q=>nomatch q) (fun q=>nomatch q) fun q=>q.elim;exact h a v _ ha q.1 q.2 (r2.map mk)
end
section
variable {fx:Fx}
def xT {oa:Nat->Option Addr} {k:Nat} {q1:List (Expr×DV)} {q2:Gs->List (Expr×DV)} {es:List Expr} {K:Gs->List V->Prop} {Q:List Value->Shared->Prop} {E:Value->Shared->Prop} (hx:fx.ρ.lookup n=some k) (hn:aV n=true) (Es:(Ew.endLine==ppos.line)=true)
  (hq1:∀ q∈q1,aq q.1=true/\bj ⟨fx,oa,G⟩ q) (he:∀ G,(q2 G).map Prod.fst=es) (KC:∀ oa G,∀ q∈q2 G,aq q.1=true/\bj ⟨fx,oa,G⟩ q)
  (hd:bv (q1.map Prod.snd) fun xs=>okK (bz G k) fun l=>l.length<=am/\okK l.getLast? fun y=>bv ((q2 (G.set k (.ownL l.dropLast))).map Prod.snd) fun zs=>K (G.set k (.ownL l.dropLast)) (xs++y :: zs)) (I:Inv ⟨fx,oa,G⟩ s)
  (h:∀ oa' G' vs xs s',Inv ⟨fx,oa',G'⟩ s'->Tr ⟨fx,oa,G⟩ s ⟨fx,oa',G'⟩ s'->K G' xs->(Ct.mk fx oa' G').rps s'.heap vs xs->Q vs s') :
  wpAny (model fx.g.prog fx.g.w) fx.A (spliced (backTo pos (starEach (q1.map Prod.fst++.Call (.Attribute (.Name n np) "pop" Ew) [] [] ppos :: es) fx.env))) Q E s:=by
 refine mq (Φ:=⟨fx,oa,G⟩) hq1 hd I fun vs xs s₁ C' Ef hk rs=>ah hk fun l el hl=>ah hl.2 fun y ey hy=>?_;refine oM rfl (AE (Φ:=⟨fx,oa,G⟩) hx hn Es C' el hl.1 ey fun a v Ee ha Eu IU r=>?_);refine (he (G.set k (.ownL l.dropLast)))▸(append_nil ((q2 _).map Prod.fst))▸?_;refine mq (Φ:=(Ct.mk fx oa G).put k (some a) (.ownL l.dropLast)) (KC _ _) hy Eu fun ws zs EO FN Ft hz rz=>zC2 ?_;rw [append_nil];refine h _ _ (vs++v :: ws) (xs++y :: zs) EO FN (((Tr.of_keeps Ef).trans IU).trans (Tr.of_keeps Ft)) hz (((rs.map IU.mapK).keep Ft).append (.cons ?_ rz));have r:=r.keep Ft;unfold Ct.rp at r;rw [<- xS (sl:=.ownL l.dropLast) ha] at r;exact r
def v8 {E:Value->Shared->Prop} {Q:Args->Shared->Prop} (hp:aq e=true) (it:wpAny M A (spliced (backTo pos (starEach (e :: r) env))) (fun vs s₁=>Q ⟨vs,[]⟩ s₁) E s):wpAny M A (evalArgs F true (backTo pos (starEach (e :: r) env)) []) Q E s:=by
 rw [aJ hp] at it ⊢;obtain ⟨l,hl⟩:∃ l,backTo pos ((false,eval e env) :: starEach r env)=(false,eval e env) :: l:=by
  cases starEach r env <;> exact ⟨_,rfl⟩
 rw [hl] at it ⊢;exact Calls.evalArgs_plain it
def yX {oa:Nat->Option Addr} {Go:Nat->Option Addr} {K:Option V->Gs->Prop} {E:Value->Shared->Prop} (hT:TgtOk fx.ρ fx.env x j) (I:Inv ⟨fx,oa,G⟩ s) (t:Tr ⟨fx,Go,G₀⟩ s₀ ⟨fx,oa,G⟩ s) (r:(Ct.mk fx oa G).rp s.heap v z) (hk:K none (G.set j (.v z))) :
  wpAny (model fx.g.prog fx.g.w) fx.A (do standAt p; bindName fx.env x v; pure Flow.next) (PostS ⟨fx,Go,G₀⟩ s₀ K) E s:=by
 refine (bSt (zC1 (wpAny_bindName (eB (Φ:=⟨fx,oa,G⟩) I hT.lk hT.nf (fun h' tk ps=>zC2 ?_) _))));have q:=i8 (Φ:=⟨fx,oa,G⟩) (tk:=tk) I ps r;exact .next (Φ:=⟨fx,Go,G₀⟩) q.1 (t.trans q.2) hk
def yH {j k f:Nat} {d1:Gs->DV} {q2:Gs->List (Expr×DV)} {es:List Expr} (hT:TgtOk fx.ρ fx.env x j) (hg:br fx.env.scope.names G9=true) (hf:fx.g.fns.lookup G9=some f) (Fw:keepIn fx.g.K (.ref (fx.g.fn f))=true) (Fe:fx.hm=true->fx.g.safe f=true)
  (hx:fx.ρ.lookup n=some k) (hn:aV n=true) (Es:(Ew.endLine==ppos.line)=true) (hp:aq e1=true) (h1:∀ oa G,Ev ⟨fx,oa,G⟩ (eval e1 fx.env) (d1 G)) (he:∀ G,(q2 G).map Prod.fst=es) (KC:∀ oa G,∀ q∈q2 G,aq q.1=true/\bj ⟨fx,oa,G⟩ q) :
  ExB fx (exec (.Assign [.Name x py] (.Call (.Name G9 fp) (e1 :: .Call (.Attribute (.Name n np) "pop" Ew) [] [] ppos :: es) [] cpos) Eo) fx.env) (fun G K=>d1 G fun x=>okK (bz G k) fun l=>l.length<=am/\okK l.getLast? fun y=>bv ((q2 (G.set k (.ownL l.dropLast))).map Prod.snd) fun zs=>ao fx.g.P fx.d f (x :: y :: zs) fun z=>noX z=true/\K none ((G.set k (.ownL l.dropLast)).set j (.v z))):=fun oa G K s hd I=>by
 rw [exec_Assign_Name _ _ _ _ _ (ch rfl)];refine (bSt (zC1 ?_));refine (?_:wpAny _ _ (eval (.Name G9 fp) fx.env >>= fun F=>callWith cpos F [] (backTo cpos (starEach (e1 :: .Call (.Attribute (.Name n np) "pop" Ew) [] [] ppos :: es) fx.env)) []) _ _ s);refine zC1 (bP (Φ:=⟨fx,oa,G⟩) I hg (I.ok.gr.fns G9 f hf) ?_ _);have Hu:(backTo cpos (starEach (e1 :: .Call (.Attribute (.Name n np) "pop" Ew) [] [] ppos :: es) fx.env)).any (·.1)=false:=by
  exact (he G)▸dC (b8 (qs:=(e1,d1 G) :: (.Call (.Attribute (.Name n np) "pop" Ew) [] [] ppos,d1 G) :: q2 G) (zA1 ⟨hp,zA1 ⟨rfl,fun q m=>(KC oa G q m).1⟩⟩))
 refine callWith_of (by rw [Hu]; rfl) (keeps_K Fw) (v8 hp ?_);refine xT (q1:=[(e1,d1 G)]) (K:=fun G' xs=>ao fx.g.P fx.d f xs fun z=>noX z=true/\K none (G'.set j (.v z))) hx hn Es (fun q m=>by obtain rfl:=zA6 m; exact ⟨hp,h1 oa G⟩) he KC hd I fun oa' G' vs xs s' I' t' hk rs=>⟨I'.frag,?_⟩;exact wpAny_mono (dE (Φ:=⟨fx,oa',G'⟩) Fe I' hk rs) (fun v Ee p=>by
  obtain ⟨⟨B,Ex,z,hz,r⟩,_⟩:=p;exact yX hT (I'.keep B Ex) (t'.trans (Tr.of_keeps Ex)) r hz) fun U U z=>z
end
section
variable {g:Gl} {bad:Addr->Prop} {h:Heap} {o:Obj} {ws:List Value} {j:Nat} {x:Str} {v:Value}
def vD (f:d6 g o ws) (nd:g.flds.Nodup) (hx:g.flds[j]?=some x) (hv:ws[j]?=some v):lookIn x o=some (some v):=by
 obtain ⟨_,es,n,hd,hw,hk⟩:=f;subst hw;replace hv:=(Q2)▸(getElem?_map)▸hv;obtain ⟨e,ee,rfl⟩:=map_eq_some_iff.mp hv;obtain ⟨y,t,hy,ek⟩:=hk j e ee;replace hy:=hx▸hy; (injection hy with hy; subst hy);unfold lookIn;rw [hd];dsimp only;cases hf:es.toList.find? (·.key.isStr x) with
 | none=>
  have:=List.find?_eq_none.mp hf e (mem_of_getElem? (Q2▸ee));rw [ek] at this;exact absurd (by simp [Value.isStr]) this
 | some e'=>
  have hm:=List.mem_of_find?_eq_some hf;have hs:=List.find?_some hf;obtain ⟨i,hi⟩:=getElem?_of_mem hm;replace hi:=(Q2)▸hi;obtain ⟨z,t',hz,Kl⟩:=hk i e' hi;replace hs:=Kl▸hs;have hzx:z=x:=by simpa [Value.isStr] using hs
  subst hzx;have:=(getElem?_inj (List.getElem?_eq_some_iff.mp hx).1 nd).mp (hx.trans hz.symm);subst this;replace hi:=ee▸hi; (injection hi with hi; subst hi); rfl
def tN (f:d6 g o ws) (hx:x∉g.flds):lookIn x o=some none:=by
 refine av fun Z4 HX=>?_;refine f.elim fun U GP=>GP.elim fun es IC=>IC.elim fun n MD=>MD.elim fun hd IB=>IB.elim fun hw hk=>?_;refine HX ?_;have key:∀ e∈es.toList,∃ y t,y∈g.flds/\e.key=.str y t:=fun e m=>by
  refine (getElem?_of_mem m).elim fun i hi=>?_;rw [Q2] at hi;refine (hk i e hi).elim fun z Iz=>Iz.elim fun t' MC=>MC.elim fun hz Kl=>?_;exact ⟨z,t',mem_of_getElem? hz,Kl⟩
 unfold lookIn;rw [hd];dsimp only;have hf:es.toList.find? (·.key.isStr x)=none:=List.find?_eq_none.mpr fun e m q=>by
  refine (key e m).elim fun y MB=>MB.elim fun t MA=>MA.elim fun hy ek=>?_;rw [ek] at q;have:y=x:=by simpa [Value.isStr] using q
  exact hx (this▸hy)
 have hr:es.toList.any (·.refKey)=false:=any_eq_false.mpr fun e m q=>by
  refine (key e m).elim fun y Mz=>Mz.elim fun t Iy=>Iy.elim fun hy ek=>?_;unfold DictEntry.refKey at q;rw [ek] at q; (injection q; done)
 rw [hf,hr]; rfl
def tS {y:V} (r:Rp g bad h v y):handedIn v=true:=by cases r <;> rfl
end
section
variable {Φ:Ct} {s:Shared} {v u:Value} {x y z:V} {d:DV}
def vg {C:Addr} {o:Obj} {nm:Str} (I:Inv Φ s):∃ cd,clsIn Φ.fx.g.K Φ.fx.g.C=some cd/\PySem.W.ownOf cd (some o) nm=lookIn nm o:=by
 refine (any_some I.ok.gr.cls.hdict).elim fun cd Ix=>Ix.elim fun hc hd=>?_;exact ⟨cd,hc,by unfold PySem.W.ownOf; rw [hd]; rfl⟩
def vQ {o:Obj} {ws:List Value} {j:Nat} {nm:Str} (I:Inv Φ s) (f:d6 Φ.fx.g o ws) (hx:Φ.fx.g.flds[j]?=some nm) (hv:ws[j]?=some v):findObj Φ.fx.g.K Φ.fx.g.C (some o) nm=some (.value v):=by
 refine (vg (C:=0) (o:=o) (nm:=nm) I).elim fun cd Iw=>Iw.elim fun hc ho=>?_;unfold findObj;rw [hc,bind_some,I.ok.gr.cls.flds nm (mem_of_getElem? hx),bind_some,bind_some,bind_some];refine (?_:(PySem.W.ownOf cd (some o) nm).bind _=_);rw [ho,vD f I.ok.gr.cls.nodup hx hv]; rfl
def yQ {e:Expr} {nm:Str} {j:Nat} {pos:Pos} (he:ci e=true) (hx:Φ.fx.g.flds[j]?=some nm) (h:Ev Φ (eval e Φ.fx.env) d) :
  Ev Φ (eval (.Attribute e nm pos) Φ.fx.env) (fun K=>d fun x=>okK (opN (.attr j) [x]) K):=fun K s hd I=>by
 rw [arm_eval_Attribute,bN he];refine h.bind hd I fun v x s₁ C' Ef Hq r=>bi ?_;refine ah Hq fun z ez kz E=>?_;cases x with
 | dict Eg=>
  refine bo (ez:(if qG Eg=true then (Eg[j]?).map (·.2) else none)=some z) fun GX ez=>?_;obtain ⟨p,hp,rfl⟩:=map_eq_some_iff.mp ez;refine r.inst_elim (C:=fun v=>wpAny _ _ (holding [v] (getAttr v nm true) >>= _) _ E s₁) GX fun a dd o ws nb nb' ha Fc hf U hl=>?_;have hz:(Eg.map (·.2))[j]?=some p.2:=by rw [getElem?_map,hp]; rfl
  obtain ⟨w,hw,rw'⟩:=hl.get hz;exact zC1 (wpAny_holding (get_value C'.frag ⟨ha,rfl,rfl,Fc⟩ C'.ok.gr.cls.hga (vQ C' hf hx hw) (tS rw') (zC1 (wpAny_letTemporaryGo (zC2 ⟨C'.base.grown (.toks _ _),.refl _,_,kz,rw'⟩)))))
 | _=>(injection ez; done)
def yM {e:Expr} {nm:Str} {f:Nat} {Ew pos:Pos} (he:ci e=true) (Es:(Ew.endLine==pos.line)=true) (H':nm∉Φ.fx.g.flds) (hf:findIn Φ.fx.g.K (.ref Φ.fx.g.C) nm=some (some (.ref (Φ.fx.g.fn f)))) (ht:typeIn Φ.fx.g.K (.ref (Φ.fx.g.fn f))=some (.type "function")) (hk:keepIn Φ.fx.g.K (.ref (Φ.fx.g.fn f))=true) (Fe:Φ.safe f) (h:Ev Φ (eval e Φ.fx.env) d) :
  EvC Φ (Φ.fx.g.newf f) (eval (.Call (.Attribute e nm Ew) [] [] pos) Φ.fx.env) (fun K=>d fun x=>iG x=true/\ao Φ.fx.g.P Φ.fx.d f [x] fun y=>noX y=true/\K y):=fun K s hd I=>by
 rw [arm_eval_Call,bN he];refine h.bindC hd I fun v x s₁ C' Ef hx r=>bi fun E=>?_;cases x with
 | dict Eg=>
  unfold methodCall;have r':=r;refine Rp.inst_elim (C:=fun v=>Φ.rp s₁.heap v (.dict Eg)->wpAny _ _ (holding [v] (calleeOf _ e Φ.fx.env v nm) >>= _) _ E s₁) r hx.1 (fun a dd o ws nb nb' ha Fc Fy U hl r'=>?_) r';refine zC1 (wpAny_holding (method_fn (od:=some o) C'.frag ⟨ha,rfl,rfl,Fc⟩ C'.ok.gr.cls.hga C'.ok.gr.cls.hgk hf ht (by refine (?_:(lookIn nm o).map _=_); rw [tN Fy H']; rfl) ?_));have hp:methodCallPos (methodCallForm ([]:List Expr).length (backTo pos (starEach [] Φ.fx.env)) (backToKw pos (keywordEach [] Φ.fx.env))) e Φ.fx.env Ew pos=pure pos:=by unfold methodCallPos; rw [Es,Bool.or_true]; rfl
  refine zC1 ?_;refine (?_:wpAny _ _ (methodCallPos (methodCallForm ([]:List Expr).length (backTo pos (starEach [] Φ.fx.env)) (backToKw pos (keywordEach [] Φ.fx.env))) e Φ.fx.env Ew pos) _ _ _);refine hp.symm▸?_;refine zC2 (callWith_of rfl (keeps_K hk) (PySem.evalArgs_none ⟨C'.frag,?_⟩));exact dE Fe C' hx.2 (.cons r' .nil)
 | _=>(injection hx.1; done)
end
section
variable {fx:Fx}
def gU {G:Gs} {k:Nat} {l:List V} (e:dX G k=some l):getSlot G k=.ownI l:=by
 unfold dX at e
 revert e
 cases getSlot G k with
 | ownI m=>exact fun e=>congrArg Slot.ownI (Option.some.inj e)
 | _=>exact fun e=>nN e.symm
def qo {Φ:Ct} {s:Shared} {E:Value->Shared->Prop} {b a:Addr} {o:Obj} {ws:List Value} {nm:Str} {v:Value} {Q:Unit->Shared->Prop} (I:Inv Φ s) (hb:s.heap.get? b=some (instObj Φ.fx.g.C a)) (ha:s.heap.get? a=some o) (hf:d6 Φ.fx.g o ws) (hx:Φ.fx.g.flds[ws.length]?=some nm)
  (h:∀ h' tk o',SameBut a s.heap h'->h'.get? a=some o'->d6 Φ.fx.g o' (ws++[v])->Q () { s with heap:=h',toks:=tk }):wpAny (model Φ.fx.g.prog Φ.fx.g.w) Φ.fx.A (setAttr (.ref b) nm v) Q E s:=by
 have ht:takerIn Φ.fx.g.K Φ.fx.g.C nm=some none:=by unfold takerIn; rw [I.ok.gr.cls.flds nm (mem_of_getElem? hx)]; rfl
 have IA:InstAt s.heap b (instObj Φ.fx.g.C a) Φ.fx.g.C (some o):=⟨hb,rfl,rfl,ha⟩;refine set_plain I.frag IA I.ok.gr.cls.hsa ?_;refine osa_open (s:={ s with toks:=s.toks+1 }) (od:=some o) I.frag ⟨hb,rfl,rfl,ha⟩ I.ok.gr.cls.over ht fun bb=>?_;obtain ⟨cd,hc,EN⟩:=any_some I.ok.gr.cls.hdict;refine (bPu (zC1 (zC1 (wpAny_loadPart hb (zC1 (Looks.here (s:={ s with toks:=s.toks+1 }) (looks_clsIn I.frag hc) ?_))))));refine EN.symm▸?_;refine wpAny_pure (a:=some a) ((bPu (zC1 ?_)))
 skip
 refine zC1 (zC1 (wpAny_askSetting (zC2 (zC1 (wpAny_mkText (zC1 (wpAny_loadPart ha ?_)))))));obtain ⟨Ff,es,n,hd,hw,hk⟩:=hf;have EB:es.size=ws.length:=by rw [<- hw,zA4,zB3]
 have key:∀ e∈es.toList,∃ y t,e.key=.str y t/\y≠nm:=fun e m=>by
  refine (getElem?_of_mem m).elim fun i hi=>?_;replace hi:=(Q2)▸hi;refine (hk i e hi).elim fun z Mt=>Mt.elim fun t' Ms=>Ms.elim fun hz Kl=>?_;refine ⟨z,t',Kl,fun q=>?_⟩;subst q;have:=(getElem?_inj (List.getElem?_eq_some_iff.mp hz).1 I.ok.gr.cls.nodup).mp (hz.trans hx.symm);have:=(Array.getElem?_eq_some_iff.mp hi).1;lia
 have na:es.toList.any (·.key.isStr nm)=false:=any_eq_false.mpr fun e m q=>by
  obtain ⟨y,t,ek,hy⟩:=key e m;rw [ek] at q;exact hy (by simpa [Value.isStr] using q)
 have nr:es.toList.any (·.refKey)=false:=any_eq_false.mpr fun e m q=>by
  obtain ⟨y,t,ek,hy⟩:=key e m;unfold DictEntry.refKey at q;rw [ek] at q; (injection q; done)
 rw [hd];dsimp only;rw [aRefKeyMayBeTheName_at,<- any_toList,<- any_toList,nr,Bool.and_false];refine wpAny_updatePart ha ?_;refine av fun Z19 Lk=>?_;obtain ⟨l⟩:=es;obtain ⟨oc,od,dat,sl⟩:=o;refine Lk ?_;subst hd;have pe:=putName_eq nm (keyHash Φ.fx.g.w.params nm) (.str nm (s.toks+1)) v oc od l n sl;rw [na,if_neg Bool.false_ne_true,show PySem.putIn (·.key.isStr nm) (fun e=>{ e with val:=v }) ⟨keyHash Φ.fx.g.w.params nm,.str nm (s.toks+1),v⟩ l=l++[⟨keyHash Φ.fx.g.w.params nm,.str nm (s.toks+1),v⟩] by unfold PySem.putIn; rw [List.findIdx?_eq_none_iff.mpr fun e m=>by simpa using any_eq_false.mp na e m]] at pe;have D':=get?_update_self (Obj.putName nm (keyHash Φ.fx.g.w.params nm) (.str nm (s.toks+1)) v) ha (by rw [pe]; rfl);rw [pe] at D';have Et:=(List.getElem?_eq_some_iff.mp hx).1;have LK:=I.ok.gr.cls.few;refine zC1 (wpAny_lookBehind D' (pastItsLine_dict (by rw [size_toArray,zB5,sizeLine_eq]; refine (?_:l.length+1<=_); have:l.length=ws.length:=EB; exact zB1 (add_le_add (zB1 (zB2 this) (zB1 (le_of_lt Et) LK)) (le_refl _)) (by decide))) ?_);refine zC2 (h _ _ _ (.update ..) D' ⟨⟨Ff.1,Ff.2.1,Ff.2.2⟩,_,_,rfl,?_,fun j e ee=>?_⟩)
 ·rw [map_append,hw]; rfl
 ·have ee:(l++[(⟨keyHash Φ.fx.g.w.params nm,.str nm (s.toks+1),v⟩:DictEntry)])[j]?=some e:=by simpa using ee
  rcases lt_or_ge j l.length with q | q
  ·rw [getElem?_append_left q] at ee; exact hk j e (by simpa using ee)
  ·replace ee:=(getElem?_append_right q)▸ee;have:j - l.length=0:=by have:=(List.getElem?_eq_some_iff.mp ee).1; rw [length_singleton] at this; exact le_antisymm (Q8 this) (zero_le _)
   replace ee:=this▸ee;(injection ee with ee; subst ee);have hl2:l.length=ws.length:=EB;exact ⟨nm,_,by rw [show j=ws.length by grind]; exact hx,rfl⟩
theorem uE.snoc {a:Addr} {ws:List Value} {l:List V} {v:Value} {x:V} (n:uE a ws l) (EB:ws.length=l.length) (h:∀ c m,v=.ref c->x=.list m->a < c):uE a (ws++[v]) (l++[x]):=fun j b m e1 e2=>by
 rcases lt_or_ge j ws.length with q | q
 ·replace e1:=(getElem?_append_left q)▸e1; replace e2:=(getElem?_append_left (EB▸q))▸e2; exact n j b m e1 e2
 ·replace e1:=(List.getElem?_singleton)▸(getElem?_append_right q)▸e1; rw [getElem?_append_right (EB▸q),List.getElem?_singleton] at e2;split at e1
  ·rename_i z; rw [if_pos (EB▸z)] at e2; exact h b m (Option.some.inj e1) (Option.some.inj e2)
  ·(injection e1; done)
def fH {n:Str} {k j:Nat} {np ap Eo:Pos} {nm:Str} {e:Expr} {d:Gs->DV} {K:Option V->Gs->Prop} {oa:Nat->Option Addr} {G:Gs} {s:Shared} (hx:fx.ρ.lookup n=some k) (hn:aV n=true) (F9:fx.g.flds[j]?=some nm) (hs:b0 e=true) (I:Inv ⟨fx,oa,G⟩ s)
  (h:(Ct.mk fx oa G).wp (eval e fx.env) (fun v s₁=>∃ x,Base fx.g s₁/\aI s.heap s₁.heap/\(Ct.mk fx oa G).rp s₁.heap v x/\(∀ m,x=.list m->lR s.heap v)/\okK (dX G k) fun l=>l.length=j/\K none (G.set k (.ownI (l++[x])))) s) :
  wpAny (model fx.g.prog fx.g.w) fx.A (exec (.Assign [.Attribute (.Name n np) nm ap] e Eo) fx.env) (PostS ⟨fx,oa,G⟩ s K) (PostX ⟨fx,oa,G⟩ s K) s:=by
 refine plainObj_wpAny_Assign_Attribute (wpAny_mono (h _) (fun v s₁ FA=>FA.elim fun x FM=>FM.elim fun B1 FL=>FL.elim fun k1 F0=>F0.elim fun r Gf=>Gf.elim fun nv Hq=>ah Hq fun l el It=>It.elim fun hj hk=>?_) fun U U z=>z) (ch hs);have I1:=I.keep B1 k1;obtain ⟨a,u,ha,pr,b,o,ws,rfl,eb,nb,hb,ho,hf,FH,hl⟩:=dW (Φ:=⟨fx,oa,G⟩) I (gU el) id;have HD:=k1.get hb fb;have JN:=k1.get ho (aG hf.1.1);refine bO (Φ:=⟨fx,oa,G⟩) I1.ok hx hn (pr.keep k1) ?_ _;refine qo (Φ:=⟨fx,oa,G⟩) I1 HD JN hf (hl.length.symm▸hj.symm▸F9) fun h' tk o' sb ED LL=>?_;have mk:cR (Ct.mk fx oa G).bad (Ct.mk fx oa G).bad s₁.heap h':=fun c o e U nc=>⟨nc,sb.extBut c o (fun q=>nc (.inr (.inr ⟨k,q▸ha⟩))) e⟩;have q:=Inv.mutate (Φ:=⟨fx,oa,G⟩) (sl:=.ownI (l++[x])) (tk:=tk) I1 ha (pr.keep k1) ⟨o,JN,aG hf.1.1⟩ sb ⟨_,ED⟩ ⟨b,o',ws++[v],rfl,eb,nb,(mk _ _ HD fb nb).2,ED,LL,FH.snoc hl.length fun c m e q=>nv m q c b e ⟨_,hb⟩,((hl.keep k1).map mk).append (.cons (r.map mk) .nil)⟩ (fun U q=>nomatch q) (fun q=>nomatch q) fun U=>by refine (?_:isI (getSlot G k)); rw [gU el]; trivial
 exact .next (Φ:=⟨fx,oa,G⟩) q.1 ((Tr.of_keeps k1).trans q.2) hk
def qP {n:Str} {k j:Nat} {np ap Eo:Pos} {nm:Str} {e:Expr} {d:Gs->DV} (hx:fx.ρ.lookup n=some k) (hn:aV n=true) (F9:fx.g.flds[j]?=some nm) (hs:b0 e=true) (h:∀ oa G,Ev ⟨fx,oa,G⟩ (eval e fx.env) (d G)) :
  ExB fx (exec (.Assign [.Attribute (.Name n np) nm ap] e Eo) fx.env) (fun G K=>d G fun x=>kK x=false/\okK (dX G k) fun l=>l.length=j/\K none (G.set k (.ownI (l++[x])))):=fun oa G K s hd I=>
 fH (d:=d) hx hn F9 hs I fun E=>wpAny_mono (h oa G _ s hd I E) (fun v s₁ ⟨B,k,x,hx,r⟩=>⟨x,B,k,r,(fun m e=>by subst e; (injection hx.1; done)),hx.2⟩) fun U U z=>z
def oA {n:Str} {k j:Nat} {np ap Eo:Pos} {nm:Str} {e:Expr} {d:Gs->DV} (hx:fx.ρ.lookup n=some k) (hn:aV n=true) (F9:fx.g.flds[j]?=some nm) (hs:b0 e=true) (h:∀ oa G,EvN ⟨fx,oa,G⟩ (eval e fx.env) (d G)) :
  ExB fx (exec (.Assign [.Attribute (.Name n np) nm ap] e Eo) fx.env) (fun G K=>d G fun x=>okK (dX G k) fun l=>l.length=j/\K none (G.set k (.ownI (l++[x])))):=fun oa G K s hd I=>
 fH (d:=d) hx hn F9 hs I fun E=>wpAny_mono (h oa G _ s hd I E) (fun v s₁ ⟨⟨B,k,x,hx,r⟩,n⟩=>⟨x,B,k,r,fun U U=>n,hx⟩) fun U U z=>z
end
structure Noted (F:List Addr) (lo:Heap) (h h':Heap):Prop where
 low:∀ b o,h.get? b=some o->aW lo b->(∃ sl,h'.get? b=some { o with slots:=sl })/\(b∉F->h'.get? b=some o)
 data:∀ b o,h.get? b=some o->(∀ vs,o.data≠.fields vs)->(∃ sl,h'.get? b=some { o with slots:=sl })/\(b∉F->h'.get? b=some o)
 live:∀ b,aW h b->aW h' b
theorem Noted.refl (F:List Addr) (lo:Heap) (h:Heap):Noted F lo h h:=⟨fun U o e U=>⟨⟨o.slots,e⟩,fun U=>e⟩,fun U o e U=>⟨⟨o.slots,e⟩,fun U=>e⟩,fun U l=>l⟩
theorem Noted.trans {F:List Addr} {lo:Heap} {Ej Ez Em:Heap} (x:Noted F lo Ej Ez) (y:Noted F lo Ez Em):Noted F lo Ej Em where
 low:=fun b o e hb=>by
  obtain ⟨⟨sl,E0⟩,f₁⟩:=x.low b o e hb;obtain ⟨⟨II,FK⟩,f₂⟩:=y.low b _ E0 hb;exact ⟨⟨II,FK⟩,fun hF=>(y.low b _ (f₁ hF) hb).2 hF⟩
 data:=fun b o e hd=>by
  obtain ⟨⟨sl,E0⟩,f₁⟩:=x.data b o e hd;obtain ⟨⟨II,FK⟩,f₂⟩:=y.data b _ E0 hd;exact ⟨⟨II,FK⟩,fun hF=>(y.data b _ (f₁ hF) hd).2 hF⟩
 live:=fun b l=>y.live b (x.live b l)
theorem Noted.frames {F:List Addr} {lo h h' base:Heap} {l:List Env} (x:Noted F lo h h') (f:h.FunFrames base l):h'.FunFrames base l:=
 f.of_keeps fun b o ho hd=>by obtain ⟨⟨sl,e⟩,_⟩:=x.data b o ho hd; exact ⟨_,e,rfl⟩
theorem Noted.le {F:List Addr} {lo Jk:Heap} {h h':Heap} (x:Noted F lo h h') (q:∀ b,aW Jk b->aW lo b):Noted F Jk h h':=⟨fun b o e hb=>x.low b o e (q b hb),x.data,x.live⟩
noncomputable def be (l:List Env):List Addr:=l.filterMap (·.frame)
section
variable {M:Model} {A:Around} {E:Value->Shared->Prop} {s:Shared} {base:Heap} {env:Env} {Ep:List Env} {L e:Addr} {lo:Heap} {cls:Value}
def d9 (ho:h.get? a=some o) (hd:o.data=.fields vs) (Fj:lo.get? a=none) (f:Array Value->Array Value):Noted F lo h (h.update a (mapFields f)) where
 low:=fun b ob eb hb=>by
  have:(h.update a (mapFields f)).get? b=some ob:=(get?_update_ne _ _ _ _ (by intro q; subst q; obtain ⟨_,hb⟩:=hb; replace hb:=Fj▸hb; (injection hb; done))).trans eb;exact ⟨⟨ob.slots,this⟩,fun U=>this⟩
 data:=fun b ob eb hn=>by
  have:(h.update a (mapFields f)).get? b=some ob:=(get?_update_ne _ _ _ _ (by intro q; subst q; replace eb:=ho▸eb; (injection eb with eb; subst eb); exact hn vs hd)).trans eb;exact ⟨⟨ob.slots,this⟩,fun U=>this⟩
 live:=fun b ⟨ob,eb⟩=>by
  by_cases q:b=a
  ·subst q;exact ⟨_,get?_update_self _ ho (isFreed_of_fields (data_mapFields hd f))⟩
  ·exact ⟨ob,(get?_update_ne _ _ _ _ q).trans eb⟩
def qv (o:Obj):Noted F lo h (h.push o) where
 low:=fun b ob eb U=>⟨⟨ob.slots,Q4 _ eb⟩,fun U=>Q4 _ eb⟩
 data:=fun b ob eb U=>⟨⟨ob.slots,Q4 _ eb⟩,fun U=>Q4 _ eb⟩
 live:=fun b ⟨ob,eb⟩=>⟨ob,Q4 _ eb⟩
def oq (x:Heap.SlotsOnly F h h'):Noted F lo h h' where
 low:=fun b ob eb U=>⟨x.2.2 b ob eb,fun hF=>(x.2.1 b hF).trans eb⟩
 data:=fun b ob eb U=>⟨x.2.2 b ob eb,fun hF=>(x.2.1 b hF).trans eb⟩
 live:=fun b ⟨ob,eb⟩=>let ⟨_,e⟩:=x.2.2 b ob eb; ⟨_,e⟩
def pE
  (FW:A.frames=some (env :: Ep)) (hl:s.heap.FunFrames base (env :: Ep)) (hf:env.frame=some L) (Fj:∀ b,aW lo b->aW s.heap b)
  (he:s.heap.get? e=some oe) (hc:oe.cls=cls) (Gj:oe.dict=none) (hd:oe.data=.fields vs) (EH:lo.get? e=none) (hsz:1 < vs.size)
  (h:∀ h',Noted (be (env :: Ep)) lo s.heap h'->ExcAt h' lo e cls (rawInt L)->Q () { s with heap:=h' }) :
  wpAny M A (do let a <- frameOf env; let pl <- entryPlaceOf L hadNext; let b <- EntryCells.newEntry head a .none (rawInt L) .none pl; setField (.ref e) 1 b) Q E s:=by
 have LM:e∉(env :: Ep).filterMap (·.frame):=fun hm=>by
  obtain ⟨_,o,ho,H'⟩:=hl.mem hm;rw [he] at ho; injection ho with ho; subst ho; exact H' vs hd
 refine zC1 (wpAny_frameOf_fun FW hl hf fun Ej Ey=>?_);refine zC1 (wpAny_entryPlaceOf fun pl Hu=>?_)
 skip
 refine zC1 (wpAny_newObj_type ?_ (Hu.sizeOk5 _ _ _ _ _));have Hy:Ej.get? e=some oe:=(Ey.2.1 e LM).trans he;have GF:=Q4 (h:=Ej) { cls:=.type "traceback",dict:=none,data:=.fields ([head,.ref L,.none,rawInt L,.none]++(if pl.isEmpty then replicate 6 Value.none else pl)).toArray } Hy;refine wpAny_setField GF hd hsz (h _ ?_ ?_)
 ·exact ((oq Ey).trans (qv _)).trans (d9 GF hd EH _)
 ·have Ig:Ej.objs.size≠e:=ne_of_gt (lt_size Hy);have Hz:=data_mapFields hd (·.setIfInBounds 1 (Value.ref Ej.objs.size));have J8:=get?_update_self (mapFields (·.setIfInBounds 1 (Value.ref Ej.objs.size))) GF (isFreed_of_fields Hz);have Ke:=(get?_update_other (Ej.push { cls:=.type "traceback",dict:=none,data:=.fields ([head,.ref L,.none,rawInt L,.none]++(if pl.isEmpty then replicate 6 Value.none else pl)).toArray })
   (mapFields (·.setIfInBounds 1 (Value.ref Ej.objs.size))) (Ne.symm Ig)).trans (Q7 Ej rfl)
  refine ⟨_,_,J8,(Obj.cls_mapFields _ _).trans hc,?_,Hz,EH,by simpa using hsz,.inr ⟨Ej.objs.size,_,_,by simp [hsz],Ig,by rw [Ey.1]; exact aR (Fj _) (ak _),Ke,rfl,?_⟩⟩
  ·obtain ⟨c,d,dt,sl⟩:=oe; simp only at hd Gj; subst hd; exact Gj
  ·first | (simp; done) | (rcases Hu with rfl | ⟨_,_,_,_,_,_,_,rfl⟩ <;> simp)
def sw (FW:A.frames=some (env :: Ep)) (hl:s.heap.FunFrames base (env :: Ep)) (hf:env.frame=some L) (Fj:∀ b,aW lo b->aW s.heap b) (x:ExcAt s.heap lo e cls .none)
  (h:∀ h',Noted (be (env :: Ep)) lo s.heap h'->ExcAt h' lo e cls (rawInt L)->Q () { s with heap:=h' }):wpAny M A (noteFrame (.ref e) env) Q E s:=by
 obtain ⟨oe,vs,he,hc,Gj,hd,EH,hsz,hh⟩:=x;unfold noteFrame;simp only [hf];rcases hh with h1 | ⟨T,oT,ts,h1,Ig,hlT,hT,hdT,h3⟩
 ·refine (bFi he hd h1 ?_);refine bu (by decide) ?_;exact pE FW hl hf Fj he hc Gj hd EH hsz h
 ·refine (bFi he hd h1 ?_);refine dO (show (Value.ref T != Value.none)=true from by simp) ?_;refine (bFi hT hdT h3 ?_);refine bu ((by simp [rawInt]):¬ ((Value.none==rawInt L)=true)) ?_;refine zC1 (wpAny_setField hT hdT (Array.getElem?_eq_some_iff.mp h3).1 ?_);have w:=d9 (F:=be (env :: Ep)) (lo:=lo) hT hdT hlT (·.setIfInBounds 3 Value.none);exact pE (s:={ s with heap:=_ }) FW (w.frames hl) hf (fun b l=>w.live b (Fj b l)) ((get?_update_ne _ _ _ _ (Ne.symm Ig)).trans he) hc Gj hd EH hsz
   fun h' n x=>h h' (w.trans n) x
def hJ (x:ExcAt s.heap lo e cls fl)
  (h:∀ h',Noted F lo s.heap h'->ExcAt h' lo e cls .none->Q () { s with heap:=h' }):wpAny M A (setFlight (.ref e) none) Q E s:=by
 refine av fun Z8 HW=>?_;obtain ⟨oe,vs,he,hc,Gj,hd,EH,hsz,hh⟩:=x;refine HW ?_;unfold setFlight;rcases hh with h1 | ⟨T,oT,ts,h1,Ig,hlT,hT,hdT,h3⟩
 ·refine (bFi he hd h1 ?_);refine bu (by decide) ?_;exact zC2 (h s.heap (.refl _ _ _) ⟨oe,vs,he,hc,Gj,hd,EH,hsz,.inl h1⟩)
 ·refine (bFi he hd h1 ?_);refine dO (show (Value.ref T != Value.none)=true from by simp) ?_;have Ju:3 < ts.size:=(Array.getElem?_eq_some_iff.mp h3).1;refine wpAny_setField hT hdT Ju (h _ (d9 hT hdT hlT _) ?_);exact ⟨oe,vs,(get?_update_ne _ _ _ _ (Ne.symm Ig)).trans he,hc,Gj,hd,EH,hsz,.inr ⟨T,_,_,h1,Ig,hlT,get?_update_self _ hT (isFreed_of_fields (data_mapFields hdT _)),data_mapFields hdT _,by simp [Ju]⟩⟩
def qA (FW:A.frames=some (env :: Ep)) (hl:s.heap.FunFrames base (env :: Ep)) (hf:env.frame=some L) (Fj:∀ b,aW lo b->aW s.heap b) (x:ExcAt s.heap lo e cls .none)
  (h:∀ h',Noted (be (env :: Ep)) lo s.heap h'->ExcAt h' lo e cls .none->Q () { s with heap:=h' }):wpAny M A (leaving env (.ref e)) Q E s:=by
 unfold leaving;exact zC1 (sw FW hl hf Fj x fun Ej La KZ=>hJ (s:={ s with heap:=Ej }) KZ fun Ez G4 HM=>h Ez (La.trans G4) HM)
end
section
variable {g:Gl} {A:Around} {s s₁:Shared} {h':Heap} {F:List Addr}
theorem gR.funs:∀ {l:List Env},gR h0 h l->h.FunFrames h0 l
 | [],_=>trivial
 | env :: l,f=>by
  obtain ⟨hk,L,o,hf,hn,ho,hc,hd⟩:=f env (.head _);exact ⟨hk,⟨L,o,hf,hn,ho,hd⟩,gR.funs fun e m=>f e (.tail _ m)⟩
theorem gR.frame (f:gR h0 h l) (m:b∈be l):h0.get? b=none/\∃ o,h.get? b=some o/\o.cls=.type "frame":=by
 refine av fun Z11 Lp=>?_;obtain ⟨env,me,e⟩:=mem_filterMap.mp m;obtain ⟨_,L,o,hf,hn,ho,hc,_⟩:=f env me;refine Lp ?_;obtain rfl:=Option.some.inj (hf.symm.trans e);exact ⟨hn,o,ho,hc⟩
def oY (k:bF s₁.heap b o) (lo:aW s.heap b) (f:gR g.h0 s₁.heap l) (n:Noted (be l) s.heap s₁.heap h'):bF h' b o:=k.step fun K9 E0=>by
 obtain ⟨⟨sl,FK⟩,q⟩:=n.low b K9 E0 lo;refine ⟨sl,FK,fun nf=>?_⟩;have:=q fun m=>by obtain ⟨_,o',e',c'⟩:=f.frame m; replace e':=E0▸e'; (injection e' with e'; subst e'); exact nf c'
 rw [FK] at this;exact congrArg Obj.slots (Option.some.inj this)
def eg (k:aI s.heap s₁.heap) (f:gR g.h0 s₁.heap l) (n:Noted (be l) s.heap s₁.heap h'):aI s.heap h':=fun b o e=>oY (k b o e) ⟨o,e⟩ f n
def dI (MQ:Base g s) (B:Base g s₁) (f:gR g.h0 s₁.heap l) (n:Noted (be l) s.heap s₁.heap h'):Base g { s₁ with heap:=h' }:=
 ⟨fun b o e=>(n.low b o (B.stays b o e) ⟨o,MQ.stays b o e⟩).2 (fun m=>by have:=(f.frame m).1; replace this:=e▸this; (injection this; done)),B.os,B.gens⟩
end
section
variable {fx:Fx} {Φ:Ct} {s s₁:Shared}
structure FxTop (fx:Fx):Prop where
 top:∃ Ep L,fx.A.frames=some (fx.env :: Ep)/\fx.env.frame=some L
def vq (h:noX y=true):mL y=none:=isNone_iff_eq_none.mp h
def gq (ok:FxOk fx) (hn:fx.ρ.lookup n=some k) (FH:fx.env.kindOf n=some .local):fx.pl k=.ns fx.env.locals n:=by
 rcases ok.vis n k hn with ⟨_,hp⟩ | ⟨q,_⟩
 ·exact hp
 ·rcases q with q | q <;> rw [FH] at q <;> cases q
def uQ [Hm Φ.fx] {oa':Nat->Option Addr} {Q:Unit->Shared->Prop} {E:Value->Shared->Prop} {K:Option V->Gs->Prop} (ok:FxOk Φ.fx) (hn:Φ.fx.ρ.lookup n=some k) (FH:Φ.fx.env.kindOf n=some .local)
  (Hv:∃ m,s₁.heap.Ns Φ.fx.env.locals m) (h0:Φ.fx.g.h0.get? Φ.fx.env.locals=none) (B:Base Φ.fx.g s₁) (t:Tr Φ s (Φ.wi oa' G') s₁) (nx:noX x=true) (rp:(Φ.wi oa' G').rp s₁.heap v x) (nv:Φ.fx.nw=true->lR s.heap v) (hk:K (some x) (G'.set k .unset)) (hu:isI (getSlot (G'.set k .unset) k)->False)
  (hQ:∀ s',PostS Φ s K (.ret v) s'->Q () s'):wpAny (model Φ.fx.g.prog Φ.fx.g.w) A (do bindName Φ.fx.env n .none; unbindBehindTheSuite Φ.fx.env n hpos) Q E s₁:=by
 obtain ⟨m,hm⟩:=Hv;have hp:=gq ok hn FH;refine wpAny_nameGoes FH hm (by rw [ok.kind]; rfl) fun F7 m₇ JO F4=>hQ _ ?_;have Fb:(Φ.wi oa' G').own Φ.fx.env.locals:=.inl ⟨k,by refine (?_:(Φ.fx.pl k).addr=_); rw [hp]; rfl⟩;have JI:Φ.own Φ.fx.env.locals:=.inl ⟨k,by rw [hp]; rfl⟩;have kp:∀ b o,b≠Φ.fx.env.locals->s₁.heap.get? b=some o->F7.get? b=some o:=fun b o q e=>F4.extBut b o q e;refine ⟨oa',G'.set k .unset,some x,fun q=>q.elim nofun fun q=>(nomatch (Hm.no (fx:=Φ.fx)).symm.trans q),⟨fun b o e=>kp b o (fun q=>ay h0 (q▸e)) (B.stays b o e),B.os,B.gens⟩,⟨rfl,fun b o e nb=>(t.keep b o e nb).step fun o' e'=>.of (kp b o' (fun q=>nb (q▸JI)) e'),fun b l=>?_,t.grow,fun j a e q=>?_⟩,⟨nx,v,rfl,rp.map fun b o e U nb=>⟨nb,kp b o (fun q=>nb (.inr (q▸Fb))) e⟩,nv⟩,hk⟩
 ·obtain ⟨o,e⟩:=t.live b l;by_cases q:b=Φ.fx.env.locals
  ·subst q; obtain ⟨o',_,_,e',_⟩:=JO; exact ⟨o',e'⟩
  ·exact ⟨o,kp b o q e⟩
 ·by_cases z:j=k
  ·subst z; exact (hu q).elim
  ·have q:isI (getSlot (G'.set k .unset) j):=q;rw [cI z] at q;exact t.inst j a e q
theorem Inv.mark (I:Inv ⟨fx,oa,G⟩ s) (e:Value):Inv ⟨{ fx with A:=fx.A.mark (some e),hm:=true },oa,G⟩ s:=
 ⟨⟨I.ok.gr,nofun,I.ok.kind,I.ok.globals,I.ok.builtins,I.ok.vis,I.ok.inj,I.ok.apart,I.ok.offs,I.ok.nfs,I.ok.room,I.ok.units,I.ok.call,I.ok.mo0⟩,I.base,I.slot,I.new,I.inj,I.off,I.gl,I.mo,I.fr⟩
theorem Tr.unmark (t:Tr ⟨{ fx with A:=A,hm:=true },oa,G⟩ s ⟨{ fx with A:=A,hm:=true },oa',G'⟩ s₁):Tr ⟨fx,oa,G⟩ s ⟨fx,oa',G'⟩ s₁:=⟨rfl,t.keep,t.live,t.grow,t.inst⟩
def raised (top:FxTop fx) (I:Inv ⟨fx,oa,G⟩ s) (C':Inv ⟨fx,oa,G⟩ s₁) (Ef:aI s.heap s₁.heap) (xa:ExcAt s₁.heap s.heap e (.ref (fx.g.cls d)) .none)
  (h:∀ Em fl,aI s.heap Em->Base fx.g { s₁ with heap:=Em }->ExcAt Em s.heap e (.ref (fx.g.cls d)) fl->wpAny (model fx.g.prog fx.g.w) fx.A (handleBy (.ref e) fx.env hs) Q X { s₁ with heap:=Em }) :
  wpAny (model fx.g.prog fx.g.w) fx.A (noteFrame (.ref e) fx.env) (fun U Ee=>wpAny (model fx.g.prog fx.g.w) fx.A (setFlight (.ref e) none) (fun U EO=>wpAny (model fx.g.prog fx.g.w) fx.A (handleBy (.ref e) fx.env hs) Q X EO) X Ee) X s₁:=by
 obtain ⟨Ep,L,FW,hL⟩:=top.top;have fr:=C'.fr.of FW;refine sw (lo:=s.heap) FW fr.funs hL (fun b l=>Ef.live l) xa fun Ez G4 HM=>?_;have Ex:=eg Ef fr G4;have Kv:=dI I.base C'.base fr G4;have Eu:Inv ⟨fx,oa,G⟩ { s₁ with heap:=Ez }:=I.keep Kv Ex;refine hJ (s:={ s₁ with heap:=Ez }) (F:=be (fx.env :: Ep)) HM fun Em Jb Gk=>?_;have HH:=Eu.fr.of FW;exact h Em _ (eg (s:=s) (s₁:={ s₁ with heap:=Ez }) Ex HH Jb) (dI (s₁:={ s₁ with heap:=Ez }) I.base Kv HH Jb) Gk
def yC [Hm fx] {qs:Gs->List (Expr×DV)} (top:FxTop fx) (J9:∀ G,(qs G).map Prod.fst=es) (hx:br fx.env.scope.names G9=true) (hf:fx.g.fns.lookup G9=some f) (Fw:keepIn fx.g.K (.ref (fx.g.fn f))=true)
  (Fi:fx.nw=false) (hC:br fx.env.scope.names C=true) (Kf:fx.g.clss.lookup C=some c) (hn:fx.ρ.lookup n=some k) (FH:fx.env.kindOf n=some .local) (EA:FJ≠[])
  (hq:∀ oa G,∀ q∈qs G,aq q.1=true/\bj ⟨fx,oa,G⟩ q) (hh:∀ A,A.frames=fx.A.frames->A.depth=fx.A.depth->A.units=fx.A.units->ExB { fx with A:=A,hm:=true } (execs FJ fx.env) X) :
  ExB fx (exec (.Try [.Return (some (.Call (.Name G9 fp) es [] cpos)) rpos] [.ExceptHandler (some (.Name C np)) (some n) FJ hpos] [] [] pos) fx.env) (fun G K=>bv ((qs G).map Prod.snd) fun xs=>ao fx.g.P fx.d f xs fun y=>match mL y with
   | none=>K (some y) G
   | some d=>fx.g.P.sup d c=true/\X (G.set k (.v y)) fun fl G'=>(match fl with | some x=>noX x=true | none=>False)/\K fl (G'.set k .unset)):=fun oa G K s hd I=>by
 obtain ⟨Ep,L,FW,hL⟩:=top.top;cases FJ with
 | nil=>exact absurd rfl EA
 | cons b₀ hbody'=>
 refine wpAny_Try_except (wpAny_execs_cons ?_);rw [exec_Return_some,<- J9 G];refine (bSt (zC1 (mX (Φ:=⟨fx,oa,G⟩) hx hf Fw (fun q=>nomatch (Hm.no (fx:=fx)).symm.trans q) (hq oa G) hd I (fun v s' y I' k hy nx r nv=>zC2 ?_) fun s₁ d e C' Ef HA hy xa=>?_)))
 ·rw [vq nx] at hy;exact ⟨oa,G,some y,fun U=>I',I'.base,.of_keeps k,⟨nx,v,rfl,r,fun q=>nomatch Fi.symm.trans q⟩,hy⟩
 have hy:fx.g.P.sup d c=true/\X (G.set k (.v (fK d))) fun fl G'=>(match fl with | some x=>noX x=true | none=>False)/\K fl (G'.set k .unset):=hy;refine raised top I C' Ef xa fun Em fl Ft Hg Gk=>?_;have FN:Inv ⟨fx,oa,G⟩ { s₁ with heap:=Em }:=I.keep Hg Ft;refine wpAny_handleBy_cons (codeAny_handlers_test ?_) nofun;have Ka:=I.ok.gr.clss C c Kf;refine bP (Φ:=⟨{ fx with A:=fx.A.mark (some (.ref e)),hm:=true },oa,G⟩) (FN.mark _) hC Ka.2 ?_ _;refine Gk.el fun oe vs he FB U U U=>(hy.1▸I.ok.gr.catches d c HA Ka.1:m6 fx.g d c true) _ _ _ _ e oe Hg.stays he FB ?_;clear he FB;refine (?_:codeAny _ _ _ _ _);refine codeAny_handlers_suite_as (hJ (s:={ s₁ with heap:=Em }) (F:=be (fx.env :: Ep)) Gk fun FT HT KY=>?_);have GN:=FN.fr.of FW;have HV:=eg (s:=s) (s₁:={ s₁ with heap:=Em }) Ft GN HT;have MP:=dI (s₁:={ s₁ with heap:=Em }) I.base Hg GN HT;have MN:Inv ⟨fx,oa,G⟩ { s₁ with heap:=FT }:=I.keep MP HV;have Ih:=MN.mark (.ref e);clear HT Gk Ft Hg FN GN;refine eB (Φ:=⟨{ fx with A:=fx.A.mark (some (.ref e)),hm:=true },oa,G⟩) Ih hn (fun q=>nomatch (show fx.env.kindOf n=some .free from q).symm.trans FH) (fun Fa tk ps=>?_) _;obtain ⟨ML,IT⟩:=KY.el fun oe vs he FB Gj LN EX=>i8 (tk:=tk) Ih ps (.exc HA (fun q=>(I.badLive (Φ:=⟨fx,oa,G⟩) q).elim fun o e=>ay EX e) he ⟨FB,Gj⟩ LN);refine wpAny_mono (hh (fx.A.mark (some (.ref e))) rfl rfl rfl _ _ _ _ hy.2 ML) (fun fl Fh p=>?_) fun v Fh p=>?_
 ·refine av fun Z kZ=>?_;obtain ⟨Hj,IH,fl,Hf,MO,K2,JZ,hk⟩:=p;cases fl with
  | none=>exact hk.1.elim
  | some x=>
   obtain ⟨nx,v,ef,rv,nv⟩:=JZ;refine kZ ?_;subst ef;have Hf:=Hf (.inr rfl);have tt:Tr ⟨fx,oa,G⟩ s ⟨fx,Hj,IH⟩ Fh:=(Tr.of_keeps HV).trans ((Tr.unmark (oa':=fun j=>if j=k then none else oa j) (G':=G.set k (.v (fK d))) IT).trans (Tr.unmark K2));have Hv:∃ m,Fh.heap.Ns fx.env.locals m:=by
    obtain ⟨u,pr,_⟩:=Hf.slot k;exact ((gq I.ok hn FH▸pr:bf Fh.heap (.ns fx.env.locals n) u)).imp fun U z=>z.1
   have Lz:(Ct.mk fx oa G).own fx.env.locals:=.inl ⟨k,by refine (?_:(fx.pl k).addr=_); rw [gq I.ok hn FH]; rfl⟩;refine uQ (Φ:=⟨fx,oa,G⟩) (K:=K) (oa':=Hj) (G':=IH) I.ok hn FH Hv (I.new _ Lz).2.1 MO tt nx rv (fun q=>(nv q).le fun b l=>IT.live b (HV.live l)) hk.2 (fun q=>?_) fun s' p=>p;rw [bV (show k < IH.length by rw [Hf.gl]; exact Q0 (lt_of_not_le fun z=>by have:=gq I.ok hn FH; rw [I.ok.offs k z] at this; (injection this; done)) I.ok.nfs)] at q;exact q
 ·obtain ⟨_,_,_,_,_,_,_,_,_,hk⟩:=p;exact nB hk.1
end
def tZ (e:mL x=some c):∃ i:Int,x=.dict [(.int i,.none)]/\i.toNat=c:=by
 revert e
 cases x with
 | dict Eg=>cases Eg with
  | nil=>exact fun e=>nN e.symm
  | cons p r=>
   obtain ⟨a,b⟩:=p;cases a with
   | int i=>cases b with
    | none=>cases r with
     | nil=>exact fun e=>⟨i,rfl,Option.some.inj e⟩
     | cons=>exact fun e=>nN e.symm
    | _=>exact fun e=>nN e.symm
   | _=>exact fun e=>nN e.symm
 | _=>exact fun e=>nN e.symm
theorem yt {prog:Program} {w:World} {A:Around} {E:Value->Shared->Prop} {s:Shared} {x D:Addr} {ox:Obj} {od:Option Obj} {Q:Value->Shared->Prop} (I:InstAt s.heap x ox D od) (h:Q (.bool true) s):wpAny (model prog w) A (call (.builtin "isinstance") [.ref x,.ref D]) Q E s:=by
 refine call_isinstance (S:=fun U R s=>InstAt s.heap x ox D od/\R (.ok (.ret (.bool true))) s) (fun prog w A R s hs=>isinstance_outer ?_ (by intro q; (injection q; done))) ⟨I,h⟩;obtain ⟨I,h⟩:=hs;obtain ⟨h0,g,d,tt,os⟩:=s;have L0:=I.type (M:=model prog w)
 skip
 refine zC1 (L0.at ?_);refine dO (beq_self_eq_true _) ?_;refine (bRu ?_);first
  | exact wpAny_pure h
  | exact zC2 (wpAny_pure h)
  | (refine zC1 ?_; exact zC2 (wpAny_pure h))
section
variable {Φ:Ct} {s:Shared} {v u:Value} {x y z:V} {d:DV}
def vW {c:Nat} {tb:List Bool} (hx:br Φ.fx.env.scope.names "isinstance"=true) (hy:br Φ.fx.env.scope.names C=true) (hp:aq q.1=true) (hC:Φ.fx.g.clss.lookup C=some c\/(C="ValueError"/\c=Φ.fx.g.nc)) (ht:∀ e,e < Φ.fx.g.nc->tb[e]?=some (Φ.fx.g.P.sup e c)) (h:bj Φ q) :
  Ev Φ (eval (.Call (.Name "isinstance" fp) [q.1,.Name C pT] [] pos) Φ.fx.env) (fun K=>q.2 fun x=>okK ((mL x).bind fun e=>tb[e]?) fun b=>K (.bool b)):=fun K s hd I E=>by
 refine (?_:wpAny _ _ (eval (.Name "isinstance" fp) Φ.fx.env >>= fun F=>callWith pos F [] (backTo pos (starEach [q.1,.Name C pT] Φ.fx.env)) []) _ _ s);refine zC1 (bH (v:=.builtin "isinstance") I hx rfl ?_ E);refine (aJ hp).symm▸?_;refine callWith_builtin rfl (Calls.evalArgs_plain ?_);have q':spliced (backTo pos ((false,eval q.1 Φ.fx.env) :: starEach [.Name C pT] Φ.fx.env))=(eval q.1 Φ.fx.env >>= fun v=>holding [v] (eval (.Name C pT) Φ.fx.env >>= fun u=>holding [u] (pure []) >>= fun vs=>pure (u :: vs)) >>= fun vs=>pure (v :: vs)):=rfl;refine (?_:wpAny _ _ (spliced (backTo pos ((false,eval q.1 Φ.fx.env) :: starEach [.Name C pT] Φ.fx.env))) _ _ _);refine q'.symm▸?_;refine zC1 (wpAny_mono (h _ s hd I E) (fun v s₁ ⟨B,k,x,hx,r⟩=>?_) fun U U z=>z);have C':=I.keep B k;have KM:c<=Φ.fx.g.nc:=hC.elim (fun e=>le_of_lt (I.ok.gr.clss C c e).1) fun e=>zB2 e.2;have Je:∀ Q:Value->Shared->Prop,Q (iJ Φ.fx.g c) s₁->wpAny (model Φ.fx.g.prog Φ.fx.g.w) Φ.fx.A (eval (.Name C pT) Φ.fx.env) Q E s₁:=fun Q hQ=>by
  rcases hC with e | ⟨rfl,e⟩
  ·obtain ⟨Et,hm⟩:=I.ok.gr.clss C c e;unfold iJ at hQ;rw [if_neg (ne_of_lt Et)] at hQ;exact bP C' hy hm hQ E
  ·unfold iJ at hQ;rw [if_pos e] at hQ;exact bH C' hy rfl hQ E
 refine zC1 (wpAny_holding (zC1 (Je _ ?_)));refine zC1 (wpAny_holding (zC2 (zC2 (zC2 ?_))));refine ah hx fun b e kb=>?_;obtain ⟨c',e',eb⟩:=bind_eq_some_iff.mp e;obtain ⟨i,rfl,rfl⟩:=tZ e';cases r with
 | inst _ _ _ _ _ _ q=>(injection q; done)
 | dict _ _ _ _ _ he=>exact absurd he.1 nofun
 | exc hn nb ha hc hd=>
  have eb:=(ht _ hn).symm.trans eb;(injection eb with eb; subst eb);exact I.ok.gr.isi _ c hn KM _ _ _ s₁ _ _ C'.base.stays ha hc.1 hc.2 ⟨_,hd⟩ fun n=>⟨C'.base.grown (.toks _ _),k,_,kb,.bool _⟩
def vX (hx:br Φ.fx.env.scope.names "isinstance"=true) (hy:br Φ.fx.env.scope.names C=true) (hp:aq q.1=true) (hC:Φ.fx.g.fns.lookup C=some f) (hf:Φ.fx.g.fn f=Φ.fx.g.C) (h:bj Φ q) :
  Ev Φ (eval (.Call (.Name "isinstance" fp) [q.1,.Name C pT] [] pos) Φ.fx.env) (fun K=>q.2 fun x=>iG x=true/\K (.bool true)):=fun K s hd I E=>by
 refine (?_:wpAny _ _ (eval (.Name "isinstance" fp) Φ.fx.env >>= fun F=>callWith pos F [] (backTo pos (starEach [q.1,.Name C pT] Φ.fx.env)) []) _ _ s);refine zC1 (bH (v:=.builtin "isinstance") I hx rfl ?_ E);rw [aJ hp];refine callWith_builtin rfl (Calls.evalArgs_plain ?_);have q':spliced (backTo pos ((false,eval q.1 Φ.fx.env) :: starEach [.Name C pT] Φ.fx.env))=(eval q.1 Φ.fx.env >>= fun v=>holding [v] (eval (.Name C pT) Φ.fx.env >>= fun u=>holding [u] (pure []) >>= fun vs=>pure (u :: vs)) >>= fun vs=>pure (v :: vs)):=rfl;refine (?_:wpAny _ _ (spliced (backTo pos ((false,eval q.1 Φ.fx.env) :: starEach [.Name C pT] Φ.fx.env))) _ _ _);rw [q'];refine zC1 (wpAny_mono (h _ s hd I E) (fun v s₁ ⟨B,k,x,hx,r⟩=>?_) fun U U z=>z);have C':=I.keep B k;refine zC1 (wpAny_holding (zC1 (bP C' hy (I.ok.gr.fns C f hC) ?_ E)));refine zC1 (wpAny_holding (zC2 (zC2 (zC2 ?_))));rw [hf];cases x with
 | dict Eg=>
  refine Rp.inst_elim (C:=fun v=>wpAny _ _ (call (.builtin "isinstance") [v,.ref Φ.fx.g.C]) _ E s₁) r hx.1 fun a dd o ws nb nb' ha Fc Fy U hl=>?_;exact yt (od:=some o) ⟨ha,rfl,rfl,Fc⟩ ⟨B,k,_,hx.2,.bool _⟩
 | _=>(injection hx.1; done)
def qS {qs:List (Expr×DV)} (hx:br Φ.fx.env.scope.names "tuple"=true) (hq:∀ q∈qs,aq q.1=true/\bj Φ q):Ev Φ (eval (.Call (.Name "tuple" fp) (qs.map Prod.fst) [] pos) Φ.fx.env) (fun K=>bv (qs.map Prod.snd) fun xs=>okK (opN .tupleOf xs) K):=
 px (op:=opN .tupleOf) hx rfl (.inr ⟨_,rfl⟩) hq fun s vs xs z I rs e=>cP (C:=fun vs=>Φ.wp (call (.type "tuple") vs) (Φ.Gives s z) s) e rs fun v x r e=>bL (C:=fun x=>Φ.rp s.heap v x->Φ.wp (call (.type "tuple") [v]) (Φ.Gives s z) s) e (fun l e r=>fit_elim e fun hz=>r.list_elim fun a o vs n U ha hc hd hl E=>call_tuple_list ⟨_,ha,hc.1,_,hd⟩ (fun h' hk=>by
   have k2:aL s.heap (h'.push { cls:=.type "tuple",data:=.seq vs }):=fun b o e=>Q4 _ (hk b o e);refine ⟨kf (tk:=s.toks) k2,.tuple (fun q=>?_) (Q7 _ rfl) rfl rfl (hl.keep k2.keeps)⟩;obtain ⟨o',e'⟩:=I.badLive q;exact ay (ak _) (hk _ _ e')) (by rw [aQ hl]; exact cE hz)) r
end
end Mine
end
noncomputable section
namespace Mine
open PySem PySem.SetTable
def zL {G:Prop} (h:∀ P:Prop,(G->P)->P):G:=h G id
def m0 (xs:Array Nat):Prop:=∀ i j a b:Nat,i < j->xs[i]?=some a->xs[j]?=some b->a < b
def BN (h:lo < hi):(lo+hi) / 2 < hi:=Nat.div_lt_of_lt_mul (by rw [two_mul]; exact Nat.add_lt_add_right h hi)
def Do (h:lo<=hi):lo<=(lo+hi) / 2:=(Nat.le_div_iff_mul_le (by decide)).mpr (by rw [mul_two]; exact Q6 h lo)
theorem kj (r:m0 xs):∀ Ei lo hi,lo<=hi->hi<=xs.size->hi<=lo+Ei->(∀ i a:Nat,i < lo->xs[i]?=some a->a < j)->(∀ i a:Nat,hi<=i->xs[i]?=some a->j<=a) ->
  below.go xs j Ei lo hi<=xs.size/\(∀ i a:Nat,i < below.go xs j Ei lo hi->xs[i]?=some a->a < j)/\∀ i a:Nat,below.go xs j Ei lo hi<=i->xs[i]?=some a->j<=a
 | 0,lo,hi,h1,h2,h3,h4,h5=>⟨zB1 h1 h2,h4,fun i a q=>h5 i a (zB1 h3 q)⟩
 | Ei+1,lo,hi,h1,h2,h3,h4,h5=>by
  rw [show below.go xs j (Ei+1) lo hi=if lo < hi then (if xs.getD ((lo+hi) / 2) j < j then below.go xs j Ei ((lo+hi) / 2+1) hi else below.go xs j Ei lo ((lo+hi) / 2)) else lo from rfl];by_cases h:lo < hi
  ·rw [if_pos h];have hm:(lo+hi) / 2 < xs.size:=Q0 (BN h) h2;have e:xs[(lo+hi) / 2]?=some (xs.getD ((lo+hi) / 2) j):=by simp [hm]
   by_cases c:xs.getD ((lo+hi) / 2) j < j
   ·rw [if_pos c];refine kj r Ei _ hi (BN h) h2 (zB1 h3 (zB1 (add_le_add_right (Do h1) (Ei+1)) (zB2 (add_right_comm _ 1 Ei).symm))) (fun i a q ea=>?_) h5;by_cases q':i=(lo+hi) / 2
    ·subst q'; rw [e] at ea; (injection ea with ea; subst ea); exact c
    ·exact lt_trans (r _ _ _ _ (lt_of_le_of_ne (Q8 q) q') ea e) c
   ·rw [if_neg c];refine kj r Ei lo _ (Do h1) (le_of_lt hm) (Q8 (Q0 (BN h) h3)) h4 fun i a q ea=>?_;by_cases q':i=(lo+hi) / 2
    ·subst q'; rw [e] at ea; (injection ea with ea; subst ea); exact le_of_not_lt c
    ·exact le_of_lt (Q1 (le_of_not_lt c) (r _ _ _ _ (lt_of_le_of_ne q (Ne.symm q')) e ea))
  ·rw [if_neg h];exact ⟨zB1 h1 h2,h4,fun i a q=>h5 i a (by exact zB1 (not_lt.mp h) q)⟩
def eH (r:m0 xs) (j:Nat):below xs j<=xs.size/\(∀ i a:Nat,i < below xs j->xs[i]?=some a->a < j)/\∀ i a:Nat,below xs j<=i->xs[i]?=some a->j<=a:=
 kj r _ _ _ (zero_le _) (le_refl _) (le_add_left _ _) (fun U U q=>absurd q (not_lt_zero _)) fun i a q e=>by rw [getElem?_eq_none q] at e; (injection e; done)
def km (r:m0 xs) (e:xs[i]?=some j):below xs j=i:=by
 obtain ⟨_,h1,h2⟩:=eH r j;rcases lt_trichotomy i (below xs j) with q | q | q
 ·exact absurd (h1 _ _ q e) (lt_irrefl _)
 ·exact q.symm
 ·have hb:below xs j < xs.size:=by
   have:i < xs.size:=by rcases lt_or_ge i xs.size with q | q; exact q; rw [getElem?_eq_none q] at e; (injection e; done)
   exact lt_trans q this
  have e':xs[below xs j]?=some xs[below xs j]:=by simp
  have a1:=h2 _ _ (le_refl _) e';have a2:=r _ _ _ _ q e' e;exact absurd a1 (not_le.mpr a2)
def oR {xs:Array Nat} (r:m0 xs) {i k j:Nat} (e:xs[i]?=some j) (e':xs[k]?=some j):i=k:=(km r e).symm.trans (km r e')
def sL (r:m0 xs):∃ e,e<=xs.size/\∀ i:Nat,xs[i]?≠some e:=by
 refine byContradiction fun c=>?_;have all:∀ e,e<=xs.size->∃ i:Nat,xs[i]?=some e:=fun e h=>byContradiction fun q=>c ⟨e,h,fun i z=>q ⟨i,z⟩⟩;have up:∀ e,e<=xs.size->∀ i:Nat,xs[i]?=some e->e<=i:=fun e=>by
  induction e with
  | zero=>exact fun U U U=>zero_le _
  | succ e ih=>
   intro h i z;obtain ⟨k,hk⟩:=all e (le_of_succ_le h);have:=ih (le_of_succ_le h) k hk;rcases lt_trichotomy i k with q | q | q
   ·exact absurd (r _ _ _ _ q z hk) (not_lt.mpr (le_succ e))
   ·subst q; rw [z] at hk; cases hk
   ·exact Q1 this q
 obtain ⟨i,hi⟩:=all _ (le_refl _);have:=up _ (le_refl _) i hi;rw [getElem?_eq_none this] at hi; (injection hi; done)
def insertAt_list:(insertAt xs p x).toList=xs.toList.take p++x :: xs.toList.drop p:=by
 unfold insertAt;rw [toList_append,toList_push,toList_extract,toList_extract,append_assoc,extract_eq_take_drop,extract_eq_take_drop,drop_zero,sub_zero,List.take_of_length_le (i:=xs.size - p) (by rw [length_drop,zB3]; exact le_refl _)]; rfl
def fJ (h:p<=xs.size) (i:Nat):(insertAt xs p x)[i]?=if i < p then xs[i]? else if i=p then some x else xs[i - 1]?:=by
 have lp:(xs.toList.take p).length=p:=by rw [length_take,zB3]; exact min_eq_left h
 rw [<- Q2,insertAt_list];rcases lt_trichotomy i p with hi | rfl | hi
 ·rw [if_pos hi,getElem?_append_left (Nat.lt_of_lt_of_eq hi lp.symm),getElem?_take_of_lt hi,Q2]
 ·rw [if_neg (lt_irrefl _),if_pos rfl,getElem?_append_right (zB2 lp),lp,sub_self]; rfl
 ·rw [if_neg (lt_asymm hi),if_neg (ne_of_gt hi),getElem?_append_right (zB1 (zB2 lp) (le_of_lt hi)),lp];obtain ⟨k,rfl⟩:=Nat.exists_eq_add_of_lt hi;rw [add_assoc,add_sub_cancel_left,List.getElem?_cons_succ,getElem?_drop,Q2]; rfl
def cZ (h:p<=xs.size):(insertAt xs p x).size=xs.size+1:=by
 rw [<- zB3,insertAt_list,zB5,length_take,zB3,min_eq_left h,zB4,length_drop,zB3,<- add_assoc,Q5 h]
def insertAt_cases (h:p<=xs.size) (e:(insertAt xs p x)[i]?=some y):(i=p/\x=y)\/(i≠p/\xs[if i < p then i else i - 1]?=some y):=by
 rw [fJ h] at e;by_cases h1:i < p
 ·rw [if_pos h1] at e; exact .inr ⟨by exact ne_of_lt h1,by rw [if_pos h1]; exact e⟩
 ·rw [if_neg h1] at e;by_cases h2:i=p
  ·rw [if_pos h2] at e; (injection e with e; subst e); exact .inl ⟨h2,rfl⟩
  ·rw [if_neg h2] at e; exact .inr ⟨h2,by rw [if_neg h1]; exact e⟩
def lV (h:p<=xs.size) (e:xs[i]?=some y):(insertAt xs p x)[if i < p then i else i+1]?=some y:=by
 rw [fJ h];by_cases h1:i < p
 ·rw [if_pos h1,if_pos h1]; exact e
 ·rw [if_neg h1,if_neg (by exact not_lt.mpr (le_add_right_of_le (not_lt.mp h1))),if_neg (by exact ne_of_gt (lt_succ_of_le (not_lt.mp h1)))]; exact e
def oj (r:m0 xs) (h:∀ i:Nat,xs[i]?≠some j):m0 (insertAt xs (below xs j) j):=fun i k a b GX ea eb=>by
 obtain ⟨hp,h1,h2⟩:=eH r j;have le:∀ i a:Nat,below xs j<=i->xs[i]?=some a->j < a:=fun i a q e=>lt_of_le_of_ne (h2 i a q e) fun z=>h i (z▸e);rcases insertAt_cases hp ea with ⟨rfl,rfl⟩ | ⟨q1,z1⟩ <;> rcases insertAt_cases hp eb with ⟨rfl,rfl⟩ | ⟨q2,z2⟩
 ·exact absurd GX (lt_irrefl _)
 ·rw [if_neg (by exact not_lt.mpr (le_of_lt GX))] at z2; exact le _ _ (le_sub_one_of_lt GX) z2
 ·rw [if_pos GX] at z1; exact h1 _ _ GX z1
 ·refine r _ _ _ _ ?_ z1 z2;by_cases c1:i < below xs j
  ·rw [if_pos c1];by_cases c2:k < below xs j
   ·rw [if_pos c2]; exact GX
   ·rw [if_neg c2]; exact Q0 c1 (le_sub_one_of_lt (lt_of_le_of_ne (le_of_not_lt c2) (Ne.symm q2)))
  ·have c2:¬ k < below xs j:=fun q=>c1 (lt_trans GX q);rw [if_neg c1,if_neg c2];exact sub_lt_sub_right (Nat.succ_le_of_lt (Q1 (zero_le _) (lt_of_le_of_ne (le_of_not_lt c1) (Ne.symm q1)))) GX
def slot_is {t:SetTable} (hd:t.dummies=#[]) (r:m0 t.place) (j:Nat):(∃ i:Nat,t.place[i]?=some j/\t.slot j=.live i)\/(∀ i:Nat,t.place[i]?≠some j)/\t.slot j=.empty:=by
 unfold slot;by_cases h:∃ i:Nat,t.place[i]?=some j
 ·obtain ⟨i,e⟩:=h;refine .inl ⟨i,e,?_⟩;simp only [km r e,e,beq_self_eq_true,if_true]
 ·have h:∀ i:Nat,t.place[i]?≠some j:=fun i e=>h ⟨i,e⟩;refine .inr ⟨h,?_⟩;have:(t.place[below t.place j]?==some j)=false:=by simpa using h _
  simp only [this,hd,has,false_eq_true,if_false];simp
noncomputable def adv (m:Nat) (p:Probe):Probe:=
 if p.more > 0 then { p with j:=p.j+1,more:=p.more - 1 } else
 { p with j:=(leap m p.i p.perturb).1,more:=runEnd m (leap m p.i p.perturb).1 - (leap m p.i p.perturb).1,i:=(leap m p.i p.perturb).1,perturb:=(leap m p.i p.perturb).2 }
noncomputable def it (m:Nat):Nat->Probe->Probe
 | 0,p=>p
 | n+1,p=>it m n (adv m p)
theorem it_add (m:Nat):∀ a b p,it m (a+b) p=it m b (it m a p)
 | 0,b,p=>by rw [zero_add]; rfl
 | a+1,b,p=>by rw [succ_add]; exact it_add m a b (adv m p)
noncomputable def beg (m i pt:Nat):Probe:={ j:=i,more:=runEnd m i - i,i:=i,perturb:=pt,dummy:=none }
noncomputable def lp (m:Nat) (q:Nat×Nat):Nat×Nat:=leap m q.1 q.2
theorem nL (m:Nat):∀ k p,p.more=k->p.dummy=none->it m (k+1) p=beg m (lp m (p.i,p.perturb)).1 (lp m (p.i,p.perturb)).2
 | 0,p,h,hd=>by
  refine (?_:adv m p=_);unfold adv; rw [if_neg (by rw [h]; exact lt_irrefl _),hd]; rfl
 | k+1,p,h,hd=>by
  have e:adv m p={ p with j:=p.j+1,more:=p.more - 1 }:=if_pos (by rw [h]; exact succ_pos _);refine (?_:it m (k+1) (adv m p)=_);rw [nL m k (adv m p) (by rw [e]; refine (?_:p.more - 1=k); rw [h]; rfl) (by rw [e]; exact hd),e]
def mC (m i:Nat):runEnd m i - i<=9:=by
 unfold runEnd;split
 ·exact zB2 (add_sub_cancel_left _ _)
 ·rw [sub_self]; exact zero_le _
noncomputable def lps (m:Nat):Nat->Nat×Nat->Nat×Nat
 | 0,q=>q
 | r+1,q=>lps m r (lp m q)
theorem sJ (m:Nat):∀ r p,p.more<=9->p.dummy=none->∃ N,N<=10 * (r+1)/\it m N p=beg m (lps m (r+1) (p.i,p.perturb)).1 (lps m (r+1) (p.i,p.perturb)).2
 | 0,p,h,hd=>⟨p.more+1,succ_le_succ h,nL m _ p rfl hd⟩
 | r+1,p,h,hd=>by
  obtain ⟨N,h1,h2⟩:=sJ m r (beg m (lp m (p.i,p.perturb)).1 (lp m (p.i,p.perturb)).2) (mC _ _) rfl;refine ⟨p.more+1+N,zB1 (add_le_add (succ_le_succ h) h1) (zB2 (add_comm 10 _)),?_⟩;rw [it_add,nL m _ p rfl hd]; exact h2
theorem lps_add (m:Nat):∀ a b q,lps m (a+b) q=lps m b (lps m a q)
 | 0,b,q=>by rw [zero_add]; rfl
 | a+1,b,q=>by rw [succ_add]; exact lps_add m a b (lp m q)
theorem sD (m:Nat):∀ r q,(lps m r q).2=q.2 / 32 ^ r
 | 0,q=>(Nat.div_one _).symm
 | r+1,q=>(sD m r (lp m q)).trans (by refine (?_:q.2 / 32 / 32 ^ r=_); rw [Nat.div_div_eq_div_mul,pow_succ,mul_comm])
theorem sF (m:Nat):∀ r q,q.1<=m->(lps m r q).1<=m
 | 0,q,h=>h
 | r+1,q,_=>sF m r (lp m q) (Q8 (mod_lt _ (succ_pos _)))
noncomputable def orb (m:Nat):Nat->Nat
 | 0=>0
 | n+1=>(orb m n * 5+1) % (m+1)
def Msk (m:Nat):Prop:=m=7\/m=31\/m=127\/m=511\/m=2047\/m=8191
theorem Msk.pow {m:Nat} (h:Msk m):∃ k,m+1=2 ^ k:=by
 rcases h with rfl | rfl | rfl | rfl | rfl | rfl
 ·exact ⟨3,rfl⟩
 ·exact ⟨5,rfl⟩
 ·exact ⟨7,rfl⟩
 ·exact ⟨9,rfl⟩
 ·exact ⟨11,rfl⟩
 ·exact ⟨13,rfl⟩
noncomputable def gs:Nat->Nat
 | 0=>0
 | n+1=>gs n * 5+1
theorem orb_gs (m:Nat):∀ n,orb m n=gs n % (m+1)
 | 0=>(Nat.zero_mod _).symm
 | n+1=>by
  refine (?_:(orb m n * 5+1) % (m+1)=(gs n * 5+1) % (m+1));rw [orb_gs m n,add_mod,Nat.mod_mul_mod,<- add_mod]
theorem rj (a:Nat):∀ b,gs (a+b)=gs b+5 ^ b * gs a
 | 0=>by rw [add_zero,Nat.pow_zero,one_mul]; exact (zero_add _).symm
 | b+1=>by
  refine (?_:gs (a+b) * 5+1=(gs b * 5+1)+5 ^ (b+1) * gs a);rw [rj a b,pow_succ];grind
theorem pu:∀ n,5 ^ n % 4=1
 | 0=>rfl
 | n+1=>by rw [pow_succ,Nat.mul_mod,pu n]
theorem wR:∀ n,gs n % 2=n % 2
 | 0=>rfl
 | n+1=>by
  show (gs n * 5+1) % 2=_
  rw [add_mod,Nat.mul_mod,wR n,add_mod n 1];rcases Nat.mod_two_eq_zero_or_one n with e | e <;> rw [e]
theorem wS:∀ k n,2 ^ k ∣ gs n->2 ^ k ∣ n
 | 0,n,_=>⟨n,(one_mul n).symm⟩
 | k+1,n,h=>by
  have h2:n % 2=0:=by
   rw [<- wR n];exact Nat.mod_eq_zero_of_dvd (Nat.dvd_trans ⟨2 ^ k,by rw [pow_succ,mul_comm]⟩ h)
  obtain ⟨m,rfl⟩:∃ m,n=m+m:=⟨n / 2,by rw [<- two_mul]; exact (Nat.mul_div_cancel' (Nat.dvd_of_mod_eq_zero h2)).symm⟩;rw [rj m m] at h;obtain ⟨q,hq⟩:∃ q,5 ^ m+1=2 * (2 * q+1):=⟨5 ^ m / 4,by rw [Nat.mul_add,<- Nat.mul_assoc]; exact congrArg (· + 1) ((pu m▸Nat.div_add_mod (5 ^ m) 4:4 * (5 ^ m / 4)+1=5 ^ m).symm)⟩;have e:gs m+5 ^ m * gs m=2 * ((2 * q+1) * gs m):=by
   rw [<- Nat.mul_assoc,<- hq,Nat.add_mul,one_mul,add_comm]
  rw [e,pow_succ,mul_comm (2 ^ k) 2] at h;have h:=Nat.dvd_of_mul_dvd_mul_left (by decide:0 < 2) h;have c:Coprime (2 ^ k) (2 * q+1):=Coprime.pow_left k (by
   rw [Nat.coprime_iff_gcd_eq_one];have:Nat.gcd 2 (2 * q+1) ∣ 1:=by
    have h1:=Nat.gcd_dvd_left 2 (2 * q+1);have h2:=Nat.gcd_dvd_right 2 (2 * q+1);exact (Nat.dvd_add_right (Nat.dvd_trans h1 ⟨q,rfl⟩)).mp h2
   exact Nat.eq_one_of_dvd_one this)
  have h:=wS k m (c.dvd_of_dvd_mul_left h);obtain ⟨r,hr⟩:=h;exact ⟨r,by rw [pow_succ,Nat.mul_right_comm,<- hr]; exact (mul_two m).symm⟩
def sh {m k a b:Nat} (hm:m+1=2 ^ k) (h:orb m a=orb m (a+b)):2 ^ k ∣ b:=by
 rw [orb_gs,orb_gs,hm,add_comm a b,rj b a] at h;have z:=Nat.sub_mod_eq_zero_of_mod_eq h.symm;rw [add_sub_cancel_left] at z;exact wS k b ((Coprime.pow k a (by decide:Coprime 2 5)).dvd_of_dvd_mul_left (Nat.dvd_of_mod_eq_zero z))
def AI (m n:Nat):orb m n < m+1:=by rw [orb_gs]; exact mod_lt _ (succ_pos _)
def AH {m k i j:Nat} (hm:m+1=2 ^ k) (h:i < j) (hj:j < i+(m+1)):orb m i≠orb m j:=fun e=>by
 obtain ⟨d,rfl⟩:=Nat.exists_eq_add_of_lt h;have q:=sh hm (b:=d+1) e;rw [<- hm] at q;exact absurd (Nat.le_of_dvd (succ_pos _) q) (not_le.mpr (Nat.lt_of_add_lt_add_left (by rw [<- add_assoc]; exact hj)))
def lB {m k e:Nat} (hm:m+1=2 ^ k) (he:e<=m):∃ b,b<=m/\e=orb m (b+1):=by
 refine byContradiction fun no=>?_;have nd:(e :: (List.range (m+1)).map fun b=>orb m (b+1)).Nodup:=by
  refine nodup_cons.mpr ⟨fun z=>?_,pairwise_map.mpr (List.pairwise_lt_range.imp_of_mem fun {i j} mi mj h=>?_)⟩
  ·obtain ⟨b,mb,q⟩:=zA7 z;exact no ⟨b,Q8 (mem_range.mp mb),q.symm⟩
  ·exact AH hm (Nat.succ_lt_succ h) (Q0 (Nat.succ_lt_succ (mem_range.mp mj)) (by rw [add_comm (i+1)]; exact Q6 (le_add_left 1 i) _))
 have l:=nd.length_le_of_subset (l₂:=List.range (m+1)) fun x mx=>by
  rcases mem_cons.mp mx with rfl | mx
  ·exact mem_range.mpr (lt_succ_of_le he)
  ·obtain ⟨b,_,rfl⟩:=zA7 mx;exact mem_range.mpr (AI _ _)
 rw [zB4,zA4,length_range] at l;exact absurd l (Nat.not_succ_le_self _)
def vi {m k:Nat} (hm:m+1=2 ^ k):orb m (m+1)=0:=by
 obtain ⟨b,hb,e⟩:=lB hm (zero_le m);have q:=sh hm (a:=0) (b:=b+1) (by rw [zero_add]; exact e);rw [<- hm] at q;have z:m=b:=le_antisymm (Nat.le_of_succ_le_succ (Nat.le_of_dvd (succ_pos _) q)) hb;exact (congrArg (fun x=>orb m (x+1)) z).trans e.symm
def sr {m e:Nat} (h:Msk m) (he:e<=m):∃ b,b<=m/\e=orb m (b+1):=h.pow.elim fun U q=>lB q he
theorem sE (m:Nat):∀ r a,lps m r (orb m a,0)=(orb m (a+r),0)
 | 0,_=>rfl
 | r+1,a=>by
  have e:lp m (orb m a,0)=(orb m (a+1),0):=by unfold lp leap; rw [Nat.zero_div]; rfl
  refine (?_:lps m r (lp m (orb m a,0))=_);rw [e,sE m r (a+1),add_right_comm a 1 r]; rfl
theorem jh (h:Msk m):∀ b,orb m (b+(m+1))=orb m b
 | 0=>by rw [zero_add]; exact h.pow.elim fun U q=>vi q
 | b+1=>by rw [add_right_comm b 1 (m+1)]; refine (?_:(_ * 5+1) % (m+1)=_); rw [jh h b]; rfl
def zy (h:Msk m) (hi:i<=m) (hp:pt < 2 ^ 64) (he:e<=m):∃ r,r<=m+13/\(lps m (r+1) (i,pt)).1=e:=by
 have z:lps m 13 (i,pt)=((lps m 13 (i,pt)).1,0):=Prod.ext rfl ((sD m 13 (i,pt)).trans (Nat.div_eq_of_lt (Q0 hp (by decide))));obtain ⟨a,ha,ea⟩:=sr h (sF m 13 (i,pt) hi);obtain ⟨b,hb,eb⟩:=sr h he;rw [ea] at z;have go:∀ r,(lps m (13+r) (i,pt)).1=orb m (a+1+r):=fun r=>by rw [lps_add,z,sE]
 by_cases c:a < b
 ·exact ⟨12+(b - a),add_comm 13 m▸add_le_add (by decide:12<=13) (zB1 (sub_le b a) hb),by rw [show 12+(b - a)+1=13+(b - a) by exact add_right_comm _ _ _,go,eb,add_right_comm a,Q5 (le_of_lt c)]⟩
 ·refine ⟨12+(m+1+b - a),zB1 (Q6 (Nat.sub_le_of_le_add (Q6 (le_of_not_lt c) (m+1))) 12) (zB2 (add_comm 12 (m+1))),?_⟩;rw [show 12+(m+1+b - a)+1=13+(m+1+b - a) by exact add_right_comm _ _ _,go,eb,<- jh h (b+1),add_right_comm a,Q5 (zB1 ha (zB1 (le_succ m) (Q3 _ _))),add_assoc,add_comm]
def A8 (h:Msk m) (hi:p.i<=m) (hp:p.perturb < 2 ^ 64) (hm:p.more<=9) (hd:p.dummy=none) (he:e<=m):∃ N,N < 10 * turns m/\(it m N p).j=e:=by
 obtain ⟨r,hr,q⟩:=zy h hi hp he;obtain ⟨N,h1,h2⟩:=sJ m r p hm hd;exact ⟨N,by unfold turns; exact Q1 h1 (Nat.mul_lt_mul_of_pos_left (Nat.succ_lt_succ (lt_succ_of_le hr)) (by decide)),by rw [h2]; exact q⟩
def th (h:Int):bits h < 2 ^ 64:=by unfold bits; exact (toNat_lt (Int.emod_nonneg _ (by decide))).mpr (Int.emod_lt_of_pos _ (by decide))
noncomputable def pos (m:Nat) (h:Int) (n:Nat):Probe:=it m n (beg m (bits h % (m+1)) (bits h))
def In (t:SetTable) (j:Nat):Prop:=∃ i:Nat,t.place[i]?=some j
def Way (t:SetTable) (h:Int) (j:Nat):Prop:=∃ n,(pos t.mask h n).j=j/\∀ n',n' < n->In t (pos t.mask h n').j
structure Tab {β:Type} (t:SetTable) (es:Array (Int×β)):Prop where
 msk:Msk t.mask
 dm:t.dummies=#[]
 sz:t.place.size=es.size
 rise:m0 t.place
 le:∀ i j:Nat,t.place[i]?=some j->j<=t.mask
 way:∀ (i j:Nat) e,t.place[i]?=some j->es[i]?=some e->Way t e.1 j
theorem zF:∀ {n:Nat} {p:Probe},p.dummy=none->(it m n p).dummy=none
 | 0,_,h=>h
 | n+1,p,h=>zF (n:=n) (p:=adv m p) (by unfold adv; split <;> exact h)
def yz (hd:t.dummies=#[]) (r:m0 t.place):∀ N Ei p,N < Ei->p.dummy=none->¬ In t (it t.mask N p).j ->
  ∃ n,n<=N/\(∀ n',n' < n->∃ i:Nat,t.place[i]?=some (it t.mask n' p).j/\hashAt i≠h) /\
   (¬ In t (it t.mask n p).j/\probe.go t hashAt h Ei p=some (.empty (it t.mask n p).j none) \/
    ∃ i:Nat,t.place[i]?=some (it t.mask n p).j/\hashAt i=h/\probe.go t hashAt h Ei p=some (.candidate (it t.mask n p).j i (it t.mask (n+1) p))):=by
 intro N;induction N with
 | zero=>
  intro Ei p hf hp he;obtain ⟨Ei,rfl⟩:=Nat.exists_eq_succ_of_ne_zero (ne_of_gt hf);refine ⟨0,le_refl _,fun U q=>absurd q (not_lt_zero _),.inl ⟨he,?_⟩⟩;rcases slot_is hd r p.j with ⟨i,e,_⟩ | ⟨_,e⟩
  ·exact absurd ⟨i,e⟩ he
  ·unfold probe.go; rw [e]; refine (?_:some (Met.empty p.j p.dummy)=_); rw [hp]; rfl
 | succ N ih=>
  intro Ei p hf hp he;obtain ⟨Ei,rfl⟩:=Nat.exists_eq_succ_of_ne_zero (ne_of_gt (Q1 (zero_le _) hf));rcases slot_is hd r p.j with ⟨i,e,es⟩ | ⟨e,es⟩
  ·by_cases c:hashAt i=h
   ·refine ⟨0,zero_le _,fun U q=>absurd q (not_lt_zero _),.inr ⟨i,e,c,?_⟩⟩;unfold probe.go; rw [es]; exact if_pos (beq_iff_eq.mpr c)
   ·obtain ⟨n,h1,h2,h3⟩:=ih Ei (adv t.mask p) (Nat.lt_of_succ_lt_succ hf) (zF (n:=1) hp) he;have hg:probe.go t hashAt h (Ei+1) p=probe.go t hashAt h Ei (adv t.mask p):=by
     rw [probe.go]; rw [es]; exact if_neg fun q=>c (beq_iff_eq.mp q)
    refine ⟨n+1,succ_le_succ h1,fun n' q=>?_,?_⟩
    ·cases n' with
     | zero=>exact ⟨i,e,c⟩
     | succ n'=>exact h2 n' (Nat.lt_of_succ_lt_succ q)
    ·rw [hg]; exact h3
  ·refine ⟨0,zero_le _,fun U q=>absurd q (not_lt_zero _),.inl ⟨fun ⟨i,q⟩=>e i q,?_⟩⟩;unfold probe.go; rw [es]; refine (?_:some (Met.empty p.j p.dummy)=_); rw [hp]; rfl
theorem zD:∀ n p,p.i<=m->p.perturb < 2 ^ 64->p.more<=9->(it m n p).i<=m/\(it m n p).perturb < 2 ^ 64/\(it m n p).more<=9
 | 0,p,h1,h2,h3=>⟨h1,h2,h3⟩
 | n+1,p,h1,h2,h3=>by
  refine zD n (adv m p) ?_ ?_ ?_ <;> unfold adv <;> split
  ·exact h1
  ·exact Q8 (mod_lt _ (succ_pos _))
  ·exact h2
  ·exact Q1 (Nat.div_le_self _ _) h2
  ·exact zB1 (sub_le _ _) h3
  ·exact mC _ _
section
variable {β:Type} {t:SetTable} {es:Array (Int×β)}
theorem Tab.gap (T:Tab t es) (hf:t.place.size<=t.mask) (h:Int) (k:Nat):∃ N,N < 10 * turns t.mask/\¬ In t (it t.mask N (pos t.mask h k)).j:=by
 obtain ⟨e,he,q⟩:=sL T.rise;have o:=zD (m:=t.mask) k (beg t.mask (bits h % (t.mask+1)) (bits h)) (Q8 (mod_lt _ (succ_pos _))) (th h) (mC _ _);obtain ⟨N,h1,h2⟩:=A8 (p:=pos t.mask h k) T.msk o.1 o.2.1 o.2.2 (zF rfl) (zB1 he hf);exact ⟨N,h1,fun ⟨i,z⟩=>q i (by rw [z,h2])⟩
theorem Tab.put (T:Tab t es) (hw:Way t h j) (hj:¬ In t j) (hl:j<=t.mask):(t.put j).1.mask=t.mask/\(t.put j).1.place.size=es.size+1/\Tab (t.put j).1 (insertAt es (t.put j).2 (h,x)):=by
 have hp:=(eH T.rise j).1;have ep:(t.put j).1.place=insertAt t.place (below t.place j) j:=rfl;have ed:(t.put j).1.dummies=#[]:=by refine (?_:(if has t.dummies j then _ else t.dummies)=_); rw [T.dm]; rfl
 have IK:below t.place j<=es.size:=T.sz▸hp;have up:∀ {k},In t k->In (t.put j).1 k:=fun ⟨i,e⟩=>⟨_,lV hp e⟩;have upw:∀ {k h},Way t h k->Way (t.put j).1 h k:=fun ⟨n,a,b⟩=>⟨n,a,fun n' q=>up (b n' q)⟩;refine ⟨rfl,by rw [ep,cZ hp,T.sz],T.msk,ed,by rw [ep,cZ hp]; exact T.sz▸(cZ IK).symm,oj T.rise fun i e=>hj ⟨i,e⟩,fun i k e=>?_,fun i k e ek ee=>?_⟩
 ·rcases insertAt_cases hp e with ⟨_,rfl⟩ | ⟨_,e⟩
  ·exact hl
  ·exact T.le _ _ e
 ·rcases insertAt_cases hp ek with ⟨rfl,rfl⟩ | ⟨q,ek⟩
  ·rcases insertAt_cases IK ee with ⟨_,rfl⟩ | ⟨q,_⟩
   ·exact upw hw
   ·exact absurd rfl q
  ·rcases insertAt_cases IK ee with ⟨q',_⟩ | ⟨_,ee⟩
   ·exact absurd q' q
   ·exact upw (T.way _ _ _ ek ee)
end
def Occ (O:Array (Option Nat)) (j:Nat):Prop:=∃ c,O[j]?=some (some c)
theorem zG:∀ {k:Nat} {p:Probe},k<=p.more->(it m k p).j=p.j+k
 | 0,_,_=>rfl
 | k+1,p,h=>by
  have e:adv m p={ p with j:=p.j+1,more:=p.more - 1 }:=if_pos (Q0 (succ_pos _) h);refine (?_:(it m k (adv m p)).j=_);rw [zG (p:=adv m p) (by rw [e]; exact Nat.le_sub_of_add_le h),e];refine (?_:p.j+1+k=_); lia
def wq (h:i<=m):i<=runEnd m i/\runEnd m i<=m:=by unfold runEnd; split <;> lia
def occ_or (hs:O.size=m+1) (hj:j<=m):(Occ O j/\(O.getD j (some 0)).isNone=false)\/¬ Occ O j/\(O.getD j (some 0)).isNone=true:=by
 have e:O[j]?=some (O.getD j (some 0)):=by rw [Array.getD_eq_getD_getElem?,Array.getElem?_eq_getElem (by lia)]; rfl
 unfold Occ;refine e.symm▸?_;cases O.getD j (some 0) with
 | none=>exact .inr ⟨(fun ⟨c,q⟩=>nomatch q),rfl⟩
 | some c=>exact .inl ⟨⟨c,rfl⟩,rfl⟩
def tU (hs:O.size=m+1):∀ r Ei i pt,r < Ei->i<=m->¬ Occ O (lps m r (i,pt)).1 ->
  ∃ n j,layClean.free m O Ei i pt=some j/\(it m n (beg m i pt)).j=j/\j<=m/\¬ Occ O j/\∀ n',n' < n->Occ O (it m n' (beg m i pt)).j:=by
 intro r Ei;induction Ei generalizing r with
 | zero=>exact fun U U h=>absurd h (not_lt_zero _)
 | succ Ei ih=>
  intro i pt hr hi he;have Lv:=wq hi;have er:runEnd m i+1 - i=runEnd m i - i+1:=Nat.succ_sub Lv.1;have inr:∀ k,k < runEnd m i+1 - i->(it m k (beg m i pt)).j=i+k/\i+k<=m:=fun k hk=>have hk:k<=runEnd m i - i:=Q8 (Nat.lt_of_lt_of_eq hk er); ⟨zG (p:=beg m i pt) hk,zB1 (Nat.add_le_of_le_sub' Lv.1 hk) Lv.2⟩;unfold layClean.free;cases hf:(List.range (runEnd m i+1 - i)).find? fun k=>(O.getD (i+k) (some 0)).isNone with
  | some k=>
   obtain ⟨h1,h2,h3⟩:=List.find?_range_eq_some.mp hf;have hk:=inr k (mem_range.mp h2);refine ⟨k,i+k,rfl,hk.1,hk.2,?_,fun n' q=>?_⟩
   ·rcases occ_or hs hk.2 with ⟨_,z⟩ | ⟨z,_⟩
    ·replace h1:=z▸h1; (injection h1; done)
    ·exact z
   ·have hn:=inr n' (lt_trans q (mem_range.mp h2));rcases occ_or hs hn.2 with ⟨z,_⟩ | ⟨_,z⟩
    ·rw [hn.1]; exact z
    ·have:=h3 n' q; replace this:=z▸this; (injection this; done)
  | none=>
   have hn:=List.find?_range_eq_none.mp hf;have occ:∀ n',n' < runEnd m i+1 - i->Occ O (it m n' (beg m i pt)).j:=fun n' q=>by
    rcases occ_or hs (inr n' q).2 with ⟨z,_⟩ | ⟨_,z⟩
    ·rw [(inr n' q).1]; exact z
    ·have:=hn n' q; replace this:=z▸this; (injection this; done)
   cases r with
   | zero=>exact absurd (occ 0 (er▸succ_pos _)) he
   | succ r=>
    obtain ⟨n,j,e1,e2,e3,e4,e5⟩:=ih r (lp m (i,pt)).1 (lp m (i,pt)).2 (Nat.lt_of_succ_lt_succ hr) (Q8 (mod_lt _ (succ_pos _))) he;have JB:=nL m (runEnd m i - i) (beg m i pt) rfl rfl;refine ⟨runEnd m i - i+1+n,j,e1,?_,e3,e4,fun n' q=>?_⟩
    ·rw [it_add,JB]; exact e2
    ·by_cases c:n' < runEnd m i+1 - i
     ·exact occ n' c
     ·have c:=er▸le_of_not_lt c;have:=e5 (n' - (runEnd m i - i+1)) (sub_lt_left_of_lt_add c q);rw [<- Q5 c,it_add,JB]; exact this
structure LInv (m:Nat) (H:Nat->Int) (O:Array (Option Nat)) (k:Nat):Prop where
 sz:O.size=m+1
 way:∀ j c:Nat,O[j]?=some (some c)->c < k/\∃ n,(pos m (H c) n).j=j/\∀ n',n' < n->Occ O (pos m (H c) n').j
 all:∀ c,c < k->Exists fun j:Nat=>O[j]?=some (some c)
 inj:∀ j j' c:Nat,O[j]?=some (some c)->O[j']?=some (some c)->j=j'
noncomputable def live (m:Nat) (O:Array (Option Nat)):List (Nat×Nat):=(List.range (m+1)).filterMap fun j=>(O.getD j none).map (j,·)
section
variable {m:Nat} {H:Nat->Int} {O:Array (Option Nat)} {k:Nat}
def cj (hs:O.size=m+1):(j,c)∈live m O ↔ O[j]?=some (some c):=by
 unfold live;rw [mem_filterMap];constructor
 ·rintro ⟨j',_,e⟩;obtain ⟨c',ec,q⟩:=map_eq_some_iff.mp e;cases q
  replace ec:=(Array.getD_eq_getD_getElem?)▸ec;cases h:O[j]? with
  | none=>replace ec:=h▸ec; cases ec
  | some v=>rw [h] at ec; exact congrArg some ec
 ·intro e;have hj:j < O.size:=by rcases lt_or_ge j O.size with q | q; exact q; replace e:=(getElem?_eq_none q)▸e; cases e
  exact ⟨j,mem_range.mpr (hs▸hj),by rw [Array.getD_eq_getD_getElem?,e]; rfl⟩
def lD:(live m O).Pairwise fun a b=>a.1 < b.1:=by
 refine Pairwise.filterMap _ (fun a a' h b hb b' Gc=>?_) List.pairwise_lt_range;obtain ⟨c,_,rfl⟩:=map_eq_some_iff.mp hb;obtain ⟨c',_,rfl⟩:=map_eq_some_iff.mp Gc;exact h
def eR (L:LInv m H O k):((live m O).map (·.2)).Perm (List.range k):=by
 refine (perm_ext_iff_of_nodup ?_ List.nodup_range).mpr fun c=>?_
 ·refine Pairwise.map _ (fun a b h=>h) ((lD (m:=m) (O:=O)).imp_of_mem fun {a b} ha hb h e=>?_);have e1:=(cj L.sz).mp (ha:(a.1,a.2)∈live m O);have e2:=(cj L.sz).mp (hb:(b.1,b.2)∈live m O);rw [<- e] at e2;exact absurd (L.inj _ _ _ e1 e2) (ne_of_lt h)
 ·rw [mem_map,mem_range];constructor
  ·rintro ⟨⟨j,c⟩,hm,rfl⟩; exact (L.way _ _ ((cj L.sz).mp hm)).1
  ·intro hc;obtain ⟨j,e⟩:=L.all c hc;exact ⟨(j,c),(cj L.sz).mpr e,rfl⟩
noncomputable def dg (m:Nat) (O:Array (Option Nat)):Array Nat:=((live m O).map (·.1)).toArray
def dq {i j:Nat} (e:(dg m O)[i]?=some j):∃ c,(live m O)[i]?=some (j,c):=by
 unfold dg at e;replace e:=(getElem?_map)▸(List.getElem?_toArray)▸e;obtain ⟨q,h,rfl⟩:=map_eq_some_iff.mp e;exact ⟨_,h⟩
def place_rise:m0 (dg m O):=fun i j a b h ea eb=>by
 obtain ⟨c,ec⟩:=dq ea;obtain ⟨d,ed⟩:=dq eb;obtain ⟨hi,qi⟩:=List.getElem?_eq_some_iff.mp ec;obtain ⟨hj,qj⟩:=List.getElem?_eq_some_iff.mp ed;have:=pairwise_iff_getElem.mp (lD (m:=m) (O:=O)) i j hi hj h;rw [qi,qj] at this; exact this
def jc (L:LInv m H O k):(dg m O).size=k:=by
 have:=(eR L).length_eq;rw [zA4,length_range] at this;unfold dg; rw [size_toArray,zA4,this]
def oS (L:LInv m H O k) {j:Nat}:(∃ i:Nat,(dg m O)[i]?=some j) ↔ Occ O j:=by
 constructor
 ·rintro ⟨i,e⟩;obtain ⟨c,ec⟩:=dq e;exact ⟨c,(cj L.sz).mp (mem_of_getElem? ec)⟩
 ·rintro ⟨c,e⟩;obtain ⟨i,hi⟩:=getElem?_of_mem ((cj L.sz).mpr e);exact ⟨i,by unfold dg; rw [List.getElem?_toArray,getElem?_map,hi]; rfl⟩
theorem LInv.step (hm:Msk m) (L:LInv m H O k) (hk:k<=m):∃ j,layClean.free m O (turns m) (bits (H k) % (m+1)) (bits (H k))=some j/\LInv m H (O.setIfInBounds j (some k)) (k+1):=by
 obtain ⟨e,he,q⟩:=sL (place_rise (m:=m) (O:=O));replace he:=(jc L)▸he;have hb:bits (H k) % (m+1)<=m:=Q8 (mod_lt _ (succ_pos _));obtain ⟨r,hr,hl⟩:=zy hm hb (th (H k)) (zB1 he hk);have hq:¬ Occ O e:=fun z=>by obtain ⟨i,z⟩:=(oS L).mpr z; exact q i z
 obtain ⟨n,j,e1,e2,e3,e4,e5⟩:=tU L.sz (r+1) (turns m) _ _ (by unfold turns; lia) hb (by rw [hl]; exact hq);have hj:j < O.size:=by rw [L.sz]; exact lt_succ_of_le e3
 have gs:(O.setIfInBounds j (some k))[j]?=some (some k):=by rw [Array.getElem?_setIfInBounds,if_pos rfl,if_pos hj]
 have gn:∀ i,i≠j->(O.setIfInBounds j (some k))[i]?=O[i]?:=fun i h=>by rw [Array.getElem?_setIfInBounds,if_neg (Ne.symm h)]
 have up:∀ {i},Occ O i->Occ (O.setIfInBounds j (some k)) i:=fun {i} h=>by
  by_cases c:i=j
  ·subst c; exact ⟨k,gs⟩
  ·obtain ⟨c',z⟩:=h; exact ⟨c',(gn i c).trans z⟩
 refine ⟨j,e1,by rw [Array.size_setIfInBounds]; exact L.sz,fun i c z=>?_,fun c hc=>?_,fun i i' c z z'=>?_⟩
 ·by_cases h:i=j
  ·subst h; replace z:=gs▸z; cases z;exact ⟨lt_succ_self _,n,e2,fun n' h=>up (e5 n' h)⟩
  ·rw [gn i h] at z;obtain ⟨a,n,b,d⟩:=L.way _ _ z;exact ⟨Nat.lt_succ_of_lt a,n,b,fun n' h=>up (d n' h)⟩
 ·rcases Nat.lt_or_eq_of_le (Q8 hc) with h | h
  ·obtain ⟨i,z⟩:=L.all c h;exact ⟨i,(gn i fun q=>e4 ⟨c,q▸z⟩).trans z⟩
  ·subst h; exact ⟨j,gs⟩
 ·by_cases h:i=j <;> by_cases h':i'=j
  ·exact h.trans h'.symm
  ·subst h; rw [gs] at z; cases z; rw [gn i' h'] at z'; exact absurd (L.way _ _ z').1 (lt_irrefl _)
  ·subst h'; rw [gs] at z'; cases z'; rw [gn i h] at z; exact absurd (L.way _ _ z).1 (lt_irrefl _)
  ·rw [gn i h] at z; rw [gn i' h'] at z'; exact L.inj _ _ _ z z'
end
noncomputable def yi (m:Nat) (EJ:Option (Array (Option Nat)×Nat)) (h:Int):Option (Array (Option Nat)×Nat):=do
  let (owner,k) <- EJ
  let j <- layClean.free m owner (turns m) (bits h % (m+1)) (bits h)
  pure (owner.setIfInBounds j (some k),k+1)
theorem o8 (hm:Msk m):∀ (l:List Int) (O:Array (Option Nat)) (k:Nat),(∀ i h,l[i]?=some h->H (k+i)=h)->k+l.length<=m+1->LInv m H O k ->
  ∃ O',l.foldl (yi m) (some (O,k))=some (O',k+l.length)/\LInv m H O' (k+l.length)
 | [],O,k,_,_,L=>⟨O,rfl,L⟩
 | h :: l,O,k,hH,hk,L=>by
  have e0:H k=h:=hH 0 h rfl;obtain ⟨j,e,L'⟩:=L.step hm (by rw [zB4] at hk; lia);obtain ⟨O',e',L''⟩:=o8 hm l _ (k+1) (fun i x z=>by rw [add_right_comm]; exact hH (i+1) x z) (by rw [zB4] at hk; lia) L';rw [add_right_comm] at e' L'';refine ⟨O',?_,L''⟩;rw [foldl_cons];refine Eq.trans (congrArg (foldl _ · l) ?_) e';rw [e0] at e;refine (?_:(layClean.free m O (turns m) (bits h % (m+1)) (bits h)).bind _=_);rw [e]; rfl
theorem cg:∀ l:List α,(List.range l.length).filterMap (l[·]?)=l
 | []=>rfl
 | x :: l=>by
  rw [zB4,List.range_succ_eq_map,filterMap_cons,List.filterMap_map];exact congrArg (x :: ·) (cg l)
theorem c8 {α β:Type} {f:α->Option β}:∀ {l:List α},(∀ a∈l,(f a).isSome)->∀ i:Nat,(l.filterMap f)[i]?=l[i]?.bind f
 | [],_,_=>rfl
 | a :: l,h,i=>by
  obtain ⟨b,hb⟩:=isSome_iff_exists.mp (h a (.head _));refine filterMap_cons.symm▸hb.symm▸?_;cases i with
  | zero=>exact hb.symm
  | succ i=>exact c8 (fun a q=>h a (.tail _ q)) i
def yk {β:Type} {es:Array (Int×β)} {m:Nat} (hm:Msk m) (hk:es.size<=m) (fi mv:Nat) (led pl:Bool):∃ t E9,laid m fi mv led pl (es.map (·.1))=some (t,E9)/\t.mask=m /\
  (E9.filterMap (es[·]?)).toList.Perm es.toList/\Tab t (E9.filterMap (es[·]?))/\E9.toList.Perm (List.range es.size):=by
 have e0:LInv m (fun i=>(es[i]?.map (·.1)).getD 0) (Array.replicate (m+1) none) 0:=by
  have no:∀ j c:Nat,(Array.replicate (m+1) (none:Option Nat))[j]?≠some (some c):=fun j c z=>by
   rw [Array.getElem?_replicate] at z;split at z <;> cases z
  exact ⟨Array.size_replicate,fun j c z=>absurd z (no j c),fun c h=>absurd h (not_lt_zero _),fun j U c z=>absurd z (no j c)⟩
 obtain ⟨O,e1,L⟩:=o8 hm (es.toList.map (·.1)) _ 0 (fun i h z=>by rw [getElem?_map,Q2] at z; rw [zero_add,z]; rfl) (by rw [zA4,zB3]; lia) e0;rw [zero_add,zA4,zB3] at e1 L;have e2:layClean m (es.map (·.1))=some O:=by
  unfold layClean;rw [<- Array.foldl_toList,toList_map];exact (congrArg (Option.map _) e1).trans rfl
 have P:(((live m O).map (·.2)).toArray.filterMap (es[·]?)).toList.Perm es.toList:=by
  rw [toList_filterMap];refine (Perm.filterMap _ (eR L)).trans (.of_eq ?_);have:=cg es.toList;simpa only [Q2,zB3] using this
 refine ⟨{ mask:=m,place:=dg m O,dummies:=#[],finger:=fi,led:=led,moves:=mv,plain:=pl },((live m O).map (·.2)).toArray,?_,rfl,P,?_,eR L⟩
 ·unfold laid; rw [e2]; rfl
 ·have hs:∀ c∈(live m O).map (·.2),(es[c]?).isSome:=fun c hc=>by
   rw [Array.getElem?_eq_getElem (mem_range.mp ((eR L).mem_iff.mp hc))]; rfl
  have hg:∀ i:Nat,((((live m O).map (·.2)).toArray.filterMap (es[·]?)))[i]?=((live m O)[i]?.map (·.2)).bind (es[·]?):=fun i=>by
   rw [<- Q2,toList_filterMap,c8 hs,getElem?_map]
  refine ⟨hm,rfl,?_,place_rise,fun i j e=>?_,fun i j e ej ee=>?_⟩
  ·exact (jc L).trans ((length_toList.symm.trans P.length_eq.symm).trans zB3)
  ·obtain ⟨c,ec⟩:=dq e;have:=Array.getElem?_eq_some_iff.mp ((cj L.sz).mp (mem_of_getElem? ec));exact Q8 (Nat.lt_of_lt_of_eq this.1 L.sz)
  ·obtain ⟨c,ec⟩:=dq ej;rw [hg,ec] at ee;have ee:es[c]?=some e:=ee;obtain ⟨_,n,a,b⟩:=L.way _ _ ((cj L.sz).mp (mem_of_getElem? ec));rw [ee] at a b;exact ⟨n,a,fun n' q=>(oS L).mpr (b n' q)⟩
def wY (m x pt:Nat):(beg m (x % (m+1)) pt).j+(beg m (x % (m+1)) pt).more<=m:=by
 have h:=wq (Q8 (mod_lt x (succ_pos m)):x % (m+1)<=m);exact zB1 (zB2 (Q5 h.1)) h.2
theorem zE:∀ n p,p.j+p.more<=m->(it m n p).j+(it m n p).more<=m
 | 0,_,h=>h
 | n+1,p,h=>by
  refine zE n (adv m p) ?_;unfold adv;split
  ·rename_i q;refine (?_:p.j+1+(p.more - 1)<=m);rw [add_assoc,Q5 q]; exact h
  ·exact wY m (p.i * 5+1+p.perturb / 32) 0
def AD (m:Nat) (h:Int) (n:Nat):(pos m h n).j<=m:=
 zB1 (Q3 _ _) (zE n (beg m (bits h % (m+1)) (bits h)) (wY m _ _))
def wQ (m:Nat) (h:Int) (a b:Nat):it m b (pos m h a)=pos m h (a+b):=(it_add m a b _).symm
def vj (h:Msk m):(m % 2==0)=false:=by rcases h with rfl | rfl | rfl | rfl | rfl | rfl <;> rfl
section
variable {prog:Program} {w:World} {K:Type} [DecidableEq K] {kd:KeyKind prog w K} {A:Around} {E:Value->Shared->Prop} {s:Shared}
def Ae (kd:KeyKind prog w K) (h:Heap) (es:List (Int×Value)):Prop:=∀ e∈es,∃ ks c,e=(tupleKeyHash kd ks,.ref c)/\IsTupleKey kd h ks c
def IsK (kd:KeyKind prog w K) (h:Heap) (ks:List K) (e:Int×Value):Prop:=∃ c,e=(tupleKeyHash kd ks,.ref c)/\IsTupleKey kd h ks c
theorem Tab.fits (T:Tab t es) (hf:es.size<=t.mask):t.fits es.size=true:=by
 unfold SetTable.fits SetTable.fill;rw [T.sz,T.dm];simpa using hf
def il (hk:IsTupleKey kd s.heap ks b) (h:Q false s):wpAny (model prog w) A (ofAClassStatement 8 (.ref b)) Q E s:=by
 have hT:=hk.typeIs;obtain ⟨o,items,n,ho,_,hd,hi⟩:=hk;unfold ofAClassStatement;refine zC1 (wpAny_typeOf hT ?_);refine (?_:wpAny _ _ (pure true >>= _) _ _ s);refine zC1 (zC2 ?_);refine (?_:wpAny _ _ (seqItems? (.ref b) >>= _) _ _ s);refine zC1 (wpAny_seqItems ho hd ?_);dsimp only;refine zC1 ?_;rw [<- forIn_toList];refine wpAny_forIn_list _ (fun rest r s'=>r.1=none/\s'=s/\∀ v∈rest,carriedByValue v=true) _ ?_ ?_ _ _ ⟨rfl,rfl,hi.byValue⟩
 ·rintro v rest r s' ⟨hr,rfl,hall⟩;have hv:=hall v mem_cons_self;have e:ofAClassStatement 7 v=pure false:=by cases v <;> first | rfl | (unfold ofAClassStatement; rfl) | (injection hv; done)
  rw [e];refine zC1 (zC2 ?_);exact zC2 ⟨rfl,rfl,fun u hu=>hall u (List.mem_cons_of_mem _ hu)⟩
 ·rintro ⟨r1,r2⟩ s' ⟨hr,rfl,_⟩;subst hr;exact wpAny_pure h
def Ao (hk:IsTupleKey kd s.heap ks b) (hl:∀ v∈l,∃ EG c,v=.ref c/\IsTupleKey kd s.heap EG c) (h:Q false s) :
  wpAny (model prog w) A (searchCouldBeSeen (.ref b) l) Q E s:=by
 unfold searchCouldBeSeen;refine zC1 ?_;refine wpAny_forIn_list _ (fun rest r s'=>r.1=none/\s'=s/\∀ v∈rest,v∈l) _ ?_ ?_ _ _ ⟨rfl,rfl,fun U h=>h⟩
 ·rintro v rest r s' ⟨hr,rfl,hall⟩;obtain ⟨EG,c,rfl,hc⟩:=hl v (hall v mem_cons_self);have nx:∀ u∈rest,u∈l:=fun u hu=>hall u (List.mem_cons_of_mem _ hu);dsimp only;by_cases q:(b==c||(carriedByValue (.ref b)&&carriedByValue (.ref c)))=true
  ·rw [if_pos q]; exact zC2 ⟨rfl,rfl,nx⟩
  ·rw [if_neg q];refine zC1 (wpAny_eqIsQuiet_tuple hk ?_);refine zC1 (wpAny_eqIsQuiet_tuple hc ?_);refine zC1 (il hk ?_);refine zC1 (il hc ?_);exact zC2 ⟨rfl,rfl,nx⟩
 ·rintro ⟨r1,r2⟩ s' ⟨hr,rfl,_⟩;subst hr;exact wpAny_pure h
def xQ (t:SetTable):t.sameMemory t.moves t.mask=some true:=by unfold sameMemory; rw [beq_self_eq_true]; rfl
def Am [Decidable c] (hm:∀ Q':Bool->Shared->Prop,Q' false s->wpAny M A m Q' E s) (h:wpAny M A y Q E s):wpAny M A (if c then m >>= fun r=>if r=true then u else y else y) Q E s:=
 wpAny_ite_split (fun U=>zC1 (hm _ (wpAny_ite_false rfl h))) fun U=>h
def tB {S:Addr} (hu:A.units < cLine) (ho:s.heap.get? S=some o) (hd:o.data=.set es ep t) (T:Tab t es) (hf:es.size<=t.mask)
  (he:Ae kd s.heap es.toList) (hk:IsTupleKey kd s.heap ks b) (H4:(∃ e∈es.toList,IsK kd s.heap ks e)->Q (.there none) s)
  (J7:∀ j,Way t (tupleKeyHash kd ks) j->¬ In t j->j<=t.mask->(∀ e∈es.toList,¬ IsK kd s.heap ks e)->Q (.free j false) s) :
  ∀ d Ei n stand,d < Ei->¬ In t (pos t.mask (tupleKeyHash kd ks) (n+d)).j->stand.getD (t.probeStart (tupleKeyHash kd ks))=pos t.mask (tupleKeyHash kd ks) n ->
   (∀ n',n' < n->∃ i:Nat,t.place[i]?=some (pos t.mask (tupleKeyHash kd ks) n').j/\∀ e,es[i]?=some e->¬ IsK kd s.heap ks e)->wpAny (model prog w) A (setSearchFrom S (.ref b) (tupleKeyHash kd ks) true Ei stand) Q E s:=by
 intro d;induction d using Nat.strongRecOn with
 | _ d ih=>
 intro Ei n stand J6 hem FE JF;obtain ⟨Ei,rfl⟩:=Nat.exists_eq_succ_of_ne_zero (ne_of_gt (Q1 (zero_le _) J6));have FI:=T.fits hf;refine zC1 (wpAny_setState_of ho hd FI ?_);refine wpAny_ite_false (c:=t.gaveWay=true) (by rw [show t.gaveWay=false from vj T.msk]; rfl) ?_;generalize hm:t.probe _ _ _=met;replace hm:=hm.symm.trans (congrArg (t.probe _ _) FE);obtain ⟨N,hN,hNe⟩:=T.gap (T.sz▸hf) (tupleKeyHash kd ks) n;obtain ⟨n1,_,h2,h3⟩:=yz (hashAt:=fun i=>(es[i]?.map (·.1)).getD 0) (h:=tupleKeyHash kd ks) T.dm T.rise N (10 * turns t.mask) (pos t.mask (tupleKeyHash kd ks) n) hN (zF rfl) hNe;simp only [wQ] at h2 h3;have G3:∀ n',n' < n+n1->∃ i:Nat,t.place[i]?=some (pos t.mask (tupleKeyHash kd ks) n').j/\∀ e,es[i]?=some e->¬ IsK kd s.heap ks e:=fun n' q=>by
  by_cases c:n' < n
  ·exact JF n' c
  ·obtain ⟨i,e1,e2⟩:=h2 (n' - n) (sub_lt_left_of_lt_add (le_of_not_lt c) q);rw [Q5 (le_of_not_lt c)] at e1;refine ⟨i,e1,fun e ee=>?_⟩;rintro ⟨c,rfl,_⟩;exact e2 (by rw [ee]; rfl)
 rcases h3 with ⟨h3,h4⟩ | ⟨i,h3,h5,h4⟩
 ·have hm:=hm.trans h4;subst hm;refine zC2 (J7 _ ⟨_,rfl,fun n' q=>(G3 n' q).imp fun U z=>z.1⟩ h3 (AD _ _ _) fun e KD ⟨c,hec,hc⟩=>?_);obtain ⟨i,hi⟩:=getElem?_of_mem KD;rw [Q2] at hi;have hp:t.place[i]?=some (t.place.getD i 0):=by
   have:i < t.place.size:=by rw [T.sz]; exact (Array.getElem?_eq_some_iff.mp hi).1
   simp [this]
  obtain ⟨n0,e0,a0⟩:=T.way _ _ _ hp hi;subst hec;by_cases q:n0 < n+n1
  ·obtain ⟨i',e1,e2⟩:=G3 n0 q;rw [e0] at e1;obtain rfl:=oR T.rise e1 hp;exact e2 _ hi ⟨c,rfl,hc⟩
  ·by_cases q':n0=n+n1
   ·exact h3 ⟨i,by rw [<- q',e0]; exact hp⟩
   ·exact h3 (a0 _ (lt_of_le_of_ne (le_of_not_lt q) (Ne.symm q')))
 ·have hm:=hm.trans h4;subst hm;have Et:n1 < d:=by
   rcases lt_or_ge n1 d with q | q
   ·exact q
   ·refine absurd ?_ hem;by_cases q':d=n1
    ·rw [q']; exact ⟨i,h3⟩
    ·exact (G3 (n+d) (add_lt_add_left (lt_of_le_of_ne q q') n)).imp fun U z=>z.1
  have hie:∃ e,es[i]?=some e:=⟨_,Array.getElem?_eq_getElem (by rw [<- T.sz]; exact (Array.getElem?_eq_some_iff.mp h3).1)⟩;obtain ⟨e,hi⟩:=hie;have KD:e∈es.toList:=mem_of_getElem? (Q2▸hi);obtain ⟨EG,c,rfl,hc⟩:=he e KD;refine Am (fun Q' h=>Ao hk (fun v hv=>?_) h) ?_
  ·obtain ⟨e,KJ,rfl⟩:=zA7 hv;rw [Array.toList_filter] at KJ;obtain ⟨ks2,c2,rfl,G6⟩:=he e (mem_filter.mp KJ).1;exact ⟨ks2,c2,rfl,G6⟩
  refine hi.symm▸zC1 (wpAny_holding (wpAny_eqBool_tuple hu hc hk ?_));refine zC1 (wpAny_setState_of ho hd FI ?_);by_cases q:EG=ks
  ·subst q;exact wpAny_ite_true (decide_eq_true (decide_eq_true rfl)) (zC2 (H4 ⟨_,KD,c,rfl,hc⟩))
  ·refine wpAny_ite_false (decide_eq_false (eq_false_iff.mp (decide_eq_false q))) ?_;have hs:t.slot (pos t.mask (tupleKeyHash kd ks) (n+n1)).j=.live i:=by
    rcases slot_is T.dm T.rise (pos t.mask (tupleKeyHash kd ks) (n+n1)).j with ⟨i',e1,e2⟩ | ⟨e1,_⟩
    ·rw [e2,oR T.rise e1 h3]
    ·exact absurd h3 (e1 i)
   refine (xQ t).symm▸?_;dsimp only;refine ((if_pos rfl).trans hs).symm▸?_;dsimp only;refine hi.symm▸?_;refine zC1 (wpAny_isSame_ref_self (zC1 (zC2 ?_)));refine wpAny_ite_false (decide_eq_false (eq_false_iff.mp (decide_eq_false q))) ?_;have Fc:d - (n1+1) < d:=Nat.sub_lt (Q1 (zero_le _) Et) (succ_pos _);refine ih (d - (n1+1)) Fc Ei (n+n1+1) _ (Q0 Fc (Q8 J6)) (by rw [show n+n1+1+(d - (n1+1))=n+d from (add_assoc n (n1+1) _).trans (congrArg (n + ·) (Q5 Et))]; exact hem) rfl fun n' z=>?_;by_cases c':n' < n+n1
   ·exact G3 n' c'
   ·rw [le_antisymm (Q8 z) (le_of_not_lt c')];refine ⟨i,h3,fun e ee=>?_⟩;rw [hi] at ee; (injection ee with ee; subst ee);rintro ⟨c2,G6,LC⟩;exact q (hc.inj (Value.ref.inj (congrArg Prod.snd G6)▸LC))
end
section
variable {prog:Program} {w:World} {A:Around} {E:Value->Shared->Prop} {s:Shared}
def qL (hk:IsTupleKey (aD prog w) s.heap (.inr x :: ks) b) (h:Q false s):wpAny (model prog w) A (hashByValue 8 (.ref b)) Q E s:=by
 have hT:=hk.typeIs;obtain ⟨o,items,n,ho,_,hd,hi⟩:=hk;unfold hashByValue;refine zC1 (wpAny_specialOf hT F.slot_tuple_hash.lookup ?_);dsimp only;refine zC1 (wpAny_seqItems ho hd ?_);obtain ⟨l⟩:=items;cases hi with
 | cons hv _=>
  obtain ⟨t,rfl⟩:=Value.isStrOf_shape hv;rw [<- forIn_toList];refine zC1 ?_;refine (?_:wpAny _ _ (forIn (_ :: _) _ _) _ _ _);rw [forIn_cons];exact (bPu (zC2 (wpAny_pure h)))
inductive TS (h:Heap) (S:Addr) (es:Array (Int×Value)) (L:Bool):Prop
 | mk (o:Obj) (ep:Nat) (t:SetTable) (ho:h.get? S=some o) (Ff:o.ExactSet) (hd:o.data=.set es ep t) (T:Tab t es) (hr:es.size * 5 < t.mask * 3) (hl:t.led=L):TS h S es L
theorem TS.to {h h':Heap} {S:Addr} {es:Array (Int×Value)} {L:Bool} (x:TS h S es L) (e:h'.get? S=h.get? S):TS h' S es L:=x.casesOn fun o ep t ho Ff hd T hr hl=>⟨o,ep,t,e.trans ho,Ff,hd,T,hr,hl⟩
def oz:(insertAt es p x).toList.Perm (x :: es.toList):=by
 unfold insertAt;rw [toList_append,toList_push,toList_extract,toList_extract,append_assoc,extract_eq_take_drop,extract_eq_take_drop,drop_zero,sub_zero,<- zB3,<- length_drop,take_length];exact List.perm_middle.trans (.cons _ (.of_eq (take_append_drop p es.toList)))
theorem Tab.off (T:Tab t es):Tab { t with plain:=false } es:=⟨T.msk,T.dm,T.sz,T.rise,T.le,T.way⟩
def AM {t:SetTable} (h:t.plain=false):{ t with plain:=false }=t:=by cases t; subst h; rfl
def yA (T:Tab t es):t.tooFull=decide (t.mask * 3<=es.size * 5):=by
 unfold SetTable.tooFull SetTable.fill;rw [T.sz,T.dm]; rfl
def bJ [Decidable c] (h:¬ c) (x:wpAny M A e Q E s):wpAny M A (if c then t else e) Q E s:=by rw [if_neg h]; exact x
def ya (h:n * 5 < c) (q:c<=(n+1) * 5) (h1:c<=(k+1) * 5) (h2:k * 5 < c):n=k:=le_antisymm (Q8 (lt_of_mul_lt_mul_right (Q0 h h1))) (Q8 (lt_of_mul_lt_mul_right (Q0 h2 q)))
def yy (hm:Msk m) (h:n * 5 < m * 3) (q:m * 3<=(n+1) * 5) (hn:n < 4500):∃ m',sizeAbove (grown (n+1))=m' + 1/\Msk m'/\(n+1) * 5 < m' * 3/\m' + 1<=sizeLine:=by
 rcases hm with rfl | rfl | rfl | rfl | rfl | rfl
 ·obtain rfl:n=4:=ya h q (by decide) (by decide);exact ⟨31,by decide,.inr (.inl rfl),by decide,by decide⟩
 ·obtain rfl:n=18:=ya h q (by decide) (by decide);exact ⟨127,by decide,.inr (.inr (.inl rfl)),by decide,by decide⟩
 ·obtain rfl:n=76:=ya h q (by decide) (by decide);exact ⟨511,by decide,.inr (.inr (.inr (.inl rfl))),by decide,by decide⟩
 ·obtain rfl:n=306:=ya h q (by decide) (by decide);exact ⟨2047,by decide,.inr (.inr (.inr (.inr (.inl rfl)))),by decide,by decide⟩
 ·obtain rfl:n=1228:=ya h q (by decide) (by decide);exact ⟨8191,by decide,.inr (.inr (.inr (.inr (.inr rfl)))),by decide,by decide⟩
 ·exact absurd (zB1 q (Nat.mul_le_mul_right 5 hn)) (by decide)
def Ds (h:a * 5 < b * 3):a<=b:=le_of_lt (lt_of_mul_lt_mul_right (Q0 h (mul_le_mul_left b (by decide:3<=5))))
def tW (hm:Msk m) (h:N < 10 * turns m):N < 100000:=by rcases hm with rfl | rfl | rfl | rfl | rfl | rfl <;> exact Q0 h (by decide)
noncomputable def rY (S:Addr) (is:Array (Int×Value)) (t:SetTable) (n:Nat):Sem Bool:=do
 storeSet S is t
 if !false&&t.tooFull then setRelay S (SetTable.grown n)
 return true
def sM {h:Heap} {S:Addr} {o:Obj} {es is:Array (Int×Value)} {ep:Nat} {t t1:SetTable} (ho:h.get? S=some o) (hd:o.data=.set es ep t):(h.update S (putSet is t1)).get? S=some { o with data:=.set is (ep+1) t1 }:=
 putSet_of _ _ hd▸get?_update_self (putSet is t1) ho (by rw [putSet_of _ _ hd]; rfl)
def ty {S:Addr} {o:Obj} {es is:Array (Int×Value)} {ep:Nat} {t t1:SetTable} {L:Bool} {Q:Bool->Shared->Prop} (ho:s.heap.get? S=some o) (Ff:o.ExactSet) (hd:o.data=.set es ep t) (T:Tab t1 is) (EH:t1.led=L)
  (hs:is.size=es.size+1) (hr:es.size * 5 < t1.mask * 3) (hn:es.size < 4500) (EX:∀ h' Ge,SameBut S s.heap h'->TS h' S Ge L->Ge.toList.Perm is.toList->Q true { s with heap:=h' }) :
  wpAny (model prog w) A (rY S is t1 (es.size+1)) Q E s:=by
 have hz:is.size<=4500:=hs▸hn;refine zC1 (wpAny_storeSet_of ho hd ?_ (zB1 hz (by decide)));have KI:(s.heap.update S (putSet is t1)).get? S=some { o with data:=.set is (ep+1) t1 }:=sM ho hd;have sb1:SameBut S s.heap (s.heap.update S (putSet is t1)):=.update ..;have J6:=yA T;by_cases q:t1.mask * 3<=is.size * 5
 ·refine wpAny_ite_true (c:=(!false&&t1.tooFull)=true) (by rw [J6,decide_eq_true q]; rfl) ?_;obtain ⟨m',e1,e2,e3,e4⟩:=yy T.msk hr (hs▸q) hn;refine zC1 (zC1 (wpAny_setState_of KI rfl (T.fits (hs▸lt_of_mul_lt_mul_right (Q0 hr (mul_le_mul_left _ (by decide:3<=5))))) ?_));refine bJ (c:=sizeAbove (grown (es.size+1)) > sizeLine) (e1▸not_lt.mpr e4) ?_;obtain ⟨t3,E9,e5,e6,e7,T3,_⟩:=yk (es:=is) e2 (hs▸Ds e3) t1.finger (movedTo t1 m') t1.led t1.plain;have e9:t3.led=t1.led:=by
   obtain ⟨a,_,e5⟩:=bind_eq_some_iff.mp e5;cases e5; rfl
  refine zC1 ?_;rw [show t1.relaid (is.map (·.1)) (grown (es.size+1))=_ from (congrArg (fun z=>laid (z - 1) t1.finger (movedTo t1 (z - 1)) t1.led t1.plain _) e1).trans e5];have e8:(E9.filterMap (is[·]?)).size=is.size:=by rw [<- zB3,e7.length_eq,zB3]
  refine bJ (by rw [e8,bne_self_eq_false]; exact Bool.false_ne_true) (zC2 ?_);refine wpAny_storeSet_of KI rfl (zC2 ?_) (zB1 (e8▸hz) (by decide));exact EX _ _ (sb1.trans (.update _ S (putSet (E9.filterMap (is[·]?)) t3))) ⟨_,_,_,sM KI rfl,Ff,rfl,T3,by rw [e8,hs,e6]; exact e3,e9.trans EH⟩ e7
 ·exact wpAny_ite_false (c:=(!false&&t1.tooFull)=true) (by rw [J6,decide_eq_false q]; rfl) ((bPu (zC2 (EX _ is sb1 ⟨_,_,_,KI,Ff,rfl,T,not_le.mp q,EH⟩ (.refl _)))))
def qp {S b:Addr} {es:Array (Int×Value)} {L:Bool} {ks:List Sc} {x:Str} {Q:Bool->Shared->Prop} (hu:A.units < cLine) (T:TS s.heap S es L) (he:Ae (aD prog w) s.heap es.toList) (hk:IsTupleKey (aD prog w) s.heap (.inr x :: ks) b) (hn:es.size < 4500)
  (Lw:(∃ e∈es.toList,IsK (aD prog w) s.heap (.inr x :: ks) e)->∀ tk,Q false { s with toks:=tk })
  (EX:∀ h' Ge tk,SameBut S s.heap h'->TS h' S Ge L->Ge.toList.Perm ((tupleKeyHash (aD prog w) (.inr x :: ks),.ref b) :: es.toList)->(∀ e∈es.toList,¬ IsK (aD prog w) s.heap (.inr x :: ks) e)->Q true { s with heap:=h',toks:=tk }) :
  wpAny (model prog w) A (setAdd S (.ref b)) Q E s:=by
 obtain ⟨o,ep,t,ho,Ff,hd,T,hr,hL⟩:=T;have hf:=Ds hr;have FI:=T.fits hf;refine wpAny_holding (zC1 (wpAny_pyHash_tuple hu hk ?_));generalize s.toks+_=tk0;refine wpAny_holding (zC1 (wpAny_setState_of ho hd FI ?_));refine bJ (c:=byScan (.ref b) es=true) Bool.false_ne_true ?_;obtain ⟨N,hN,hg⟩:=T.gap (T.sz▸hf) (tupleKeyHash (aD prog w) (.inr x :: ks)) 0;rw [wQ] at hg;refine zC1 (tB (kd:=aD prog w) (s:={ s with toks:=tk0 }) (n:=0) (stand:=none) hu ho hd T hf he hk (fun q=>zC2 (Lw q _)) (fun j hw hj hl Ly=>?_) N 100000 (tW T.msk hN) hg rfl fun U q=>absurd q (not_lt_zero _));refine zC1 (wpAny_setState_of ho hd FI ?_);obtain ⟨em,es1,T1⟩:=T.put (x:=Value.ref b) hw hj hl;have key:∀ tk,wpAny (model prog w) A (rY S (insertAt es (t.put j).2 (tupleKeyHash (aD prog w) (.inr x :: ks),.ref b)) { (t.put j).1 with plain:=false } (es.size+1)) Q E { s with toks:=tk }:=fun tk=>
  ty (s:={ s with toks:=tk }) ho Ff hd T1.off hL (T1.sz.symm.trans es1) (em.symm▸hr) hn fun h' Ge sb ts pe=>EX h' Ge tk sb ts (pe.trans oz) Ly
 cases hpt:t.plain with
 | false=>exact wpAny_ite_false (c:=(t.put j).1.plain=true) (decide_eq_false (by refine (?_:¬ t.plain=true); rw [hpt]; exact Bool.false_ne_true)) ((bPu (AM (t:=(t.put j).1) hpt▸key tk0)))
 | true=>exact wpAny_ite_true (c:=(t.put j).1.plain=true) (decide_eq_true hpt) (zC1 (qL (s:={ s with toks:=tk0 }) hk (key _)))
end
end Mine
end
noncomputable section
namespace Mine
open PySem PySem.Calls PyProof.Rows
section
variable {prog:Program} {w:World} {A:Around} {E:Value->Shared->Prop} {s:Shared}
noncomputable abbrev fT (w:World):Obj:={ cls:=.type "set",dict:=none,data:=.set #[] 0 (.fresh 0 0 (!w.params.followText "set-order")) }
def kM (a:Value) (h:Q₁ (.ref s.heap.objs.size) { s with heap:=s.heap.push (fT w) }) :
  codeAny (model prog w) A (.call (.builtin "set.__new__") ⟨[.type "set",a],[]⟩) (wants Q₁ E) s:=by
 refine codeAny_of_tree ?_
 (refine (?_:wpAny _ A.in1 (do checkBuiltinCall "set.__new__" ⟨[.type "set",a],[]⟩; again (.builtin "set.__new__" ⟨[.type "set",a],[]⟩)) _ _ s))
 refine zC1 (wpAny_of_eq (PySem.F.newCall_set_1 a) (zC2 ⟨plainId_quiet PySem.F.plain_set_new _,codeAny_builtin PySem.F.entry_set_new ?_⟩));rw [under_plainId PySem.F.plain_set_new _];unfold Builtin.«set.__new__» Builtin.Frozenset.newClass;have FD:=sub_set_self;obtain ⟨hp,g,d,tk,os⟩:=s;dsimp only
 wp_walk
 refine wpAny_askSetting (zC2 ?_);dsimp only;simp only [newObj];refine zC1 (wpAny_alloc (zC2 ?_));exact wpAny_pure h
structure Fills (prog:Program) (w:World) (h₀:Heap) (S:Addr) (P:Nat->Value->Prop) (n:Nat) (Z:Nat->Heap->Prop):Prop where
 frame:∀ i h h',Z i h->h'.get? S=h.get? S->Z i h'
 live:∀ i h,Z i h->aW h S
 start:∀ h:Heap,h.get? S=some (fT w)->Z 0 h
 add:∀ i v (s:Shared) (A:Around),A.units < cLine->i < n->P i v->aL h₀ s.heap->Z i s.heap->∀ (Q:Bool->Shared->Prop) (E:Value->Shared->Prop),
  (∀ b h' tk,SameBut S s.heap h'->Z (i+1) h'->Q b { s with heap:=h',toks:=tk })->wpAny (model prog w) A (setAdd S v) Q E s
def o9 {l:List Addr} (k:aL h₀ h) (hl:∀ b∈l,h₀.get? b=none) (m:∀ b o,b∉l->h.get? b=some o->h'.get? b=some o):aL h₀ h':=fun b o e=>m b o (fun q=>by rw [hl b q] at e; (injection e; done)) (k b o e)
def uZ {R:Result->Shared->Prop} {I S:Addr} {fp wr:List Addr} {P:Nat->Value->Prop} {St Z:Nat->Heap->Prop} {n:Nat} {h₀:Heap} (W:Walks prog w A.in1 I fp wr n P St) (hu:A.in1.units < cLine) (hSf:S∉fp) (hS0:h₀.get? S=none) (hw:∀ b∈wr,h₀.get? b=none)
  (Fl:Fills prog w h₀ S P n Z):∀ (k i:Nat) (s:Shared),n - i=k->i<=n->St i s.heap->Z i s.heap->aL h₀ s.heap ->
   (∀ h' tk,aL h₀ h'->Z n h'->R (.ok (.ret .none)) { s with heap:=h',toks:=tk }) ->
   codeAny (model prog w) A (.builtin "set.update.loop" ⟨[.ref S,.ref I],[]⟩) R s:=by
 have hSw:S∉wr:=fun h=>hSf (W.sub _ h);intro k;induction k with
 | zero=>
  intro i s hk hi FE hZ hK hR;obtain rfl:=show i=n from le_antisymm hi (Nat.sub_eq_zero_iff_le.mp hk)
  refine codeAny_builtin PyProof.Rows.F.entry_set_update_loop ?_;rw [under_plainId PyProof.Rows.F.plain_set_update_loop _];refine (?_:wpAny _ A.in1 (pyNext (.ref I) >>= _) _ _ s);refine zC1 (W.done s _ _ FE fun h' tk hm=>?_);refine (?_:wpAny _ A.in1 (ret Value.none) _ _ _);obtain ⟨o,ho⟩:=Fl.live _ _ hZ;exact zC2 (hR h' tk (o9 hK hw hm) (Fl.frame _ _ _ hZ ((hm S o hSw ho).trans ho.symm)))
 | succ k ih=>
  intro i s hk hi FE hZ hK hR;have Et:i < n:=Nat.lt_of_sub_eq_succ hk;refine codeAny_builtin PyProof.Rows.F.entry_set_update_loop ?_;rw [under_plainId PyProof.Rows.F.plain_set_update_loop _];refine (?_:wpAny _ A.in1 (pyNext (.ref I) >>= _) _ _ s);refine zC1 (W.item i s _ _ Et FE fun v Ej IV hP G5 hm=>?_);obtain ⟨o,ho⟩:=Fl.live _ _ hZ;have hl1:=hm S o hSw ho;have hK1:=o9 hK hw hm;refine (?_:wpAny _ A.in1 (holding [v] (setAdd S v) >>= _) _ _ _);refine zC1 (wpAny_holding (Fl.add i v _ _ hu Et hP hK1 (Fl.frame _ _ _ hZ (hl1.trans ho.symm)) _ _ fun b h' tk F5 hZ'=>?_));have hK2:aL h₀ h':=fun b o e=>by
   by_cases q:b=S
   ·subst q; rw [hS0] at e; (injection e; done)
   ·exact (F5.2 b q).trans (hK1 b o e)
  refine zC2 ⟨plainId_quiet PyProof.Rows.F.plain_set_update_loop _,ih (i+1) { s with heap:=h',toks:=tk } (congrArg Nat.pred hk) Et (W.frame _ _ _ G5 fun b hb o e=>(F5.2 b fun q=>hSf (q▸hb)).trans e) hZ' hK2 hR⟩
def B3 (prog:Program) (w:World) (h₀:Heap) (x:Value) (n:Nat) (P:Nat->Value->Prop):Prop:=∀ (s:Shared) (A:Around) (Q:Value->Shared->Prop) (E:Value->Shared->Prop),aL h₀ s.heap ->
 (∀ I fp wr St h',aL s.heap h'->(∀ b∈wr,s.heap.get? b=none)->(∀ b∈fp,s.heap.get? b=none\/aW h₀ b)->(∀ A:Around,A.handled=none->Walks prog w A I fp wr n P St)->St 0 h'->Q (.ref I) { s with heap:=h' })->wpAny (model prog w) A (pyIter x) Q E s
set_option maxHeartbeats 3200000 in
def gC {x:Value} {T:String} {n:Nat} {P:Nat->Value->Prop} {Z:Nat->Heap->Prop} {Q:Value->Shared->Prop} (hh:A.handled=none) (hu:A.units+100 < cLine) (hT:∀ s':Shared,aL s.heap s'.heap->s'.TypeIs x T) (Lu:isSubtype (.type T) (.type "set")=pure false) (Gw:isSubtype (.type T) (.type "frozenset")=pure false)
  (EA:(Value.type T==Value.type "dict")=false) (go:B3 prog w s.heap x n P) (Fl:Fills prog w s.heap s.heap.objs.size P n Z)
  (h:∀ (h':Heap) (tk:Nat),Z n h'->aL s.heap h'->Q (.ref s.heap.objs.size) { s with heap:=h',toks:=tk }):wpAny (model prog w) A (call (.type "set") [x]) Q E s:=by
 obtain ⟨c,tl,hmro⟩:=PySem.F.called_set.mro;have hmade:=PySem.F.called_set.made;have FD:=PySem.F.called_set.sub;refine wpAny_call (codeAny_of_tree ?_);refine (?_:wpAny _ _ (callAny (.type "set") _) _ _ _);refine zC2 ⟨Code.quiet_builtin _ (by decide +kernel),codeAny_builtin PySem.F.entry_type_call ?_⟩;rw [Around.under_plain (weight_type_call_type "set" [x] []) rfl];have h1:=PySem.F.called_set.notType;have h2:=PySem.F.called_set.canCreate;have hct:=PySem.F.typeCall_set_1 x
 repeat (any_goals (first | assumption | wp_step))
 refine codeAny_mono (kM x (E:=E) (Q₁:=fun obj s₁=>obj=.ref s.heap.objs.size/\s₁={ s with heap:=s.heap.push (fT w) }) ⟨rfl,rfl⟩) fun r s₁ hr=>?_;cases r with
 | error e=>exact hr
 | ok fl=>
  cases fl with
  | ret obj=>
   obtain ⟨rfl,rfl⟩:=hr;have hS:(s.heap.push (fT w)).get? s.heap.objs.size=some (fT w):=Q7 _ rfl;have hT1:Shared.TypeIs { s with heap:=s.heap.push (fT w) } (.ref s.heap.objs.size) "set":=⟨_,hS,rfl⟩;have KE:=PySem.F.called_set.init.lookup;have hbi:=PySem.F.called_set.init.bind (.ref s.heap.objs.size);have hTx:=hT { s with heap:=s.heap.push (fT w) } (az _ _)
   repeat (any_goals (first | assumption | wp_step))
   refine codeAny_mono (codeAny_call_builtin (R:=wants (fun r Ee=>r=.none/\∃ h' tk,Ee={ s with heap:=h',toks:=tk }/\Z n h'/\aL s.heap h') E) PySem.F.called_set.init.plain PySem.F.entry_set_init (check_set_init_1 hT1 ?_)) fun K6 Ee Gx=>?_
   ·unfold Builtin.«set.__init__» noKeywords Builtin.Frozenset.updateFrom;generalize hPI:pyIter=PI
    wp_walk
    subst hPI;refine go _ _ _ _ (az _ _) fun I fp wr St h' hk hw hf W FE=>?_;refine zC1 (wpAny_runValue ?_);have hh3:A.in1.in1.in1.handled=none:=by simp [hh]
    have n0:s.heap.get? s.heap.objs.size=none:=ak _;refine uZ (W _ hh3) (show A.units+3 < cLine from Q1 (Q6 (by decide) _) hu) (fun q=>?_) n0 (fun b q=>aR (az _ _).live (hw b q)) Fl (n - 0) 0 _ rfl (zero_le _) FE (Fl.start _ (hk _ _ hS)) ((az _ _).trans hk) ?_
    ·rcases hf _ q with q | ⟨o,q⟩
     ·rw [hS] at q; (injection q; done)
     ·rw [n0] at q; (injection q; done)
    ·intro GK tk E5 hz;refine (?_:wpAny _ _ _ _ _ _);refine zC2 ?_;refine (?_:wpAny _ _ (ret Value.none) _ _ _);exact zC2 ⟨rfl,GK,tk,rfl,hz,E5⟩
   ·cases K6 with
    | error e=>exact Gx
    | ok fl₂=>
     cases fl₂ with
     | ret r=>
      obtain ⟨rfl,h',tk,rfl,hz,E5⟩:=Gx
      repeat (any_goals (first | assumption | wp_step))
      exact h _ _ hz E5
     | _=>exact Gx.elim
  | _=>exact hr.elim
end
end Mine
end
noncomputable section
namespace Mine
open PySem PySem.Calls PyProof.Rows PySem.W
section
variable {prog:Program} {w:World} {A:Around} {E:Value->Shared->Prop} {s:Shared} {h₀:Heap}
def g6 (hl:h₀.IsList l items):B3 prog w h₀ (.ref l) items.size (fun i v=>items[i]?=some v):=fun s A Q E hk hQ=>by
 have hl1:s.heap.IsList l items:=hl.at (hk l);have Et:l≠s.heap.objs.size:=by obtain ⟨o,ho,_⟩:=hl1; exact cF ho
 refine wpAny_pyIter_list hl1 (hQ _ _ _ _ _ (az _ _) (fun b q=>?_) (fun b q=>?_) (fun A' hh=>Walks.list hh _ l Et items) ⟨⟨_,Q7 _ rfl,rfl,rfl⟩,hl1.push _⟩)
 ·obtain rfl:=zA6 q; exact ak _
 ·rcases mem_cons.mp q with rfl | q
  ·exact .inl (ak _)
  ·obtain rfl:=zA6 q; obtain ⟨o,ho,_⟩:=hl; exact .inr ⟨o,ho⟩
def vO:B3 prog w h₀ (.str x t) x.cps.size (SignAt x):=fun s A Q E hk hQ=>by
 cases ha:x.cps.all (· < 128)
 ·exact wpAny_pyIter_wide ha (hQ _ _ _ _ _ (az _ _) (fun b q=>by obtain rfl:=zA6 q; exact ak _) (fun b q=>by obtain rfl:=zA6 q; exact .inl (ak _)) (fun A' hh=>Walks.strWide hh _ x t) ⟨_,Q7 _ rfl,rfl,rfl⟩)
 ·exact wpAny_pyIter_ascii ha (hQ _ _ _ _ _ (az _ _) (fun b q=>by obtain rfl:=zA6 q; exact ak _) (fun b q=>by obtain rfl:=zA6 q; exact .inl (ak _)) (fun A' hh=>Walks.strAscii hh _ x t) ⟨_,Q7 _ rfl,rfl,rfl⟩)
def ik {K:Type} [DecidableEq K] {knd:KeyKind prog w K} {S:Addr} {P:Nat->Value->Prop} {ks:List K} (hP:∀ i v,P i v->∃ k,ks[i]?=some k/\knd.is k v=true/\v.scannable=true) (nd:ks.Nodup) (hn:ks.length+1 < scanBound) :
  Fills prog w h₀ S P ks.length (fun i h=>h.SetOf knd S (fun k=>decide (k∈ks.take i)) i) where
 frame:=fun i h h' q e=>q.elim fun o q=>q.elim fun es q=>q.elim fun ep q=>q.elim fun t q=>⟨o,es,ep,t,e.trans q.1,q.2⟩
 live:=fun i h q=>q.elim fun o q=>q.elim fun U q=>q.elim fun U q=>q.elim fun U q=>⟨o,q.1⟩
 start:=fun h ho=>SetOf_congr ((setObjOf_fresh (knd:=knd) _).setOf ho (by unfold scanBound; exact succ_pos _)) (fun U=>(decide_eq_false not_mem_nil).symm) rfl
 add:=fun i v s A hu hi hp hk hZ Q E hQ=>by
  obtain ⟨k,ek,JT,hsc⟩:=hP i v hp;have EX:k∉ks.take i:=fun q=>by
   obtain ⟨j,hj⟩:=getElem?_of_mem q;have LD:j < i:=Q0 (List.getElem?_eq_some_iff.mp hj).1 (length_take_le _ _);rw [getElem?_take_of_lt LD] at hj;exact absurd ((getElem?_inj (lt_trans LD hi) nd).mp (hj.trans ek.symm)) (ne_of_lt LD)
  unfold setAdd;refine wpAny_holding (zC1 (knd.pyHash JT (wpAny_setAddHashed_of (s:={ s with toks:=s.toks+1 }) JT hsc hZ (Q1 (add_le_add_right (le_of_lt hi) 1) hn) fun h' F5 hS=>hQ _ h' _ F5 (SetOf_congr hS (fun k'=>?_) ?_))))
  ·rw [take_add_one,ek];by_cases q:k'=k <;> simp [q]
  ·rw [if_neg (by rw [decide_eq_false EX]; exact Bool.false_ne_true)]
def yh {K:Type} [DecidableEq K] {knd:KeyKind prog w K} {a:Addr} {S:K->Bool} {n:Nat} {Q:Value->Shared->Prop} (hS:s.heap.SetOf knd a S n) (h:∀ t tk,Q (.int n t) { s with toks:=tk }):wpAny (model prog w) A (call (.builtin "len") [.ref a]) Q E s:=by
 obtain ⟨o,es,ep,t,ho,Ff,hd,hel,hmem,hb,hf,hn⟩:=hS;subst hn;refine Calls.call_function_entry kind_len plain_len entry_len (args_len1 _) ?_;exact wpAny_len_body_set ho Ff hd hf (Int.lt_trans (ofNat_lt.mpr hb) (by decide)) (h _ _)
end
def kOf_inj (hx:aS x=true) (hy:aS y=true) (e:kOf x=kOf y):x=y:=by
 cases x <;> first | ((injection hx; done); done) | (cases y <;> first | ((injection hy; done); done) | ((first | (injection e; done) | (injection e with e; subst e)); done) | ((injection e with e; subst e); rfl))
theorem pc:∀ {l m:List V},l.all aS=true->m.all aS=true->l.map kOf=m.map kOf->l=m
 | [],[],_,_,_=>rfl
 | [],_ :: _,_,_,e=>nomatch e
 | _ :: _,[],_,_,e=>nomatch e
 | x :: l,y :: m,hl,hm,e=>by
  have hl:=zA2 hl;have hm:=zA2 hm;have e:=zA5 e;rw [kOf_inj hl.1 hm.1 e.1,pc hl.2 hm.2 e.2]
section
variable {g:Gl} {bad:Addr->Prop} {h h':Heap} {v:Value} {x:V} {vs ws:List Value} {l m:List V}
def vK (r:RpAll g bad h vs l):l.all aS=true->ItemsAre (aD g.prog g.w) (l.map kOf) vs:=
 r.ind (D:=fun vs l=>l.all aS=true->ItemsAre (aD g.prog g.w) (l.map kOf) vs) (fun U=>.nil) fun v vs x l r U ih q=>by
  have q:=zA2 q;refine .cons ?_ (ih q.2);cases r with
  | int i t=>exact (by simp [Value.isInt]:Value.isInt i (.int i t)=true)
  | str y t=>exact (by simp [Value.isStrOf]:Value.isStrOf y (.str y t)=true)
  | _=>(injection q.1; done)
def A3 (r:Rp g bad h v (.tuple l)) (q:l.all aS=true):∃ c,v=.ref c/\IsTupleKey (aD g.prog g.w) h (l.map kOf) c:=
 r.tuple_elim fun a o vs n U ha hc hd hl=>⟨a,rfl,o,vs,n,ha,hc,hd,vK hl q⟩
def eD (k:aL h h') (x:IsTupleKey (aD g.prog g.w) h ks c):IsTupleKey (aD g.prog g.w) h' ks c:=let ⟨o,vs,n,ho,r⟩:=x; ⟨o,vs,n,k _ _ ho,r⟩
theorem RpAll.of_mem (r:RpAll g bad h vs l):v∈vs->∃ y∈l,Rp g bad h v y:=r.ind (D:=fun vs l=>v∈vs->∃ y∈l,Rp g bad h v y) (fun q=>nM q) fun u vs y l r U ih q=>by
 rcases mem_cons.mp q with rfl | q
 ·exact ⟨y,.head _,r⟩
 ·obtain ⟨z,m,p⟩:=ih q; exact ⟨z,.tail _ m,p⟩
theorem RpAll.mem (r:RpAll g bad h vs l):x∈l->∃ u∈vs,Rp g bad h u x:=r.ind (D:=fun vs l=>x∈l->∃ u∈vs,Rp g bad h u x) (fun q=>nM q) fun u vs y l r U ih q=>by
 rcases mem_cons.mp q with rfl | q
 ·exact ⟨u,.head _,r⟩
 ·obtain ⟨z,m,p⟩:=ih q; exact ⟨z,.tail _ m,p⟩
theorem RpAll.perm (p:ws.Perm vs):∀ {l},RpAll g bad h vs l->∃ m,m.Perm l/\RpAll g bad h ws m:=by
 induction p with
 | nil=>exact fun r=>⟨_,.refl _,r⟩
 | cons v _ ih=>
  intro l r;cases r with
  | cons a r=>obtain ⟨m,p,q⟩:=ih r; exact ⟨_,.cons _ p,.cons a q⟩
 | swap v u _=>
  intro l r;cases r with
  | cons a r=>cases r with
   | cons b r=>exact ⟨_,.swap _ _ _,.cons b (.cons a r)⟩
 | trans _ _ ih1 ih2=>
  intro l r;refine zL fun Z4 HX=>?_;obtain ⟨m,p,r⟩:=ih2 r;obtain ⟨n,p',r⟩:=ih1 r;refine HX ?_;exact ⟨n,p'.trans p,r⟩
def fY {C:V->Prop} (e:fv x=true) (k:∀ t l,(PyData.str t :: l).all aS=true->C (.tuple (.str t :: l))):C x:=by
 revert e
 cases x with
 | tuple l=>cases l with
  | nil=>exact fun e=>nB e
  | cons y l=>cases y with
   | str t=>exact fun e=>k _ _ e
   | _=>exact fun e=>nB e
 | _=>exact fun e=>nB e
def gH (e:fv x=true) (r:Rp g bad h v x):∃ c,v=.ref c/\IsTupleKey (aD g.prog g.w) h (aU x) c:=fY (C:=fun x=>Rp g bad h v x->∃ c,v=.ref c/\IsTupleKey (aD g.prog g.w) h (aU x) c) e (fun t l q r=>A3 r q) r
def keys_inj (e:fv x=true) (e':fv y=true) (q:aU y=aU x):y=x:=
 fY (C:=fun x=>aU y=aU x->y=x) e (fun t l hl q=>fY (C:=fun y=>aU y=aU (.tuple (.str t :: l))->y=.tuple (.str t :: l)) e' (fun t' l' E4 q=>congrArg _ (pc E4 hl q)) q) q
def lF (e:fv x=true):∃ t ks,aU x=.inr t :: ks:=fY (C:=fun x=>∃ t ks,aU x=.inr t :: ks) e fun t l U=>⟨t,l.map kOf,rfl⟩
def q9 {α:Type} {i:Nat} {a:α} {C:Prop} (e:(#[]:Array α)[i]?=some a):C:=by simp at e
def tab0 {L:Bool}:Tab (SetTable.fresh 0 0 L) (#[]:Array (Int×Value)):=⟨.inl rfl,rfl,rfl,fun U U U U U e=>q9 e,fun U U e=>q9 e,fun U U U e=>q9 e⟩
def BG (g:Gl) (bad:Addr->Prop) (h₀:Heap) (S:Addr) (l:List V) (i:Nat) (h:Heap):Prop:=
 ∃ es r,TS h S es (!g.w.params.followText "set-order")/\Ae (aD g.prog g.w) h₀ es.toList/\RpAll g bad h₀ (es.toList.map (·.2)) r/\r.Nodup/\∀ y,y∈r ↔ y∈l.take i
def jW {es:Array (Int×Value)} {r:List V} (q:RpAll g bad h (es.toList.map (·.2)) r):es.size=r.length:=by
 have:=q.length;rwa [zA4,zB3] at this
def jC {S:Addr} {vs:Array Value} (r:RpAll g bad h vs.toList l) (hw:∀ x∈l,fv x=true) {few:List V} (IP:∀ x∈l,x∈few) (hn:few.length < 4500):Fills g.prog g.w h S (fun i v=>vs[i]?=some v) vs.size (BG g bad h S l) where
 frame:=fun i h h' q e=>q.elim fun es q=>q.elim fun r q=>⟨es,r,q.1.to e,q.2⟩
 live:=fun i h q=>q.elim fun es q=>q.elim fun r q=>q.1.casesOn fun o U U ho U U U U U=>⟨o,ho⟩
 start:=fun h ho=>⟨#[],[],⟨_,_,_,ho,⟨rfl,rfl,rfl⟩,rfl,tab0,Nat.zero_lt_succ 20,rfl⟩,fun e m=>(nM m),.nil,.nil,fun y=>⟨fun q=>(nM q),fun q=>(nM q)⟩⟩
 add:=fun i v s A hu hi hp hk hZ Q E hQ=>by
  refine hZ.elim fun es Gf=>Gf.elim fun R It=>It.elim fun T Iq=>Iq.elim fun he He=>He.elim fun hr Hd=>Hd.elim fun hd hm=>?_;have hsz:=r.length;rw [zB3] at hsz;obtain ⟨x,hx⟩:∃ x,l[i]?=some x:=⟨_,Q9 (hsz▸hi)⟩;obtain ⟨v',ev,rv⟩:=r.get hx;replace ev:=hp▸(Q2)▸ev;(injection ev with ev; subst ev);have Kz:=hw x (mem_of_getElem? hx);obtain ⟨c,rfl,k⟩:=gH Kz rv;obtain ⟨t,ks,eh⟩:=lF Kz;have Jg:∀ y,y∈l.take (i+1) ↔ y∈R\/y=x:=fun y=>by rw [take_add_one,hx,mem_append,hm]; simp
  have KJ:Ae (aD g.prog g.w) s.heap es.toList:=fun e me=>let ⟨ks,c,q,z⟩:=he e me; ⟨ks,c,q,eD hk z⟩;have inR:x∈R ↔ ∃ e∈es.toList,IsK (aD g.prog g.w) s.heap (.inr t :: ks) e:=by
   refine eh▸?_;constructor
   ·intro q;obtain ⟨u,mu,ru⟩:=hr.mem q;obtain ⟨e,me,rfl⟩:=zA7 mu;obtain ⟨EG,c',rfl,z⟩:=he e me;obtain ⟨c2,e2,k2⟩:=gH Kz ru;(injection e2 with e2; subst e2);obtain rfl:=z.inj k2;exact ⟨_,me,c',rfl,eD hk z⟩
   ·rintro ⟨e,me,c',rfl,z⟩;obtain ⟨y,my,ry⟩:=hr.of_mem (mem_map.mpr ⟨_,me,rfl⟩);have hy:=hw y (mem_of_mem_take ((hm y).mp my));obtain ⟨c2,e2,k2⟩:=gH hy ry;(injection e2 with e2; subst e2);exact keys_inj Kz hy ((eD hk k2).inj z)▸my
  replace k:=eh▸k;refine qp hu T KJ (eD hk k) (by have:=hd.length_le_of_subset (l₂:=few) fun y q=>IP y (mem_of_mem_take ((hm y).mp q)); rw [jW hr]; exact Q1 this hn) (fun q tk=>?_) fun h' Ge tk sb T' p q=>?_
  ·have q:=inR.mpr q;exact hQ _ s.heap tk (.refl _ _) ⟨es,R,T,he,hr,hd,fun y=>by rw [Jg]; exact ⟨.inl,fun z=>z.elim id fun z=>z▸q⟩⟩
  ·refine (RpAll.perm (p.map Prod.snd) (RpAll.cons rv hr)).elim fun R' ME=>ME.elim fun pR rR=>?_;refine hQ _ h' tk sb ⟨Ge,R',T',fun e me=>?_,rR,pR.nodup_iff.mpr (nodup_cons.mpr ⟨fun z=>?_,hd⟩),fun y=>?_⟩
   ·rcases mem_cons.mp (p.mem_iff.mp me) with rfl | me
    ·exact ⟨_,c,rfl,k⟩
    ·exact he e me
   ·obtain ⟨e,me,ie⟩:=inR.mp z; exact q e me ie
   ·rw [pR.mem_iff,Jg,mem_cons]; exact or_comm
end
def bG:PySem.Slot "set_iterator" "__next__" "set_iterator.__next__":=
 .of (owner:="set_iterator") (n:="__next__") (by rw [typeLookup_type,builtinLookup_eq_fast]; kernel_rfl) (by decide +kernel) (by decide +kernel) (by decide +kernel)
  (by first | exact .inl (by decide +kernel) | exact .inr (by decide +kernel)) (by rw [isSubtype_type]; kernel_rfl)
def gO:entryFor table "set_iterator.__next__"=some Builtin.«set_iterator.__next__»:=entryFor_of_tree (by kernel_rfl)
def iu (a:Value):argsOk "set_iterator.__next__" ⟨[a],[]⟩:=by unfold argsOk; kernel_rfl
def iP:entryFor table "set.__iter__"=some Builtin.«frozenset.__iter__»:=entryFor_alias (id':="frozenset.__iter__") (by kernel_rfl) rfl (by decide +kernel) (by kernel_rfl)
section
variable {prog:Program} {w:World} {A:Around} {E:Value->Shared->Prop} {s:Shared}
noncomputable abbrev kv (ff:Value) (i:Nat) (S:Addr) (n ep:Nat):Obj:={ cls:=.type "set_iterator",data:=.fields #[ff,.int i 0,.ref S,.int n 0,.int ep 0] }
def rZ {Q:Option Value->Shared->Prop} {P:Fin->Shared->Prop} (hh:A.handled=none) (h:∀ h',aL s.heap h'->Q none { s with heap:=h' }) :
  wpAny (model prog w) A.in1 (newExc (.type "StopIteration") [] >>= fun e=>raiseNew e) P (fun e s'=>wpAny (model prog w) A (isInstance e (.type "StopIteration") >>= fun b=>if b=true then pure none else throw e) Q E s') s:=by
 refine zC1 (zC1 (wpAny_newObj_type (zC1 (wpAny_of_eq (a:=Value.none) rfl (wpAny_newObj_type ?_ (by size_fits)))) (by size_fits)));refine wpAny_raiseNew_none (hh:A.in1.handled=none) ?_;refine zC1 (wpAny_isInstance (T:="StopIteration") (b:=true) ⟨_,Q7 _ rfl,rfl⟩ isSubtype_stop ?_);exact zC2 (h _ ((az _ _).trans (az _ _)))
def eY (ho:s.heap.get? I=some { cls:=.type "set_iterator",data:=.fields vs }) (hj:j < vs.size) (h:∀ h',h'.get? I=some { cls:=.type "set_iterator",data:=.fields (vs.setIfInBounds j v) }->SameBut I s.heap h'->Q () { s with heap:=h' }) :
  wpAny (model prog w) A (setField (.ref I) j v) Q E s:=
 wpAny_setField ho rfl hj (h _ (get?_update_self _ ho rfl) (SameBut.update ..))
def gj {I S:Addr} {o:Obj} {es:Array (Int×Value)} {ep i:Nat} {t:SetTable} {ff f':Value} {r:Option Value} {Q:Option Value->Shared->Prop} (hh:A.handled=none)
  (hI:s.heap.get? I=some (kv ff i S es.size ep)) (ho:s.heap.get? S=some o) (hd:o.data=.set es ep t) (hf:t.fits es.size=true)
  (hn:(∃ (slot nx:Nat) (tk:Tok),ff=.int slot tk/\f'=.int nx 0/\∀ (A:Around) (Q:Option (Value×Nat)->Shared->Prop) (E:Value->Shared->Prop),Q (r.map fun x=>(x,nx)) s->wpAny (model prog w) A (setNext S slot i ep) Q E s) \/
   ∃ F ol items n',ff=.ref F/\f'=ff/\s.heap.get? F=some ol/\ol.data=.seq items n'/\((r=none/\items[i]?=none)\/∃ (p:Nat) (tk:Tok) (x:Value) (e:Int),r=some x/\items[i]?=some (.int p tk)/\es[p]?=some (e,x)))
  (hQ:∀ x,r=some x->∀ h',h'.get? I=some (kv f' (i+1) S es.size ep)->SameBut I s.heap h'->Q (some x) { s with heap:=h' })
  (hE:r=none->∀ h',(∀ b o,b≠I->s.heap.get? b=some o->h'.get? b=some o)->Q none { s with heap:=h' }):wpAny (model prog w) A (pyNext (.ref I)) Q E s:=by
 have hT:s.TypeIs (.ref I) "set_iterator":=⟨_,hI,rfl⟩;refine zC1 (wpAny_attempt (wpAny_callSpecial?_slot (name:=ofString "__next__") hT bG (wpAny_call_entry bG hT gO ?_ (iu _))));refine (bPu ?_);refine zC1 (wpAny_fieldsOf hI rfl ?_);refine zC1 (zC1 (wpAny_setState_of ho hd hf (zC2 ?_)));refine bJ (by simp) ?_;have ext:∀ {h1 h2:Heap},SameBut I s.heap h1->aL h1 h2->∀ b o,b≠I->s.heap.get? b=some o->h2.get? b=some o:=fun a k b o q e=>k b o ((a.2 b q).trans e);rcases hn with ⟨slot,nx,tk,rfl,rfl,hn⟩ | ⟨F,ol,items,n',rfl,rfl,JK,HB,hn⟩
 ·refine zC1 (hn _ _ _ ?_);cases r with
  | none=>exact zC1 (eY hI (by simp) fun h1 U sb=>rZ hh fun h2 k=>hE rfl _ (ext sb k))
  | some x=>exact zC1 (eY hI (by simp) fun h1 g1 sb=>zC1 (eY g1 (by simp) fun h2 g2 K5=>zC2 ⟨x,rfl,zC2 (hQ x rfl h2 g2 (sb.trans K5))⟩))
 ·refine zC1 (wpAny_seqItems JK HB ?_);dsimp only;rcases hn with ⟨rfl,hi⟩ | ⟨p,tk,x,e,rfl,hi,he⟩
  ·exact (hi:items[(i:Int).toNat]?=_).symm▸zC1 (eY hI (by simp) fun h1 g1 sb=>zC1 (eY g1 (by simp) fun h2 g2 K5=>rZ hh fun h3 k=>hE rfl _ (ext (sb.trans K5) k)))
  ·refine (hi:items[(i:Int).toNat]?=_).symm▸zC1 (zC1 (wpAny_setState_of ho hd hf (bJ (by simp) ?_)));exact (he:es[(p:Int).toNat]?=_).symm▸zC2 (zC1 (eY hI (by simp) fun h1 g1 sb=>zC2 ⟨x,rfl,zC2 (hQ x rfl h1 g1 sb)⟩))
def lT (hn:n≠0) (h:∀ i d,i < n->Q i { s with drawn:=d }):wpAny M A (choose src n) Q E s:=fun Γ p hΓ=>by
 unfold choose;rw [Sem.wp_choose];exact ⟨hn,h _ _ (mod_lt _ (Nat.pos_of_ne_zero hn))⟩
theorem c9:∀ {l:List α} {i:Nat},l[i]?=some x->(x :: l.eraseIdx i).Perm l
 | [],_,h=>nomatch h
 | y :: l,0,h=>by (injection h with h; subst h); exact .refl _
 | y :: l,i+1,h=>(Perm.swap y x _).trans (.cons y (c9 (l:=l) h))
theorem sW:∀ (n:Nat) (xs:List α) (s:Shared) {Q:List α->Shared->Prop},xs.length=n->(∀ ys d,ys.Perm xs->Q ys { s with drawn:=d })->wpAny M A (drawOrder n xs) Q E s
 | 0,xs,s,Q,hl,h=>by obtain rfl:=length_eq_zero_iff.mp hl; exact zC2 (h [] s.drawn (.refl _))
 | n+1,[],s,Q,hl,h=>nomatch hl
 | n+1,x :: xs,s,Q,hl,h=>by
  refine zC1 (lT (by rw [hl]; exact succ_ne_zero n) fun i d hi=>?_);have e:(x :: xs)[i]?=some (x :: xs)[i]:=Q9 hi;rw [e];refine zC1 (sW n _ _ (by rw [List.length_eraseIdx_of_lt hi,hl]; rfl) fun ys d' p=>zC2 (h _ d' ((Perm.cons _ p).trans (c9 e))))
theorem sd (f:Nat->Nat):∀ (n k:Nat) (l:List α) (o:Array α),l.length=n->(pickOrder.go f n k l o).toList.Perm (o.toList++l)
 | 0,k,l,o,h=>by obtain rfl:=length_eq_zero_iff.mp h; refine (?_:o.toList.Perm _); rw [append_nil]
 | n+1,k,l,o,h=>by
  have hi:f k % l.length < l.length:=mod_lt _ (by rw [h]; exact succ_pos n);have e:l[f k % l.length]?=some l[f k % l.length]:=Q9 hi;rw [show pickOrder.go f (n+1) k l o=(match l[f k % l.length]? with | some x=>pickOrder.go f n (k+1) (l.eraseIdx (f k % l.length)) (o.push x) | none=>o) from rfl,e];refine (sd f n (k+1) _ _ (by rw [List.length_eraseIdx_of_lt hi,h]; rfl)).trans ?_;rw [toList_push,append_assoc];exact .append_left _ (c9 e)
def tJ (f:Nat->Nat) (xs:Array α):(pickOrder f xs).toList.Perm xs.toList:=sd f _ 0 _ #[] length_toList
end
def dG:PySem.Slot "set_iterator" "__iter__" "set_iterator.__iter__":=
 .of (owner:="set_iterator") (n:="__iter__") (by rw [typeLookup_type,builtinLookup_eq_fast]; kernel_rfl) (by decide +kernel) (by decide +kernel) (by decide +kernel)
  (by first | exact .inl (by decide +kernel) | exact .inr (by decide +kernel)) (by rw [isSubtype_type]; kernel_rfl)
def gP:entryFor table "set_iterator.__iter__"=some Builtin.«dict_keyiterator.__iter__»:=entryFor_alias (id':="dict_keyiterator.__iter__") (by kernel_rfl) rfl (by decide +kernel) (by kernel_rfl)
def iv (a:Value):argsOk "set_iterator.__iter__" ⟨[a],[]⟩:=by unfold argsOk; kernel_rfl
section
variable {prog:Program} {w:World} {A:Around} {E:Value->Shared->Prop} {s:Shared} {I S:Addr} {o:Obj} {es:Array (Int×Value)} {ep:Nat} {t:SetTable} {Fs:List Value}
def iZ (hI:s.heap.get? I=some ob) (hc:ob.cls=.type "set_iterator") (h:Q (.ref I) s):wpAny (model prog w) A (pyIter (.ref I)) Q E s:=by
 have hT:s.TypeIs (.ref I) "set_iterator":=⟨_,hI,hc⟩;refine wpAny_pyIter_slot hT dG (wpAny_call_entry dG hT gP ?_ (iv _));refine (bPu ?_);exact zC2 ⟨_,rfl, "set_iterator",_,hT,bG.lookup,h⟩
abbrev nW (prog:Program) (w:World) (S:Addr) (o:Obj) (i ep slot:Nat) (r:Option (Value×Nat)):Prop:=∀ (s:Shared),s.heap.get? S=some o->∀ (A:Around) (Q:Option (Value×Nat)->Shared->Prop) (E:Value->Shared->Prop),Q r s->wpAny (model prog w) A (setNext S slot i ep) Q E s
def BP {C:Addr->Prop} (m:c∈[a,b]) (ha:C a) (hb:C b):C c:=by
 rcases mem_cons.mp m with rfl | m
 ·exact ha
 ·obtain rfl:=zA6 m; exact hb
def kW (hh:A.handled=none) (EA:S≠I) (hd:o.data=.set es ep t) (hf:t.fits es.size=true) (Sl:Nat->Nat->Prop)
  (hs:∀ i slot,Sl slot i->i < es.size->∃ x nx,Fs[i]?=some x/\Sl nx (i+1)/\nW prog w S o i ep slot (some (x,nx))) (he:∀ slot,Sl slot es.size->nW prog w S o es.size ep slot none) :
  Walks prog w A I [I,S] [I] es.size (fun i v=>Fs[i]?=some v) (fun i h=>h.get? S=some o/\∃ slot tk,Sl slot i/\h.get? I=some (kv (.int slot tk) i S es.size ep)) where
 sub:=fun b m=>by obtain rfl:=zA6 m; exact .head _
 frame:=fun i h h' FA k=>FA.elim fun a FM=>FM.elim fun slot FL=>FL.elim fun tk F0=>F0.elim fun b c=>⟨k S (.tail _ (.head _)) _ a,slot,tk,b,k I (.head _) _ c⟩
 item:=fun i s Q E hi ⟨a,slot,tk,b,c⟩ hQ=>by
  refine zL fun Z1 Lq=>?_;obtain ⟨x,nx,e1,e2,e3⟩:=hs i slot b hi;refine Lq ?_;refine gj (r:=some x) (f':=.int nx 0) hh c a hd hf (.inl ⟨slot,nx,tk,rfl,rfl,e3 s a⟩) (fun y ey h' hI sb=>?_) fun q=>nN q;(injection ey with ey; subst ey);exact hQ x h' s.toks e1 ⟨(sb.2 S EA).trans a,nx,0,e2,hI⟩ fun b o m e=>(sb.2 b fun q=>m (q▸.head _)).trans e
 done:=fun s Q E Hd hQ=>Hd.elim fun a GQ=>GQ.elim fun slot IG=>IG.elim fun tk IF=>IF.elim fun b c=>gj (r:=none) (f':=.int 0 0) hh c a hd hf (.inl ⟨slot,0,tk,rfl,rfl,he slot b s a⟩) (fun y ey=>nN ey.symm) fun U h' k=>hQ h' s.toks fun b o m e=>k b o (fun q=>m (q▸.head _)) e
 self:=fun i s Q E ⟨a,slot,tk,b,c⟩ h=>iZ c rfl h
def tq (hh:A.handled=none) (EA:S≠I) (hd:o.data=.set es ep t) (hf:t.fits es.size=true) (hF:F≠I) (HB:ol.data=.seq items n') (hz:items.size=es.size)
  (hs:∀ i,i < es.size->∃ (p:Nat) (tk:Tok) (x:Value) (e:Int),Fs[i]?=some x/\items[i]?=some (.int p tk)/\es[p]?=some (e,x)) :
  Walks prog w A I [I,S,F] [I] es.size (fun i v=>Fs[i]?=some v) (fun i h=>h.get? S=some o/\h.get? F=some ol/\h.get? I=some (kv (.ref F) i S es.size ep)) where
 sub:=fun b m=>by obtain rfl:=zA6 m; exact .head _
 frame:=fun i h h' MG k=>MG.elim fun a MF=>MF.elim fun b c=>⟨k S (.tail _ (.head _)) _ a,k F (.tail _ (.tail _ (.head _))) _ b,k I (.head _) _ c⟩
 item:=fun i s Q E hi ⟨a,b,c⟩ hQ=>by
  refine zL fun Z2 Jl=>?_;obtain ⟨p,tk,x,e,e1,e2,e3⟩:=hs i hi;refine Jl ?_;refine gj (r:=some x) (f':=.ref F) hh c a hd hf (.inr ⟨F,ol,items,n',rfl,rfl,b,HB,.inr ⟨p,tk,x,e,rfl,e2,e3⟩⟩) (fun y ey h' hI sb=>?_) fun q=>nN q;(injection ey with ey; subst ey);exact hQ x h' s.toks e1 ⟨(sb.2 S EA).trans a,(sb.2 F hF).trans b,hI⟩ fun b o m e=>(sb.2 b fun q=>m (q▸.head _)).trans e
 done:=fun s Q E IE hQ=>IE.elim fun a ID=>ID.elim fun b c=>gj (r:=none) (f':=.ref F) hh c a hd hf (.inr ⟨F,ol,items,n',rfl,rfl,b,HB,.inl ⟨rfl,getElem?_eq_none (zB2 hz)⟩⟩) (fun y ey=>nN ey.symm) fun U h' k=>hQ h' s.toks fun b o m e=>k b o (fun q=>m (q▸.head _)) e
 self:=fun i s Q E ⟨a,b,c⟩ h=>iZ c rfl h
def lC (hB:w.params.followText "set-order"=true) (hd:o.data=.set es ep t) (hf:t.fits es.size=true) (e:((pickOrder (w.params.setOrder S ep) es)[i]?).map (fun e=>(e.2,slot))=r):nW prog w S o i ep slot r:=fun s ho A Q E h=>by
 skip
 refine zC1 (wpAny_setState_of ho hd hf ?_);refine zC1 (zC1 (wpAny_askSetting (zC2 ?_)));rw [show (Setting.mk (model prog w).prog (model prog w).w.params).params.followText "set-order"=true from hB,if_pos rfl,if_neg (by simp)];unfold setWalk;refine zC1 (zC1 (wpAny_setState_of ho hd hf ?_));refine zC1 (zC1 (wpAny_askSetting (zC2 ?_)));refine (show (Setting.mk (model prog w).prog (model prog w).w.params).params.followText "set-order"=true from hB).symm▸(if_pos rfl).symm▸?_;refine zC1 (wpAny_askSetting (zC2 (zC2 ?_)));exact e▸h
def o5 (hB:w.params.followText "set-order"=false) (hd:o.data=.set es ep t) (hf:t.fits es.size=true) (hl:t.led=true) (hn:(!t.plain&&decide (es.size > 1))=false)
  (e:(match es[SetTable.below t.place slot]?,t.place[SetTable.below t.place slot]? with | some (_,x),some j=>some (x,j+1) | _,_=>none)=r):nW prog w S o i ep slot r:=fun s ho A Q E h=>by
 skip
 refine zC1 (wpAny_setState_of ho hd hf ?_);refine zC1 (zC1 (wpAny_askSetting (zC2 ?_)));refine (show (Setting.mk (model prog w).prog (model prog w).w.params).params.followText "set-order"=false from hB).symm▸(if_neg Bool.false_ne_true).symm▸?_;refine bJ (ne_true_of_eq_false hn) ?_;refine zC1 (bJ (show ¬ (!t.led&&!es.isEmpty)=true by simp [hl]) (zC2 ?_));refine zC2 ?_;subst e; exact h
def vJ (hL:L = !w.params.followText "set-order") (T:TS s.heap S es L)
  (h:∀ (Fs:List Value) I fp wr St h' d,Fs.Perm (es.toList.map (·.2))->aL s.heap h'->(∀ b∈wr,s.heap.get? b=none)->(∀ b∈fp,s.heap.get? b=none\/b=S)->(∀ A:Around,A.handled=none->Walks prog w A I fp wr es.size (fun i v=>Fs[i]?=some v) St)->St 0 h'->Q (.ref I) { s with heap:=h',drawn:=d }) :
  wpAny (model prog w) A (pyIter (.ref S)) Q E s:=by
 refine zL fun Z3 Lh=>?_;obtain ⟨o,ep,t,ho,Ff,hd,T,hr,hl⟩:=T;refine Lh ?_;have hm:es.size<=t.mask:=le_of_lt (lt_of_mul_lt_mul_right (Q1 (mul_le_mul_left es.size (by decide:3<=5)) hr));have hf:t.fits es.size=true:=T.fits hm;have hT:s.TypeIs (.ref S) "set":=⟨_,ho,Ff.1⟩;refine wpAny_pyIter_slot hT PySem.F.slot_set_iter (wpAny_call_entry PySem.F.slot_set_iter hT iP ?_ (PySem.F.args_set_iter_1 _));unfold Builtin.«frozenset.__iter__»;refine zC1 ((bPu (zC2 ?_)));refine zC1 (zC1 (zC1 (wpAny_setState_of ho hd hf (zC2 (zC2 ?_)))))
 skip
 refine zC1 (zC1 (wpAny_setState_of ho hd hf ?_));refine zC1 (zC1 (wpAny_askSetting (zC2 (zC2 ?_))));have EH:es.size<=8191:=zB1 hm (by rcases T.msk with q | q | q | q | q | q <;> rw [q] <;> decide);extract_lets jp;have FU:∀ (s1:Shared) ff,s1.heap.get? S=some o->(∀ h',h'.get? s1.heap.objs.size=some (kv ff 0 S es.size ep)->aL s1.heap h'->Q (.ref s1.heap.objs.size) { s1 with heap:=h' }) ->
   wpAny (model prog w) A.in1 (jp ff) (fun fin s'=>∃ v,fin=.done (.ret v)/\∃ T' r,s'.TypeIs v T'/\typeLookup (.type T') (ofString "__next__")=pure (some r)/\Q v s') E s1:=fun s1 ff h1 hq=>by
  refine zC1 (wpAny_setEpoch_of h1 hd hf ?_);refine zC1 (wpAny_newObj_type ?_);exact zC2 ⟨_,rfl, "set_iterator",_,⟨_,Q7 _ rfl,rfl⟩,bG.lookup,hq _ (Q7 _ rfl) (az _ _)⟩
 have nI:∀ (h1:Heap),aL s.heap h1->s.heap.get? h1.objs.size=none:=fun h1 k=>aR k.live (ak _);refine wpAny_ite_split (fun c=>?_) fun c=>?_
 ·refine zC1 (sW _ _ _ length_range fun ys d py=>?_);refine zC1 (wpAny_newTuple ?_ (by rw [zA4,py.length_eq,length_range]; exact zB1 EH (by decide)));have k1:aL s.heap (s.heap.push { cls:=.type "tuple",data:=.seq (ys.map fun (i:Nat)=>rawInt i).toArray 0 }):=az _ _;have hy:∀ a∈ys,(es.toList[a]?).isSome:=fun a m=>by
   rw [Q9 (by rw [zB3]; exact mem_range.mp (py.mem_iff.mp m))]; rfl
  refine FU _ _ (k1 _ _ ho) fun h' hI k=>h ((ys.filterMap (es.toList[·]?)).map (·.2)) _ _ _ _ h' d ?_ (k1.trans k) (fun b m=>?_) (fun b m=>?_) (fun A hh=>tq hh (cF (k1 _ _ ho)) hd hf (F:=s.heap.objs.size) (ne_of_lt (by rw [size_push]; exact lt_succ_self _)) (rfl:Obj.data { cls:=.type "tuple",data:=.seq (ys.map fun (i:Nat)=>rawInt i).toArray 0 }=_) (by simp [py.length_eq]) fun i hi=>?_) ⟨(k1.trans k) _ _ ho,k _ _ (Q7 _ rfl),hI⟩
  ·refine (Perm.map _ ((Perm.filterMap _ py).trans (.of_eq ?_)));exact length_toList▸cg _
  ·obtain rfl:=zA6 m; exact nI _ k1
  ·rcases mem_cons.mp m with rfl | m
   ·exact .inl (nI _ k1)
   ·exact BP (C:=fun b=>s.heap.get? b=none\/b=S) m (.inr rfl) (.inl (ak _))
  ·have E4:i < ys.length:=by rw [py.length_eq,length_range]; exact hi
   have ep:ys[i] < es.size:=mem_range.mp (py.mem_iff.mp (getElem_mem E4));refine ⟨ys[i],0,es[ys[i]].2,es[ys[i]].1,?_,?_,Array.getElem?_eq_getElem ep⟩
   ·rw [getElem?_map,c8 hy,Q9 E4];refine (?_:((es.toList[ys[i]]?).map _)=_);rw [Q2,Array.getElem?_eq_getElem ep]; rfl
   ·simp [E4,rawInt]
 ·refine (bPu ?_);cases hB:w.params.followText "set-order" with
  | true=>
   have pk:=tJ (w.params.setOrder S ep) es;refine FU s _ ho fun h' hI k=>h ((pickOrder (w.params.setOrder S ep) es).toList.map (·.2)) _ _ _ _ h' s.drawn (pk.map _) k (fun b m=>by obtain rfl:=zA6 m; exact ak _) (fun b m=>BP (C:=fun b=>s.heap.get? b=none\/b=S) m (.inl (ak _)) (.inr rfl))
    (fun A hh=>kW hh (cF ho) hd hf (fun U U=>True) (fun i slot U hi=>?_) fun slot U=>?_) ⟨k _ _ ho,0,0,trivial,hI⟩
   ·have E4:i < (pickOrder (w.params.setOrder S ep) es).size:=by exact length_toList▸pk.length_eq.symm▸length_toList.symm▸hi
    exact ⟨(pickOrder (w.params.setOrder S ep) es)[i].2,slot,by rw [getElem?_map,Q2,Array.getElem?_eq_getElem E4]; rfl,trivial,lC hB hd hf (by rw [Array.getElem?_eq_getElem E4]; rfl)⟩
   ·exact lC hB hd hf (by rw [getElem?_eq_none (by rw [<- zB3,pk.length_eq,zB3]; exact le_refl _)]; rfl)
  | false=>
   have hl2:t.led=true:=by rw [hl,hL,hB]; rfl
   have hn:(!t.plain&&decide (es.size > 1))=false:=by
    have c:¬ (!w.params.followText "set-order"&&(!t.plain&&decide (es.size > 1)))=true:=c;rw [hB] at c;exact eq_false_iff.mpr c
   refine FU s _ ho fun h' hI k=>h (es.toList.map (·.2)) _ _ _ _ h' s.drawn (.refl _) k (fun b m=>by obtain rfl:=zA6 m; exact ak _) (fun b m=>BP (C:=fun b=>s.heap.get? b=none\/b=S) m (.inl (ak _)) (.inr rfl))
    (fun A hh=>kW hh (cF ho) hd hf (fun slot i=>SetTable.below t.place slot=i) (fun i slot e hi=>?_) fun slot e=>o5 hB hd hf hl2 hn (by rw [e,getElem?_eq_none (le_refl _)])) ⟨k _ _ ho,0,0,?_,hI⟩
   ·obtain ⟨j,ej⟩:∃ j,t.place[i]?=some j:=⟨_,Array.getElem?_eq_getElem (by rw [T.sz]; exact hi)⟩;refine ⟨es[i].2,j+1,by rw [getElem?_map,Q2,Array.getElem?_eq_getElem hi]; rfl,?_,o5 hB hd hf hl2 hn (by rw [e,Array.getElem?_eq_getElem hi,ej])⟩;have b:=eH T.rise (j+1);rcases lt_trichotomy (SetTable.below t.place (j+1)) (i+1) with q | q | q
    ·exact absurd (b.2.2 i j (Q8 q) ej) (Nat.not_succ_le_self j)
    ·exact q
    ·obtain ⟨j',ej'⟩:∃ j,t.place[i+1]?=some j:=⟨_,Array.getElem?_eq_getElem (Q0 q b.1)⟩;exact absurd (Q8 (b.2.1 _ _ q ej')) (not_le.mpr (T.rise _ _ _ _ (lt_succ_self i) ej ej'))
   ·have b:=eH T.rise 0;rcases Nat.eq_zero_or_pos (SetTable.below t.place 0) with q | q
    ·exact q
    ·have b1:=b.1;obtain ⟨j,ej⟩:∃ j,t.place[0]?=some j:=⟨_,Array.getElem?_eq_getElem (Q0 q b1)⟩;exact absurd (b.2.1 0 j q ej) (not_lt_zero _)
end
end Mine
end
noncomputable section
namespace Mine.Zs
open PySem PySem.Calls PyProof.Rows PySem.W
noncomputable abbrev KKd:=PyProof.Rows.KeyKind
structure SI (k₀:SortKind) (a₀:Array Keyed) (p:Array (Nat×Nat×Nat)) (st:SortSt):Prop where
 perm:(arrOf st).Perm a₀
 kind:kindOf st=k₀
 failed:failedOf st=none
 pend:pendingOf st=p
def Srt {κ:KKd} (f:Nat->κ.α) (a b:Nat):Prop:=∀ i j,a<=i->i<=j->j < b->κ.kle (f i) (f j)
def NIn {κ:KKd} (f:Nat->κ.α) (a b:Nat):Prop:=∀ i j,a<=i->i<=j->j < b->κ.kle (f j) (f i)
def Low {α:Type} (lo:Nat) (f g:Nat->α):Prop:=∀ i,i < lo->f i=g i
section
variable {M:Model} {A:Around} {s:Shared} {k₀:SortKind} {a₀:Array Keyed} {p:Array (Nat×Nat×Nat)} {st:SortSt} {E:Value->Shared->Prop} {κ:KKd}
noncomputable def keyK (κ:KKd) (x:Keyed):κ.α:=(κ.keyOf x.1).getD κ.dflt
def LtIs (M:Model) (A:Around) (s:Shared) (k₀:SortKind) (κ:KKd) (a₀:Array Keyed):Prop:=∀ x y:Keyed,x∈a₀.toList->y∈a₀.toList->∀ (E:Value->Shared->Prop) (Q:Bool->Shared->Prop),Q (κ.blt (keyK κ x) (keyK κ y)) s->wpAny M A (keyLt' k₀ x.1 y.1) Q E s
theorem SI.size (I:SI k₀ a₀ p st):(arrOf st).size=a₀.size:=I.perm.size_eq
theorem SI.setArr (I:SI k₀ a₀ p st) (h:xs.Perm (arrOf st)):SI k₀ a₀ p (setArr st xs):=⟨h.trans I.perm,I.kind,I.failed,I.pend⟩
theorem SI.mem (I:SI k₀ a₀ p st) (h:x∈(arrOf st).toList):x∈a₀.toList:=(perm_iff_toList_perm.mp I.perm).mem_iff.mp h
def kk_at (e:xs[i]?=some x):KK κ xs i=keyK κ x:=by unfold KK; rw [e]; rfl
def uI (hi:i < a.size) (h:∀ x,x∈a.toList->a[i]?=some x->Q x st):wpS M A E s (elem' a i) Q st:=by
 rw [elem'_eq,getElem?_pos a i hi];exact wpS_pure (h _ (by simp) (getElem?_pos a i hi))
def a8 {β:Type} {f:Keyed->StateT SortSt Sem β} {Q:β->SortSt->Prop} (hi:i < a.size) (h:∀ x,x∈a.toList->a[i]?=some x->wpS M A E s (f x) Q st):wpS M A E s (elem' a i >>= f) Q st:=wpS_bind (uI hi h)
def dy {β:Type} {f:SortSt->StateT SortSt Sem β} {Q:β->SortSt->Prop} (h:wpS M A E s (f st) Q st):wpS M A E s (get >>= f) Q st:=wpS_bind (wpS_get h)
def iA {β:Type} {f:Unit->StateT SortSt Sem β} {Q:β->SortSt->Prop} (h:wpS M A E s (f ()) Q st):wpS M A E s (liftM (rule t) >>= f) Q st:=wpS_bind (wpS_lift (wpAny_rule ⟨rfl,h⟩))
def mh {g:SortSt->SortSt} {β:Type} {f:PUnit->StateT SortSt Sem β} {Q:β->SortSt->Prop} (h:wpS M A E s (f ⟨⟩) Q (g st)):wpS M A E s (modify g >>= f) Q st:=wpS_bind (wpS_modify h)
def ni (L:LtIs M A s k₀ κ a₀) (hk:kindOf st=k₀) (hx:x∈a₀.toList) (hy:y∈a₀.toList) (h:∀ b,κ.blt (keyK κ x) (keyK κ y)=b->Q (some b) st):wpS M A E s (lt' x y) Q st:=by
 rw [lt'_eq];refine (dy ?_);exact hk.symm▸wpS_bind (wpS_lift (wpAny_attempt (L x y hx hy _ _ ⟨rfl,wpS_pure (h _ rfl)⟩)))
def uH (L:LtIs M A s k₀ κ a₀) (I:SI k₀ a₀ p st) (hi:i < a₀.size) (hj:j < a₀.size) (h:∀ b,κ.blt (KK κ (arrOf st) i) (KK κ (arrOf st) j)=b->Q (some b) st):wpS M A E s (ltAt' i j) Q st:=by
 rw [ltAt'_eq];exact (dy ((a8 (I.size▸hi) fun x hx ex=>(a8 (I.size▸hj) fun y hy ey=>ni L I.kind (I.mem hx) (I.mem hy) fun b e=>h b (by rw [kk_at ex,kk_at ey]; exact e)))))
def gG {β:Type} {f:Option Bool->StateT SortSt Sem β} {Q:β->SortSt->Prop} (L:LtIs M A s k₀ κ a₀) (I:SI k₀ a₀ p st) (hi:i < a₀.size) (hj:j < a₀.size) (h:∀ b,κ.blt (KK κ (arrOf st) i) (KK κ (arrOf st) j)=b->wpS M A E s (f (some b)) Q st):wpS M A E s (ltAt' i j >>= f) Q st:=wpS_bind (uH L I hi hj h)
def l9 (I:SI k₀ a₀ p st) (h:∀ st',SI k₀ a₀ p st'->arrOf st'=mirror (arrOf st) i j ((j - i) / 2)->Q () st'):wpS M A E s (reverseSlice' i j) Q st:=by
 rw [reverseSlice'_eq]; exact wpS_modify (h _ (I.setArr (mirror_perm _ _ _ _)) rfl)
def uV {f:Nat->κ.α} (h:Srt f a b) (q:a < b->κ.kle (f (b - 1)) (f b)):Srt f a (b+1):=fun i j hi EE hj=>by
 rcases lt_or_ge j b with z | z
 ·exact h i j hi EE z
 ·obtain rfl:=le_antisymm (Q8 hj) z;rcases lt_or_ge i j with z | z
  ·exact kle_trans (h i (j - 1) hi (le_sub_one_of_lt z) (Nat.sub_one_lt (ne_of_gt (Nat.zero_lt_of_lt z)))) (q (Q1 hi z))
  ·obtain rfl:=le_antisymm EE z; exact kle_refl _
def gi {f:Nat->κ.α} (h:NIn f a b) (q:a < b->κ.kle (f b) (f (b - 1))):NIn f a (b+1):=fun i j hi EE hj=>by
 rcases lt_or_ge j b with z | z
 ·exact h i j hi EE z
 ·obtain rfl:=le_antisymm (Q8 hj) z;rcases lt_or_ge i j with z | z
  ·exact kle_trans (q (Q1 hi z)) (h i (j - 1) hi (le_sub_one_of_lt z) (Nat.sub_one_lt (ne_of_gt (Nat.zero_lt_of_lt z))))
  ·obtain rfl:=le_antisymm EE z; exact kle_refl _
def xI {f:Nat->κ.α}:Srt f a (a+1):=fun i j hi EE hj=>by
 obtain rfl:=le_antisymm (zB1 EE (Q8 hj)) hi;obtain rfl:=le_antisymm (Q8 hj) EE;exact kle_refl _
def rK {lo a EM:Nat} {f:Nat->Option (Option Nat)×Nat->StateT SortSt Sem (ForInStep (Option (Option Nat)×Nat))} {Q:Option (Option Nat)×Nat->SortSt->Prop} {g:Nat->Option Bool->StateT SortSt Sem (ForInStep (Option (Option Nat)×Nat))}
  (L:LtIs M A s k₀ κ a₀) (hf:∀ x,f x (none,x)=(ltAt' (lo+x) (lo+x - 1) >>= g x)) (g1:∀ x,g x (some true)=pure (.done (none,x))) (g0:∀ x,g x (some false)=pure (.yield (none,x+1)))
  (hn:lo+EM<=a₀.size) (h1:1<=a) (h2:a<=EM) (I:SI k₀ a₀ p st) (hs:Srt (KK κ (arrOf st)) lo (lo+a)) (h:∀ m,1<=m->m<=EM->Srt (KK κ (arrOf st)) lo (lo+m)->(m < EM->κ.klt (KK κ (arrOf st) (lo+m)) (KK κ (arrOf st) (lo+m - 1)))->Q (none,m) st):wpS M A E s (forIn [a:EM] (none,a) f) Q st:=by
 refine wpS_forRange (I:=fun x c st'=>c=(none,x)/\st'=st/\Srt (KK κ (arrOf st)) lo (lo+x)) ?_ ?_ ⟨rfl,rfl,hs⟩
 ·rintro x c st' q1 q2 ⟨rfl,rfl,hs⟩;rw [hf];have hx:lo+x < a₀.size:=Q0 (add_lt_add_left q2 lo) hn;refine (gG L I hx (Q1 (sub_le _ _) hx) fun b e=>?_);cases b
  ·rw [g0]; exact wpS_pure ⟨rfl,rfl,uV hs fun U=>e⟩
  ·rw [g1]; exact wpS_pure (h x (zB1 h1 q1) (le_of_lt q2) hs fun U=>e)
 ·rintro c st' ⟨rfl,rfl,hs⟩;rw [max_eq_right h2] at hs ⊢;exact h _ (zB1 h1 h2) (le_refl _) hs fun q=>absurd q (lt_irrefl _)
def EqB (κ:KKd) (xs:Array Keyed) (i j:Nat):Prop:=∀ k,i<=k->k < j->KK κ xs k=KK κ xs (j - 1)
def rS (hj:j<=xs.size) (e:EqB κ xs i j):KK κ (mirror xs i j ((j - i) / 2))=KK κ xs:=funext fun k=>KK_mirror_equal hj e k
def vt {lo n:Nat} (hn:n<=xs.size) (h:NIn (KK κ xs) lo n):Srt (KK κ (mirror xs lo n ((n - lo) / 2))) lo n:=fun i j hi EE hj=>by
 rw [KK_mirror hn,KK_mirror hn,if_pos ⟨hi,Q1 EE hj⟩,if_pos ⟨zB1 hi EE,hj⟩];have z:=Q0 (Q1 EE hj) (le_add_left n lo);exact h _ _ (Nat.le_sub_of_add_le (le_sub_one_of_lt (add_lt_add_left hj lo))) (Nat.sub_le_sub_left EE _) (sub_lt_left_of_lt_add (le_sub_one_of_lt z) (Q0 (sub_one_lt_of_lt z) (add_le_add_right hi n)))
def vC {lo n:Nat} (hn:n<=xs.size):Low lo (KK κ (mirror xs lo n ((n - lo) / 2))) (KK κ xs):=fun i hi=>by
 rw [KK_mirror hn,if_neg fun z=>absurd hi (not_lt.mpr z.1)]
def jS [Decidable c] (I:SI k₀ a₀ p st) (hj:j<=a₀.size) (e:EqB κ (arrOf st) i j) (h:∀ st',SI k₀ a₀ p st'->KK κ (arrOf st')=KK κ (arrOf st)->wpS M A E s X Q st'):wpS M A E s (if c then reverseSlice' i j >>= fun U=>X else X) Q st:=by
 split
 ·exact wpS_bind (l9 I fun st' I' e'=>h st' I' (by rw [e']; exact rS (I.size▸hj) e))
 ·exact h st I rfl
inductive CR (κ:KKd) (k₀:SortKind) (a₀:Array Keyed) (p:Array (Nat×Nat×Nat)) (st:SortSt) (lo x:Nat) (c:Option (Option Nat)×Nat×Nat) (st':SortSt):Prop
 | mk (q:Nat) (e:c=(none,x,q)) (i:SI k₀ a₀ p st') (d:NIn (KK κ (arrOf st')) lo (lo+x)) (b:EqB κ (arrOf st') (lo+x - (q+1)) (lo+x)) (w:Low lo (KK κ (arrOf st')) (KK κ (arrOf st))):CR κ k₀ a₀ p st lo x c st'
def lS {lo EM:Nat} {Q:Option Nat->SortSt->Prop} (L:LtIs M A s k₀ κ a₀) (hn:lo+EM<=a₀.size) (h1:1<=EM) (I:SI k₀ a₀ p st)
  (h:∀ m st',SI k₀ a₀ p st'->1<=m->m<=EM->Srt (KK κ (arrOf st')) lo (lo+m)->Low lo (KK κ (arrOf st')) (KK κ (arrOf st))->Q (some m) st'):wpS M A E s (countRun' lo EM) Q st:=by
 rw [countRun'_eq];have hz:lo+EM<=(arrOf st).size:=I.size▸hn;refine wpS_bind (rK L (fun U=>rfl) (fun U=>rfl) (fun U=>rfl) hn (le_refl 1) h1 I xI fun n Hw Ia hs Et=>?_);dsimp only;by_cases e:n=EM
 ·rw [if_pos (by simpa using e)]; exact wpS_pure (h n st I Hw Ia hs fun U U=>rfl)
 rw [if_neg (by simpa using e)];have Et:=Et (lt_of_le_of_ne Ia e);have JR:n < EM:=lt_of_le_of_ne Ia e
 -- a run that went down is turned round,and goes on
 have turn:∀ {n':Nat} {st':SortSt} {f:Nat->Option (Option Nat)×Nat->StateT SortSt Sem (ForInStep (Option (Option Nat)×Nat))} {F:Option (Option Nat)×Nat->StateT SortSt Sem (Option Nat)} {g:Nat->Option Bool->StateT SortSt Sem (ForInStep (Option (Option Nat)×Nat))},
   (∀ x,f x (none,x)=(ltAt' (lo+x) (lo+x - 1) >>= g x))->(∀ x,g x (some true)=pure (.done (none,x)))->(∀ x,g x (some false)=pure (.yield (none,x+1)))->(∀ m,F (none,m)=pure (some m))->SI k₀ a₀ p st'->1<=n'->n'<=EM->NIn (KK κ (arrOf st')) lo (lo+n')->Low lo (KK κ (arrOf st')) (KK κ (arrOf st)) ->
   wpS M A E s (reverseSlice' lo (lo+n') >>= fun U=>forIn [n':EM] (none,n') f >>= F) Q st':=fun {n' st' _ _ _} hf g1 g0 hF I' q1 q2 hd hw=>by
  have Ky:lo+n'<=(arrOf st').size:=zB1 (Q6 q2 lo) (I'.size▸hn);refine wpS_bind (l9 I' fun HP I4 e4=>wpS_bind (rK L hf g1 g0 hn q1 q2 I4 (by rw [e4]; exact vt Ky hd) fun m a b c U=>?_));rw [hF]; exact wpS_pure (h m HP I4 a b c fun i hi=>by rw [e4,vC Ky i hi]; exact hw i hi)
 have go:∀ {α:Type} {c:Prop} [Decidable c] {i j:Nat} {X:StateT SortSt Sem α} {F:Option Bool->StateT SortSt Sem α} {Q:α->SortSt->Prop},(c ↔ n > 1)->i=lo->j=lo+n - 1->wpS M A E s (F (some true)) Q st->F (some false)=(reverseSlice' lo (lo+n) >>= fun U=>X) ->
   (∀ EL,SI k₀ a₀ p EL->NIn (KK κ (arrOf EL)) lo (lo+n+1)->Low lo (KK κ (arrOf EL)) (KK κ (arrOf st))->wpS M A E s X Q EL)->wpS M A E s (if c then ltAt' i j >>= F else X) Q st:=fun hc hi hj ht hF hX=>by
  rw [hi,hj];have Fj:lo+n<=(arrOf st).size:=zB1 (Q6 Ia lo) hz;split
  ·refine (gG L I (Q0 (Nat.lt_add_of_pos_right h1) hn) (Q1 (sub_le _ _) (Q0 (add_lt_add_left JR lo) hn)) fun b eb=>?_);cases b
   ·have Me:∀ k,lo<=k->k < lo+n->KK κ (arrOf st) k=KK κ (arrOf st) (lo+n - 1):=fun k hk E5=>kle_antisymm (hs k (lo+n - 1) hk (le_sub_one_of_lt E5) (sub_one_lt_of_lt E5)) (kle_trans eb (hs lo k (le_refl _) hk E5));rw [hF];refine wpS_bind (l9 I fun st' I' e'=>?_);have ek:KK κ (arrOf st')=KK κ (arrOf st):=by rw [e']; exact rS Fj Me
    refine hX st' I' ?_ fun j U=>by rw [ek]
    rw [ek];exact gi (fun a b ha KO hb=>by rw [Me a ha (Q1 KO hb),Me b (zB1 ha KO) hb]; exact kle_refl _) fun U=>kle_of_klt Et
   ·exact ht
  ·rename_i ER;have n1:n=1:=le_antisymm (le_of_not_lt fun q=>ER (hc.mpr q)) Hw;refine hX st I (gi (fun a b ha KO hb=>?_) fun U=>kle_of_klt Et) fun U U=>rfl;obtain rfl:=le_antisymm KO (zB1 (Q8 (show b < lo+1 from n1▸hb)) ha);exact kle_refl _
 refine go Iff.rfl rfl rfl (wpS_pure (h n st I Hw Ia hs fun U U=>rfl)) rfl fun EL I2 d2 w2=>?_;refine iA ?_;have one:∀ {xs:Array Keyed} {x:Nat},EqB κ xs (x - (0+1)) x:=fun {xs x} k a b=>congrArg (KK κ xs) (le_antisymm (le_sub_one_of_lt b) a);refine wpS_bind (wpS_forRange (I:=CR κ k₀ a₀ p st lo) ?_ ?_ ⟨0,rfl,I2,d2,one,w2⟩)
 ·rintro x c st' KA H0 ⟨q,rfl,I',d',e',w'⟩;have Jr:lo+x < a₀.size:=Q0 (add_lt_add_left H0 lo) hn;have hx0:lo+x - 1 < a₀.size:=Q1 (sub_le _ _) Jr;refine (gG L I' Jr hx0 fun b eb=>?_);dsimp only at eb;cases b
  ·refine (gG L I' hx0 Jr fun b Mf=>?_);dsimp only at Mf;cases b
   ·have ek:KK κ (arrOf st') (lo+x)=KK κ (arrOf st') (lo+x - 1):=kle_antisymm Mf eb;refine wpS_pure ⟨q+1,rfl,I',gi d' fun U=>Mf,fun k a b=>?_,w'⟩;have b:k < lo+x+1:=b;have a:lo+x+1 - (q+1+1)<=k:=a;rw [show lo+(x+1) - 1=lo+x from rfl,ek];rcases lt_or_ge k (lo+x) with z | z
    ·exact e' k (zB1 (zB2 (Nat.add_sub_add_right (lo+x) 1 (q+1)).symm) a) z
    ·rw [le_antisymm (Q8 b) z,ek]
   ·exact wpS_pure (jS I' (le_of_lt Jr) e' fun Kw I3 k3=>
     turn (fun U=>rfl) (fun U=>rfl) (fun U=>rfl) (fun U=>rfl) I3 (zB1 (succ_le_succ (zero_le _)) KA) (le_of_lt H0) (k3▸d') (k3▸w'))
  ·exact jS I' (le_of_lt Jr) e' fun Kw I3 k3=>wpS_pure ⟨0,rfl,I3,k3▸gi d' fun U=>kle_of_klt eb,one,k3▸w'⟩
 ·rintro c st' ⟨q,rfl,I',d',e',w'⟩;have z1:max (n+1) EM=EM:=max_eq_right JR;exact jS I' (z1.symm▸hn) e' fun Kw I3 k3=>turn (fun U=>rfl) (fun U=>rfl) (fun U=>rfl) (fun U=>rfl) I3 (z1.symm▸h1) (zB2 z1) (k3▸d') (k3▸w')
end
section
variable {M:Model} {A:Around} {s:Shared} {k₀:SortKind} {a₀:Array Keyed} {p:Array (Nat×Nat×Nat)} {st:SortSt} {E:Value->Shared->Prop} {κ:KKd}
def qJ {lo d e:Nat} (he:e < xs.size) (hl:lo<=d) (hd:d<=e) (h:Srt (KK κ xs) lo e) (a:∀ i,lo<=i->i < d->κ.kle (KK κ xs i) (KK κ xs e)) (b:∀ i,d<=i->i < e->κ.kle (KK κ xs e) (KK κ xs i)):Srt (KK κ (bubble xs e (e - d))) lo (e+1)/\Low lo (KK κ (bubble xs e (e - d))) (KK κ xs):=by
 have k:∀ i,KK κ (bubble xs e (e - d)) i=if i=d then KK κ xs e else if d < i/\i<=e then KK κ xs (i - 1) else KK κ xs i:=fun i=>by rw [KK_bubble he (sub_le _ _),Nat.sub_sub_self hd]
 refine ⟨fun i j hi EE hj=>?_,fun i hi=>by rw [k,if_neg (ne_of_lt (Q0 hi hl)),if_neg fun z=>lt_asymm z.1 (Q0 hi hl)]⟩;rw [k,k];have hj:=Q8 hj;rcases lt_trichotomy i d with qi | rfl | qi
 ·rw [if_neg (ne_of_lt qi),if_neg fun z=>lt_asymm z.1 qi];rcases lt_trichotomy j d with qj | rfl | qj
  ·rw [if_neg (ne_of_lt qj),if_neg fun z=>lt_asymm z.1 qj]; exact h i j hi EE (Q0 qj hd)
  ·rw [if_pos rfl]; exact a i hi qi
  ·rw [if_neg (ne_of_gt qj),if_pos ⟨qj,hj⟩]; exact h i (j - 1) hi (le_sub_one_of_lt (lt_trans qi qj)) (Q0 (sub_one_lt_of_lt qj) hj)
 ·rw [if_pos rfl];rcases lt_or_ge i j with qj | qj
  ·rw [if_neg (ne_of_gt qj),if_pos ⟨qj,hj⟩]; exact b (j - 1) (le_sub_one_of_lt qj) (Q0 (sub_one_lt_of_lt qj) hj)
  ·obtain rfl:=le_antisymm EE qj; rw [if_pos rfl]; exact kle_refl _
 ·have qj:d < j:=Q0 qi EE;rw [if_neg (ne_of_gt qi),if_pos ⟨qi,zB1 EE hj⟩,if_neg (ne_of_gt qj),if_pos ⟨qj,hj⟩];exact h (i - 1) (j - 1) (zB1 hl (le_sub_one_of_lt qi)) (Nat.sub_le_sub_right EE 1) (Q0 (sub_one_lt_of_lt qj) hj)
def AV (h:¬ l >= r) (hr:r<=k) (hf:r - l<=k - x):(l+r) / 2 < k/\l<=(l+r) / 2/\(l+r) / 2 < r/\(l+r) / 2 - l<=k - (x+1)/\r - ((l+r) / 2+1)<=k - (x+1):=
 have h:=not_le.mp h;have a:(l+r) / 2 < r:=Nat.div_lt_of_lt_mul (two_mul r▸Nat.add_lt_add_right h r);have b:l<=(l+r) / 2:=(Nat.le_div_iff_mul_le two_pos).mpr (mul_two l▸Q6 (le_of_lt h) l)
 ⟨Q0 a hr,b,a,le_pred_of_lt (Q0 (sub_lt_sub_right b a) hf),le_pred_of_lt (Q0 (Nat.sub_lt_sub_left h (lt_succ_of_le b)) hf)⟩
inductive B1 (κ:KKd) (k₀:SortKind) (a₀:Array Keyed) (p:Array (Nat×Nat×Nat)) (st:SortSt) (lo k:Nat) (c:Option Bool×Unit) (st':SortSt):Prop
 | mk (e:c=(none,())) (i:SI k₀ a₀ p st') (s:Srt (KK κ (arrOf st')) lo (lo+k)) (w:Low lo (KK κ (arrOf st')) (KK κ (arrOf st))):B1 κ k₀ a₀ p st lo k c st'
inductive B2 (κ:KKd) (st':SortSt) (lo k x:Nat) (c:Option Bool×Nat×Nat) (E7:SortSt):Prop
 | mk (l r:Nat) (s:E7=st') (e:c=(none,l,r)) (h1:l<=r) (h2:r<=k) (h3:r - l<=k - x) (a:∀ i,i < l->κ.kle (KK κ (arrOf st') (lo+i)) (KK κ (arrOf st') (lo+k))) (b:∀ i,r<=i->i < k->κ.kle (KK κ (arrOf st') (lo+k)) (KK κ (arrOf st') (lo+i))):B2 κ st' lo k x c E7
def iL {lo n ok:Nat} {Q:Bool->SortSt->Prop} (L:LtIs M A s k₀ κ a₀) (hn:lo+n<=a₀.size) (h1:1<=ok) (h2:ok<=n) (I:SI k₀ a₀ p st) (hs:Srt (KK κ (arrOf st)) lo (lo+ok)) (h:∀ st',SI k₀ a₀ p st'->Srt (KK κ (arrOf st')) lo (lo+n)->Low lo (KK κ (arrOf st')) (KK κ (arrOf st))->Q true st'):wpS M A E s (binarySort' lo n ok) Q st:=by
 rw [binarySort'_eq];have hm:max ok 1=ok:=Nat.max_eq_left h1;refine wpS_bind (wpS_forRange (I:=B1 κ k₀ a₀ p st lo) ?_ (fun c st' ⟨e,I',EQ,hw⟩=>by subst e; rw [hm,max_eq_right h2] at EQ; exact wpS_pure (h st' I' EQ hw)) ⟨rfl,I,hm.symm▸hs,fun U U=>rfl⟩);rintro k c st' hk1 LC ⟨rfl,I',EQ,hw⟩;have Gi:lo+k < a₀.size:=Q0 (add_lt_add_left LC lo) hn;have fin:∀ l,l<=k->(∀ i,i < l->κ.kle (KK κ (arrOf st') (lo+i)) (KK κ (arrOf st') (lo+k)))->(∀ i,l<=i->i < k->κ.kle (KK κ (arrOf st') (lo+k)) (KK κ (arrOf st') (lo+i)))->B1 κ k₀ a₀ p st lo (k+1) (none,()) (setArr st' (bubble (arrOf st') (lo+k) (lo+k - (lo+l)))):=fun l hl a b=>by
  have z:=qJ (I'.size▸Gi) (Q3 lo l) (Q6 hl lo) EQ (fun i h1 h2=>by have:=a (i - lo) (sub_lt_left_of_lt_add h1 h2); rwa [Q5 h1] at this) fun i h1 h2=>by have z:=zB1 (Q3 _ _) h1; have:=b (i - lo) (le_sub_of_add_le' h1) (sub_lt_left_of_lt_add z h2); rwa [Q5 z] at this
  exact ⟨rfl,I'.setArr (bubble_perm _ _ _),z.1,fun i hi=>(z.2 i hi).trans (hw i hi)⟩
 refine wpS_bind (wpS_forRange (I:=B2 κ st' lo k) ?_ ?_ ⟨0,k,rfl,rfl,zero_le _,le_refl _,le_refl _,fun i q=>absurd q (not_lt_zero _),fun i q z=>absurd z (not_lt.mpr q)⟩)
 ·rintro x c E7 _ _ ⟨l,r,rfl,rfl,hlr,hr,hf,a,b⟩;dsimp only;split
  ·rename_i q;cases le_antisymm hlr q
   exact wpS_pure (wpS_bind (by rw [moveDown'_eq]; exact wpS_modify (wpS_pure (fin l hr a b))))
  ·rename_i q;obtain ⟨m1,m2,m3,m4,m5⟩:=AV q hr hf;refine (gG L I' Gi (lt_trans (add_lt_add_left m1 lo) Gi) fun bb e=>?_);cases bb
   ·exact wpS_pure ⟨_,r,rfl,rfl,m3,hr,m5,fun i hi=>kle_trans (EQ _ _ (Q3 _ _) (Q6 (Q8 hi) lo) (add_lt_add_left m1 lo)) e,b⟩
   ·exact wpS_pure ⟨l,_,rfl,rfl,m2,le_of_lt m1,m4,a,fun i hi hk=>kle_trans (kle_of_klt e) (EQ _ _ (Q3 _ _) (Q6 hi lo) (add_lt_add_left hk lo))⟩
 ·rintro c E7 ⟨l,r,rfl,rfl,hlr,hr,hf,a,b⟩;have:l=r:=le_antisymm hlr (by have:r - l<=k - max 0 k:=hf; rw [max_eq_right (zero_le _),sub_self] at this; exact Nat.sub_eq_zero_iff_le.mp (le_zero.mp this));subst this;exact wpS_bind (by rw [moveDown'_eq]; exact wpS_modify (wpS_pure (fin l hr a b)))
def aw [Decidable c] (h1:c->wpS M A E s t Q st) (h2:¬ c->wpS M A E s e Q st):wpS M A E s (if c then t else e) Q st:=by
 split
 ·exact h1 ‹_›
 ·exact h2 ‹_›
end
noncomputable def sN:Bool->Keyed->Array Keyed->Nat->Nat->Nat->StateT SortSt Sem (Option Nat):=sortPriv% PySem.Builtin.gallop
noncomputable def bey {κ:KKd} (left:Bool) (x y:κ.α):Bool:=if left=true then κ.blt y x else !κ.blt x y
structure GI (b:Nat->Bool) (n l h:Nat):Prop where
 lh:l<=h
 hn:h<=n
 yes:∀ i,i < l->b i=true
 no:∀ i,h<=i->i < n->b i=false
def Mon (b:Nat->Bool) (n:Nat):Prop:=∀ i j,i<=j->j < n->b j=true->b i=true
theorem Mon.no {b:Nat->Bool} (m:Mon b n) (hj:j < n) (h:b i=false) (q:i<=j):b j=false:=by
 cases e:b j with
 | false=>rfl
 | true=>exact nomatch h.symm.trans (m i j q hj e)
def BW {b:Nat->Bool} {n Eh l o:Nat} (mo:Mon b n) (hh:Eh < n) (h1:l < o) (h2:l<=Eh) (h3:b (Eh - l)=false) (h4:Eh+1<=o\/o<=Eh/\b (Eh - o)=true):GI b n (Eh+1 - min o (Eh+1)) (Eh - l):=
 ⟨Nat.add_sub_add_right Eh 1 l▸Nat.sub_le_sub_left (le_min.mpr ⟨h1,succ_le_succ h2⟩) _,zB1 (sub_le _ _) (le_of_lt hh),fun i hi=>h4.elim (fun q=>by rw [Nat.min_eq_right q,sub_self] at hi; exact absurd hi (not_lt_zero _)) fun q=>mo i (Eh - o) (by rw [min_eq_left (le_succ_of_le q.1),Nat.succ_sub q.1] at hi; exact Q8 hi) (Q1 (sub_le _ _) hh) q.2,fun i hi E6=>mo.no E6 h3 hi⟩
def BV {b:Nat->Bool} {n Eh l o:Nat} (mo:Mon b n) (hh:Eh < n) (h1:l < o) (h2:Eh+l < n) (h3:b (Eh+l)=true) (h4:n - Eh<=o\/o<=n - Eh/\b (Eh+o)=false):GI b n (Eh+l+1) (Eh+min o (n - Eh)):=
 ⟨Q6 (le_min.mpr ⟨h1,le_sub_of_add_le' h2⟩) Eh,zB1 (Q6 (min_le_right _ _) _) (zB2 (Q5 (le_of_lt hh))),fun i hi=>mo i (Eh+l) (Q8 hi) h2 h3,fun i hi E6=>h4.elim (fun q=>by rw [Nat.min_eq_right q,Q5 (le_of_lt hh)] at hi; exact absurd E6 (not_lt.mpr hi)) fun q=>mo.no E6 q.2 (by rw [min_eq_left q.1] at hi; exact hi)⟩
section
variable {M:Model} {A:Around} {s:Shared} {k₀:SortKind} {a₀:Array Keyed} {p:Array (Nat×Nat×Nat)} {st:SortSt} {E:Value->Shared->Prop} {κ:KKd}
def pW (L:LtIs M A s k₀ κ a₀) (hk:kindOf st=k₀) (hx:key∈a₀.toList) (ha:∀ x∈arr.toList,x∈a₀.toList) (hi:i < arr.size) (h:∀ b,bey left (keyK κ key) (KK κ arr i)=b->Q (some b) st) :
  wpS M A E s (elem' arr i >>= fun x=>if left=true then lt' x key else lt' key x >>= fun r=>pure (r.map (!·))) Q st:=by
 refine (a8 hi fun x hm ex=>?_);rw [kk_at ex] at h;cases left
 ·exact wpS_bind (ni L hk hx (ha x hm) fun b e=>wpS_pure (h _ (congrArg (!·) e)))
 ·exact ni L hk (ha x hm) hx h
def eX {b:Nat->Bool} {n lo hi:Nat} {f:Nat->Option (Option Nat)×Nat×Nat->StateT SortSt Sem (ForInStep (Option (Option Nat)×Nat×Nat))} {F:Option (Option Nat)×Nat×Nat->StateT SortSt Sem (Option Nat)} {Q:Option Nat->SortSt->Prop}
  (hf:∀ x l h,GI b n l h->h - l<=n - x->wpS M A E s (f x (none,l,h)) (fun r st'=>st'=st/\((r=.done (none,l,h)/\h<=l)\/∃ l' h',r=.yield (none,l',h')/\GI b n l' h'/\h' - l'<=n - (x+1))) st) (hF:∀ l h,F (none,l,h)=pure (some h)) (g:GI b n lo hi) (h:∀ k,GI b n k k->Q (some k) st):wpS M A E s (forIn [:n] (none,lo,hi) f >>= F) Q st:=by
 refine wpS_bind (wpS_forRange (I:=fun x c st'=>st'=st/\∃ l h,c=(none,l,h)/\GI b n l h/\h - l<=n - x) ?_ ?_ ⟨rfl,lo,hi,rfl,g,zB1 (sub_le _ _) g.hn⟩)
 ·rintro x c st' _ _ ⟨rfl,l,h',rfl,q,z⟩;refine wpS_mono (hf x l h' q z) fun r E7 w=>?_;obtain ⟨rfl,⟨rfl,w⟩ | ⟨l',h',rfl,q,z⟩⟩:=w
  ·refine (?_:wpS _ _ _ _ (F _) _ _);rw [hF];obtain rfl:=le_antisymm q.lh w;exact wpS_pure (h _ q)
  ·exact ⟨rfl,l',h',rfl,q,z⟩
 ·rintro c st' ⟨rfl,l,h',rfl,q,z⟩;have z:h' - l<=n - max 0 n:=z;rw [hF];obtain rfl:=le_antisymm q.lh (by rw [max_eq_right (zero_le _),sub_self] at z; exact Nat.sub_eq_zero_iff_le.mp (le_zero.mp z));exact wpS_pure (h _ q)
inductive GL (b:Nat->Bool) (Eh:Nat) (st:SortSt) (x:Nat) (c:Option (Option Nat)×Nat×Nat) (st':SortSt):Prop
 | mk (l o:Nat) (s:st'=st) (e:c=(none,l,o)) (h1:l < o) (h2:l<=Eh) (h3:x+1<=o) (h4:b (Eh - l)=false):GL b Eh st x c st'
inductive GR (b:Nat->Bool) (n Eh:Nat) (st:SortSt) (x:Nat) (c:Option (Option Nat)×Nat×Nat) (st':SortSt):Prop
 | mk (l o:Nat) (s:st'=st) (e:c=(none,l,o)) (h1:l < o) (h2:Eh+l < n) (h3:x+1<=o) (h4:b (Eh+l)=true):GR b n Eh st x c st'
def xz {b:Nat->Bool} {left:Bool} {arr:Array Keyed} {base n Eh:Nat} {Q:Option Nat->SortSt->Prop} (bt:∀ {i} {β:Type} {f:Option Bool->StateT SortSt Sem β} {R:β->SortSt->Prop},i < n->(∀ c,b i=c->wpS M A E s (f (some c)) R st)->wpS M A E s ((elem' arr (base+i) >>= fun x=>if left=true then lt' x key else lt' key x >>= fun r=>pure (r.map (!·))) >>= f) R st) (hh:Eh < n) (mo:Mon b n) (h:∀ k,GI b n k k->Q (some k) st):wpS M A E s (sN left key arr base n Eh) Q st:=by
 refine (bt hh fun c e0=>?_);have two:∀ x l h',GI b n l h'->h' - l<=n - x->wpS M A E s ((if l >= h' then pure (.done (none,l,h')) else (elem' arr (base+(l+(h' - l) / 2)) >>= fun x=>if left=true then lt' x key else lt' key x >>= fun r=>pure (r.map (!·))) >>= fun r=>match r with
   | some more=>if more=true then pure (.yield (none,l+(h' - l) / 2+1,h')) else pure (.yield (none,l,l+(h' - l) / 2))
   | _=>pure (.done (some none,l,h'))):StateT SortSt Sem (ForInStep (Option (Option Nat)×Nat×Nat))) (fun r st'=>st'=st/\((r=.done (none,l,h')/\h'<=l)\/∃ l' GK,r=.yield (none,l',GK)/\GI b n l' GK/\GK - l'<=n - (x+1))) st:=by
  intro x l h' g z;split
  ·exact wpS_pure ⟨rfl,.inl ⟨rfl,‹_›⟩⟩
  ·rename_i q;have q:=not_le.mp q;have md:l+(h' - l) / 2 < h':=add_lt_of_lt_sub' (Nat.div_lt_self (sub_pos_of_lt q) (by decide));have Lc:=Q0 md g.hn;refine (bt Lc fun b eb=>?_);cases b
   ·exact wpS_pure ⟨rfl,.inr ⟨_,_,rfl,⟨Q3 _ _,le_of_lt Lc,g.yes,fun i h1 h2=>mo.no h2 eb h1⟩,le_pred_of_lt (Q0 (sub_lt_sub_right (Q3 _ _) md) z)⟩⟩
   ·exact wpS_pure ⟨rfl,.inr ⟨_,_,rfl,⟨md,g.hn,fun i hi=>mo i _ (Q8 hi) Lc eb,g.no⟩,le_pred_of_lt (Q0 (Nat.sub_lt_sub_left q (lt_succ_of_le (Q3 _ _))) z)⟩⟩
 cases c
 ·refine wpS_bind (wpS_forRange (I:=GL b Eh st) ?_ ?_ ⟨0,1,rfl,rfl,by decide,zero_le _,by decide,e0⟩)
  ·rintro x c st' _ _ ⟨l,o,rfl,rfl,h1,h2,h3,h4⟩;dsimp only;split
   ·exact wpS_pure (eX (fun x l h' q z=>two x l h' q z) (fun l h=>rfl) (BW mo hh h1 h2 h4 (.inl ‹_›)) h)
   ·rename_i q;have q:=Q8 (not_le.mp q);refine (bt (Q1 (sub_le _ _) hh) fun b eb=>?_);cases b
    ·exact wpS_pure ⟨_,_,rfl,rfl,lt_succ_of_le (Nat.le_mul_of_pos_left o two_pos),q,succ_le_succ (zB1 h3 (Nat.le_mul_of_pos_left o two_pos)),eb⟩
    ·exact wpS_pure (eX (fun x l h' q z=>two x l h' q z) (fun l h=>rfl) (BW mo hh h1 h2 h4 (.inr ⟨q,eb⟩)) h)
  ·rintro c st' ⟨l,o,rfl,rfl,h1,h2,h3,h4⟩;exact eX (fun x l h' q z=>two x l h' q z) (fun l h=>rfl) (BW mo hh h1 h2 h4 (.inl (zB1 (le_succ_of_le (zB1 hh (Nat.le_max_right 0 n))) h3))) h
 ·refine wpS_bind (wpS_forRange (I:=GR b n Eh st) ?_ ?_ ⟨0,1,rfl,rfl,by decide,hh,by decide,e0⟩)
  ·rintro x c st' _ _ ⟨l,o,rfl,rfl,h1,h2,h3,h4⟩;dsimp only;split
   ·exact wpS_pure (eX (fun x l h' q z=>two x l h' q z) (fun l h=>rfl) (BV mo hh h1 h2 h4 (.inl ‹_›)) h)
   ·rename_i q;have q:=not_le.mp q;have q':Eh+o < n:=add_lt_of_lt_sub' q;refine (bt q' fun b eb=>?_);cases b
    ·exact wpS_pure (eX (fun x l h' q z=>two x l h' q z) (fun l h=>rfl) (BV mo hh h1 h2 h4 (.inr ⟨le_of_lt q,eb⟩)) h)
    ·exact wpS_pure ⟨_,_,rfl,rfl,lt_succ_of_le (Nat.le_mul_of_pos_left o two_pos),q',succ_le_succ (zB1 h3 (Nat.le_mul_of_pos_left o two_pos)),eb⟩
  ·rintro c st' ⟨l,o,rfl,rfl,h1,h2,h3,h4⟩;exact eX (fun x l h' q z=>two x l h' q z) (fun l h=>rfl) (BV mo hh h1 h2 h4 (.inl (zB1 (sub_le _ _) (zB1 (le_succ_of_le (Nat.le_max_right 0 n)) h3)))) h
def dx {left:Bool} {arr:Array Keyed} {base n Eh:Nat} {β:Type} {f:Option Nat->StateT SortSt Sem β} {Q:β->SortSt->Prop} (L:LtIs M A s k₀ κ a₀) (hk:kindOf st=k₀) (hx:key∈a₀.toList) (ha:∀ x∈arr.toList,x∈a₀.toList) (hb:base+n<=arr.size) (hh:Eh < n) (mo:Mon (fun i=>bey left (keyK κ key) (KK κ arr (base+i))) n) (h:∀ k,GI (fun i=>bey left (keyK κ key) (KK κ arr (base+i))) n k k->wpS M A E s (f (some k)) Q st):wpS M A E s (sN left key arr base n Eh >>= f) Q st:=
 wpS_bind (xz (fun q h=>wpS_bind (pW L hk hx ha (Q0 (add_lt_add_left q base) hb) h)) hh mo h)
end
noncomputable def vy:Array Keyed->Array Keyed->StateT SortSt Sem (Array Keyed):=sortPriv% PySem.Builtin.mergeLo
noncomputable def vz:Array Keyed->Array Keyed->StateT SortSt Sem (Array Keyed):=sortPriv% PySem.Builtin.mergeHi
structure Same (st st':SortSt):Prop where
 arr:arrOf st'=arrOf st
 kind:kindOf st'=kindOf st
 failed:failedOf st'=failedOf st
 pend:pendingOf st'=pendingOf st
theorem Same.refl (st:SortSt):Same st st:=⟨rfl,rfl,rfl,rfl⟩
theorem Same.trans (x:Same a b) (y:Same b c):Same a c:=⟨y.arr.trans x.arr,y.kind.trans x.kind,y.failed.trans x.failed,y.pend.trans x.pend⟩
def kl (κ:KKd) (x y:Keyed):Prop:=κ.kle (keyK κ x) (keyK κ y)
structure Ord (κ:KKd) (F l:List Keyed):Prop where
 perm:l.Perm F
 srt:l.Pairwise (kl κ)
structure JLo (κ:KKd) (F o ra rb:List Keyed):Prop where
 perm:(o++(ra++rb)).Perm F
 srt:o.Pairwise (kl κ)
 leA:∀ x∈o,∀ y∈ra,kl κ x y
 leB:∀ x∈o,∀ y∈rb,kl κ x y
 sa:ra.Pairwise (kl κ)
 sb:rb.Pairwise (kl κ)
section
variable {κ:KKd} {F o ra rb X:List Keyed}
theorem JLo.swap (J:JLo κ F o ra rb):JLo κ F o rb ra:=⟨((List.perm_append_comm).append_left o).trans J.perm,J.srt,J.leB,J.leA,J.sb,J.sa⟩
theorem JLo.moveA (J:JLo κ F o (X++ra) rb) (h:∀ x∈X,∀ y∈rb,kl κ x y):JLo κ F (o++X) ra rb:=
 have z:=pairwise_append.mp J.sa
 ⟨by have:=J.perm; rwa [append_assoc,<- append_assoc o] at this,pairwise_append.mpr ⟨J.srt,z.1,fun x hx y hy=>J.leA x hx y (mem_append_left _ hy)⟩,
  fun x hx y hy=>(mem_append.mp hx).elim (fun hx=>J.leA x hx y (mem_append_right _ hy)) fun hx=>z.2.2 x hx y hy,fun x hx y hy=>(mem_append.mp hx).elim (fun hx=>J.leB x hx y hy) fun hx=>h x hx y hy,z.2.1,J.sb⟩
theorem JLo.moveB (J:JLo κ F o ra (X++rb)) (h:∀ x∈X,∀ y∈ra,kl κ x y):JLo κ F (o++X) ra rb:=(J.swap.moveA h).swap
theorem JLo.all (J:JLo κ F o [] []):Ord κ F o:=⟨by have:=J.perm; rwa [append_nil,append_nil] at this,J.srt⟩
theorem JLo.endA (J:JLo κ F o ra []):Ord κ F (o++ra):=JLo.all (JLo.moveA (ra:=[]) (by rw [append_nil]; exact J) fun U U U h=>nomatch h)
theorem JLo.endB (J:JLo κ F o [] rb):Ord κ F (o++rb):=J.swap.endA
theorem JLo.endL (J:JLo κ F o [z] rb) (h:∀ x∈rb,kl κ x z):Ord κ F (o++rb++[z]):=JLo.endA (JLo.moveB (rb:=[]) (by rw [append_nil]; exact J) fun x hx y hy=>by obtain rfl:=zA6 hy; exact h x hx)
end
section
variable {a b o:Array Keyed} {i j k:Nat} {x:Keyed}
def hM (e:a[i]?=some x):a.toList.drop i=x :: a.toList.drop (i+1):=by
 obtain ⟨h,rfl⟩:=Array.getElem?_eq_some_iff.mp e;rw [List.drop_eq_getElem_cons (by simpa using h)]; rfl
def pH (h:i<=k) (hk:k<=a.size):a.toList.drop i=(a.extract i k).toList++a.toList.drop k:=by
 rw [toList_extract,extract_eq_take_drop,show a.toList.drop k=(a.toList.drop i).drop (k - i) by rw [drop_drop,Q5 h],take_append_drop]
def ext_all:(a.extract i).toList=a.toList.drop i:=by rw [toList_extract,extract_eq_take_drop]; exact List.take_of_length_le (by rw [length_drop]; exact le_refl _)
def drop_nil (h:i=a.size):a.toList.drop i=[]:=by subst h; exact List.drop_of_length_le (zB2 (by simp))
def fg (h:x∈(a.extract i k).toList):∃ n,n < k - i/\a[i+n]?=some x:=by
 rw [toList_extract,extract_eq_take_drop] at h;obtain ⟨n,hn⟩:=getElem?_of_mem h;have Et:=(List.getElem?_eq_some_iff.mp hn).1;rw [length_take] at Et;refine ⟨n,Q0 Et (min_le_left _ _),?_⟩;rw [getElem?_take_of_lt (Q0 Et (min_le_left _ _)),getElem?_drop,Q2] at hn;exact hn
def j6 (h:x∈a.toList.drop i):∃ n,i<=n/\n < a.size/\a[n]?=some x:=by
 obtain ⟨n,hn⟩:=getElem?_of_mem h;rw [getElem?_drop,Q2] at hn;exact ⟨i+n,Q3 _ _,(Array.getElem?_eq_some_iff.mp hn).1,hn⟩
end
def qC {κ:KKd} {a:Array Keyed} (h:a.toList.Pairwise (kl κ)) (EE:i<=j) (hj:j < a.size):κ.kle (KK κ a i) (KK κ a j):=by
 rcases Nat.lt_or_eq_of_le EE with q | rfl
 ·have z:=pairwise_iff_getElem.mp h i j (by simpa using lt_trans q hj) (by simpa using hj) q;rw [kk_at (Array.getElem?_eq_getElem (lt_trans q hj)),kk_at (Array.getElem?_eq_getElem hj)];exact z
 ·exact kle_refl _
section
variable {M:Model} {A:Around} {s:Shared} {k₀:SortKind} {a₀:Array Keyed} {p:Array (Nat×Nat×Nat)} {st st':SortSt} {E:Value->Shared->Prop} {κ:KKd}
def xw (S:Same st st') (h:∀ E7,Same st E7->Q () E7):wpS M A E s ((sortPriv% PySem.Builtin.setMinGallop) m) Q st':=wpS_modify (h _ (S.trans ⟨rfl,rfl,rfl,rfl⟩))
def fX {β:Type} {f:Unit->StateT SortSt Sem β} {Q:β->SortSt->Prop} (S:Same st st') (h:∀ E7,Same st E7->wpS M A E s (f ()) Q E7):wpS M A E s ((sortPriv% PySem.Builtin.setMinGallop) m >>= f) Q st':=wpS_bind (xw S h)
inductive Sq {δ:Type} (st:SortSt) (R:Array Keyed->Prop) (J:Nat->δ->Prop) (n n':Nat):ForInStep (Option (Array Keyed)×δ)->SortSt->Prop
 | dn {r:Array Keyed} {d:δ} {st':SortSt} (S:Same st st') (p:R r):Sq st R J n n' (.done (some r,d)) st'
 | st {d:δ} {st':SortSt} (S:Same st st') (p:J n' d):Sq st R J n n' (.done (none,d)) st'
 | go {d:δ} {st':SortSt} (S:Same st st') (p:J n d):Sq st R J n n' (.yield (none,d)) st'
def gV {i j:Nat} (h:¬ (i==j)=true):i≠j:=fun e=>h (by simpa using e)
def cz {δ β:Type} {t n':Nat} {f:Nat->Option (Array Keyed)×δ->StateT SortSt Sem (ForInStep (Option (Array Keyed)×δ))} {H:Option (Array Keyed)×δ->StateT SortSt Sem β} {Q:β->SortSt->Prop} {R:Array Keyed->Prop} {d:δ} (J:Nat->δ->Prop)
  (N:Nat->Nat) (S:Same st st') (j0:J (N 0) d) (fin:∀ d,J (N t) d->J n' d)
  (step:∀ y d st',Same st st'->J (N y) d->wpS M A E s (f y (none,d)) (Sq st R J (N (y+1)) n') st') (ret:∀ r d st',Same st st'->R r->wpS M A E s (H (some r,d)) Q st')
  (go:∀ d st',Same st st'->J n' d->wpS M A E s (H (none,d)) Q st'):wpS M A E s (forIn [:t] (none,d) f >>= H) Q st':=by
 refine wpS_bind (wpS_mono (wpS_forRange (I:=fun y c st'=>Sq st R J (N y) n' (.yield c) st') (Q:=fun c st'=>Sq st R J n' n' (.done c) st') ?_ ?_ (.go S j0)) ?_)
 ·rintro y c EK _ _ (_ | _ | ⟨S,j⟩);exact wpS_mono (step y _ EK S j) fun r U q=>by
   rcases q with ⟨S,p⟩ | ⟨S,p⟩ | ⟨S,p⟩
   ·exact .dn S p
   ·exact .st S p
   ·exact .go S p
 ·intro c EK G;rw [max_eq_right (zero_le _)] at G;rcases G with _ | _ | ⟨S,j⟩
  exact .st S (fin _ j)
 ·rintro c EK (⟨S,p⟩ | ⟨S,p⟩ | _)
  ·exact ret _ _ EK S p
  ·exact go _ EK S p
def xy (L:LtIs M A s k₀ κ a₀) (hk:kindOf st=k₀) (hx:x∈a₀.toList) (hy:y∈a₀.toList) (h1:κ.klt (keyK κ x) (keyK κ y)->Q (some true) st) (h0:kl κ y x->Q (some false) st):wpS M A E s (lt' x y) Q st:=ni L hk hx hy fun b e=>by
 cases b
 ·exact h0 e
 ·exact h1 e
def rJ {β:Type} {f:Option Bool->StateT SortSt Sem β} {Q:β->SortSt->Prop} (L:LtIs M A s k₀ κ a₀) (hk:kindOf st=k₀) (hx:x∈a₀.toList) (hy:y∈a₀.toList) (h1:κ.klt (keyK κ x) (keyK κ y)->wpS M A E s (f (some true)) Q st) (h0:kl κ y x->wpS M A E s (f (some false)) Q st):wpS M A E s (lt' x y >>= f) Q st:=wpS_bind (xy L hk hx hy h1 h0)
def cG {n:Nat} {o:Array Keyed} (h:n<=o.size):n+1<=(o.push x).size:=by rw [Array.size_push]; exact succ_le_succ h
def ck {n:Nat} {o:Array Keyed} (h:n<=o.size):n<=(o.push x).size:=le_of_succ_le (cG h)
def jr {n:Nat} {o e:Array Keyed} (h:n<=o.size):n<=(o++e).size:=by rw [size_append]; exact le_add_right_of_le h
noncomputable abbrev FF (a b:Array Keyed):List Keyed:=a.toList++b.toList
abbrev JL (κ:KKd) (a b o:Array Keyed) (i j:Nat):Prop:=JLo κ (FF a b) o.toList (a.toList.drop i) (b.toList.drop j)
structure LoS (κ:KKd) (a b:Array Keyed) (n:Nat) (o:Array Keyed) (i m:Nat):Prop where
 j:JL κ a b o i m
 hi:i+1 < a.size
 hj:m < b.size
 sz:n<=o.size
def LoJ {γ:Type} (κ:KKd) (a b:Array Keyed) (n:Nat) (d:Array Keyed×Nat×Nat×γ):Prop:=LoS κ a b n d.1 d.2.1 d.2.2.1
theorem LoS.le {m n:Nat} (h:m<=n) (J:LoS κ a b n o i q):LoS κ a b m o i q:=⟨J.j,J.hi,J.hj,zB1 h J.sz⟩
theorem LoS.lt (J:LoS κ a b (a.size+b.size+1) o i q):False:=by
 have h:=J.j.perm.length_eq;simp only [zB5,zB3,length_drop] at h;have:=J.sz;have:=J.hi;have:=J.hj;exact absurd J.sz (not_le.mpr (lt_succ_of_le (zB1 (Q3 _ _) (zB2 h))))
def bZ {i n:Nat} (h:i<=n) (e:¬ (i==n)=true):i < n:=lt_of_le_of_ne h (gV e)
def tM {i n:Nat} (h:i<=n) (e:¬ (i+1==n)=true) (e':¬ (i==n)=true):i+1 < n:=bZ (bZ h e') e
section
variable {a b o:Array Keyed} {i j k:Nat} {x y:Keyed}
theorem JL.pushA (J:JL κ a b o i j) (e:a[i]?=some x) (h:∀ y∈b.toList.drop j,kl κ x y):JL κ a b (o.push x) (i+1) j:=by
 have J:JLo κ (FF a b) o.toList ([x]++a.toList.drop (i+1)) (b.toList.drop j):=by have:=J; rwa [JL,hM e] at this
 refine (?_:JLo κ (FF a b) (o.push x).toList _ _);rw [toList_push];exact J.moveA fun z hz=>by obtain rfl:=zA6 hz; exact h
theorem JL.pushB (J:JL κ a b o i j) (e:b[j]?=some x) (h:∀ y∈a.toList.drop i,kl κ x y):JL κ a b (o.push x) i (j+1):=by
 have J:JLo κ (FF a b) o.toList (a.toList.drop i) ([x]++b.toList.drop (j+1)):=by have:=J; rwa [JL,hM e] at this
 refine (?_:JLo κ (FF a b) (o.push x).toList _ _);rw [toList_push];exact J.moveB fun z hz=>by obtain rfl:=zA6 hz; exact h
theorem JL.moreA (J:JL κ a b o i j) (h:i<=k) (hk:k<=a.size) (hX:∀ x∈(a.extract i k).toList,∀ y∈b.toList.drop j,kl κ x y):JL κ a b (o++a.extract i k) k j:=by
 have J:JLo κ (FF a b) o.toList ((a.extract i k).toList++a.toList.drop k) (b.toList.drop j):=by have:=J; rwa [JL,pH h hk] at this
 refine (?_:JLo κ (FF a b) (o++a.extract i k).toList _ _);rw [toList_append];exact J.moveA hX
theorem JL.moreB (J:JL κ a b o i j) (h:j<=k) (hk:k<=b.size) (hX:∀ x∈(b.extract j k).toList,∀ y∈a.toList.drop i,kl κ x y):JL κ a b (o++b.extract j k) i k:=by
 have J:JLo κ (FF a b) o.toList (a.toList.drop i) ((b.extract j k).toList++b.toList.drop k):=by have:=J; rwa [JL,pH h hk] at this
 refine (?_:JLo κ (FF a b) (o++b.extract j k).toList _ _);rw [toList_append];exact J.moveB hX
theorem JL.doneB (J:JL κ a b o i j) (h:j=b.size):Ord κ (FF a b) (o++a.extract i++b.extract j).toList:=by
 have J:JLo κ (FF a b) o.toList (a.toList.drop i) []:=by have:=J; rwa [JL,drop_nil h] at this
 have:=J.endA;rw [toList_append,toList_append,ext_all,ext_all,drop_nil h,append_nil]; exact this
theorem JL.doneA (J:JL κ a b o i j) (h:i=a.size):Ord κ (FF a b) (o++a.extract i++b.extract j).toList:=by
 have J:JLo κ (FF a b) o.toList [] (b.toList.drop j):=by have:=J; rwa [JL,drop_nil h] at this
 have:=J.endB;rw [toList_append,toList_append,ext_all,ext_all,drop_nil h,append_nil]; exact this
theorem JL.last (J:JL κ a b o i j) (h:i+1=a.size) (hl:∀ x∈b.toList,∀ z,a[a.size - 1]?=some z->kl κ x z):Ord κ (FF a b) (o++b.extract j++a.extract i).toList:=by
 obtain ⟨z,ez⟩:∃ z,a[i]?=some z:=⟨_,Array.getElem?_eq_getElem (h▸lt_succ_self i)⟩;have e:a.toList.drop i=[z]:=by rw [hM ez,drop_nil h]
 have J:JLo κ (FF a b) o.toList [z] (b.toList.drop j):=by have:=J; rwa [JL,e] at this
 have:=J.endL fun x hx=>hl x (List.mem_of_mem_drop hx) z (by rw [<- h]; exact ez);rw [toList_append,toList_append,ext_all,ext_all,e]; exact this
def ju {k:κ.α} (sb:b.toList.Pairwise (kl κ)) (e:b[j]?=some x) (h:κ.kle k (keyK κ x)):∀ y∈b.toList.drop j,κ.kle k (keyK κ y):=fun y hy=>by
 obtain ⟨n,h1,h2,h3⟩:=j6 hy;have z:=qC sb h1 h2;rw [kk_at e,kk_at h3] at z;exact kle_trans h z
end
def wJ {a:Array Keyed} (sa:a.toList.Pairwise (kl κ)) (k:κ.α) (hn:i+n<=a.size):Mon (fun m=>bey false k (KK κ a (i+m))) n:=fun x y HZ hy h=>by
 have h:(!κ.blt k (KK κ a (i+y)))=true:=h;have h:κ.kle (KK κ a (i+y)) k:=by unfold KeyOrd.kle; simpa using h
 have z:=kle_trans (qC sa (Q6 HZ i) (Q0 (add_lt_add_left hy i) hn)) h;refine (?_:(!κ.blt k (KK κ a (i+x)))=true);unfold KeyOrd.kle at z; rw [z]; rfl
def wI {a:Array Keyed} (sa:a.toList.Pairwise (kl κ)) (k:κ.α) (hn:i+n<=a.size):Mon (fun m=>bey true k (KK κ a (i+m))) n:=fun x y HZ hy h=>
 KeyOrd.klt_of_kle_of_klt (qC sa (Q6 HZ i) (Q0 (add_lt_add_left hy i) hn)) h
def ux {k x:κ.α} (h:bey false k x=true):κ.kle x k:=by
 have h:(!κ.blt k x)=true:=h;unfold KeyOrd.kle; simpa using h
def BX {k x:κ.α} (h:bey false k x=false):κ.klt k x:=by
 have h:(!κ.blt k x)=false:=h;unfold KeyOrd.klt; simpa using h
def w8 {k x:κ.α} (h:bey true k x=true):κ.klt x k:=h
def BL {k x:κ.α} (h:bey true k x=false):κ.kle k x:=h
end
section
variable {M:Model} {A:Around} {s:Shared} {k₀:SortKind} {a₀:Array Keyed} {p:Array (Nat×Nat×Nat)} {st st':SortSt} {E:Value->Shared->Prop} {κ:KKd}
def DX {a:Array Keyed} {v:Keyed} (hi:i<=a.size) (g:GI (fun m=>bey false (keyK κ v) (KK κ a (i+m))) (a.size - i) k k):(∀ x∈(a.extract i (i+k)).toList,kl κ x v)/\∀ y∈a.toList.drop (i+k),kl κ v y:=by
 refine ⟨fun x hx=>?_,fun y hy=>?_⟩
 ·obtain ⟨n,hn,e⟩:=fg hx;have z:=ux (g.yes n (add_sub_cancel_left i k▸hn));rw [kk_at e] at z;exact z
 ·obtain ⟨n,h1,h2,e⟩:=j6 hy;have z:=BX (g.no (n - i) (le_sub_of_add_le' h1) (sub_lt_sub_right (le_of_add_right_le h1) h2));rw [Q5 (le_of_add_right_le h1),kk_at e] at z;exact kle_of_klt z
def DW {a:Array Keyed} {v:Keyed} (hi:i<=a.size) (g:GI (fun m=>bey true (keyK κ v) (KK κ a (i+m))) (a.size - i) k k):(∀ x∈(a.extract i (i+k)).toList,kl κ x v)/\∀ y∈a.toList.drop (i+k),kl κ v y:=by
 refine ⟨fun x hx=>?_,fun y hy=>?_⟩
 ·obtain ⟨n,hn,e⟩:=fg hx;have z:=w8 (g.yes n (add_sub_cancel_left i k▸hn));rw [kk_at e] at z;exact kle_of_klt z
 ·obtain ⟨n,h1,h2,e⟩:=j6 hy;have z:=BL (g.no (n - i) (le_sub_of_add_le' h1) (sub_lt_sub_right (le_of_add_right_le h1) h2));rw [Q5 (le_of_add_right_le h1),kk_at e] at z;exact z
def og {a b:Array Keyed} {Q:Array Keyed->SortSt->Prop} (L:LtIs M A s k₀ κ a₀) (hk:kindOf st=k₀) (ha:∀ x∈a.toList,x∈a₀.toList) (hb:∀ x∈b.toList,x∈a₀.toList) (h1:1<=a.size) (h2:1<=b.size)
  (sa:a.toList.Pairwise (kl κ)) (sb:b.toList.Pairwise (kl κ)) (hf:∀ x,b[0]?=some x->∀ y∈a.toList,kl κ x y) (hl:∀ x∈b.toList,∀ z,a[a.size - 1]?=some z->kl κ x z)
  (h:∀ out st',Same st st'->Ord κ (FF a b) out.toList->Q out st'):wpS M A E s (vy a b) Q st:=by
 refine iA ?_;refine (a8 (a:=b) h2 fun x hx ex=>?_);have J0:JL κ a b #[x] 0 1:=JL.pushB (o:=#[]) (j:=0) (⟨.refl _,.nil,fun U h=>nM h,fun U h=>nM h,sa,sb⟩:JLo κ (FF a b) [] a.toList b.toList) ex (hf x ex);refine aw (fun e=>wpS_pure (h _ _ (.refl _) (J0.doneB (by simpa using e)))) fun e1=>?_;refine aw (fun e=>wpS_pure (h _ _ (.refl _) (J0.last (by simpa using e) hl))) fun e2=>?_;refine (dy ?_)
 let RR:Array Keyed->Prop:=fun r=>Ord κ (FF a b) r.toList
 refine cz (R:=RR) (LoJ κ a b) (fun x=>x+1) (.refl _) ⟨J0,bZ h1 e2,bZ h2 e1,le_refl _⟩ (fun U j=>j) ?_ (fun r d st' S p=>wpS_pure (h _ _ S p)) fun d st' S J=>J.lt.elim;intro x d EK S1 J1;refine cz (R:=RR) (st:=st) (LoJ κ a b) (n':=x+1+1) (fun y=>x+1+y) S1 J1 (fun U j=>j.le (Q6 (le_add_right_of_le h1) _)) ?_ (fun r d st' S p=>wpS_pure (.dn S p)) ?_
 ·intro y d EK S1 J1;obtain ⟨J1,hi,hj,n1⟩:=J1;refine (a8 (a:=b) hj fun v hv ev=>(a8 (a:=a) (lt_of_succ_lt hi) fun u hu eu=>?_));refine (rJ L (S1.kind.trans hk) (hb v hv) (ha u hu) (fun q=>?_) fun q=>?_)
  ·refine (a8 (a:=b) hj fun v' Jt Il=>?_);obtain rfl:=Option.some.inj (ev.symm.trans Il);have J2:=J1.pushB ev (ju sa eu (kle_of_klt q));refine aw (fun e=>wpS_pure (.dn S1 (J2.doneB (by simpa using e)))) fun e3=>?_;have JU:=bZ hj e3;exact aw (fun U=>wpS_pure (.st S1 ⟨J2,hi,JU,cG (le_of_add_right_le n1)⟩)) fun U=>wpS_pure (.go S1 ⟨J2,hi,JU,cG n1⟩)
  ·refine (a8 (a:=a) (lt_of_succ_lt hi) fun u' H1 Im=>?_);obtain rfl:=Option.some.inj (eu.symm.trans Im);have J2:=J1.pushA eu (ju sb ev q);refine aw (fun e=>wpS_pure (.dn S1 (J2.last (by simpa using e) hl))) fun e3=>?_;have E6:=bZ hi e3;exact aw (fun U=>wpS_pure (.st S1 ⟨J2,E6,hj,cG (le_of_add_right_le n1)⟩)) fun U=>wpS_pure (.go S1 ⟨J2,E6,hj,cG n1⟩)
 intro d EK S1 J1;refine iA ?_;refine cz (R:=RR) (st:=st) (LoJ κ a b) (n':=x+1+1) (fun y=>x+1+1) S1 J1 (fun U j=>j) ?_ (fun r d st' S p=>wpS_pure (.dn S p)) fun d st' S J=>(fX S fun EL S2=>wpS_pure (.go S2 J));intro y d EK S1 J1;extract_lets z1 o' z2 i' z3 j' z4 g' z5 c1' c2' j1 jp mg;have FU:∀ g,wpS M A E s (jp () g) (Sq st RR (LoJ κ a b) (x+1+1) (x+1+1)) EK:=by
  intro g;have KH:d.2.1<=a.size:=le_of_lt (lt_of_succ_lt J1.hi);refine (fX S1 fun EL S2=>(a8 (a:=b) J1.hj fun v hv ev=>(dx L (S2.kind.trans hk) (hb v hv) ha (zB2 (Q5 KH)) (sub_pos_of_lt (lt_of_succ_lt J1.hi)) (wJ sa _ (zB2 (Q5 KH))) fun k gk=>?_)));obtain ⟨k1,k2⟩:=DX KH gk;have E5:k<=a.size - d.2.1:=gk.hn;have LR:=ju sb ev (kle_refl (keyK κ v));dsimp (zeta:=false) only;extract_lets ac jp2 o2 i2;have GD:∀ o i,JL κ a b o i d.2.2.1->i+1 < a.size->x+1+1<=o.size->(∀ y∈a.toList.drop i,kl κ v y)->wpS M A E s (jp2 () o i) (Sq st RR (LoJ κ a b) (x+1+1) (x+1+1)) EL:=by
   intro o i Jx hi n2 Ls;refine (a8 (a:=b) J1.hj fun v' Jt Il=>?_);obtain rfl:=Option.some.inj (ev.symm.trans Il);have J2:=Jx.pushB ev Ls;refine aw (fun e=>wpS_pure (.dn S2 (J2.doneB (by simpa using e)))) fun e3=>?_;have e3:d.2.2.1+1 < b.size:=bZ J1.hj e3;refine (a8 (a:=a) (lt_of_succ_lt hi) fun u hu eu=>(dx L (S2.kind.trans hk) (ha u hu) hb (zB2 (Q5 (le_of_lt e3))) (sub_pos_of_lt e3) (wI sb _ (zB2 (Q5 (le_of_lt e3)))) fun m gm=>?_));obtain ⟨m1,m2⟩:=DW (le_of_lt e3) gm;have hm:m<=b.size - (d.2.2.1+1):=gm.hn;have LU:=ju sa eu (kle_refl (keyK κ u));dsimp (zeta:=false) only;extract_lets bc i3 jp3 o3 j3;have GC:∀ o j,JL κ a b o i j->j < b.size->x+1+1<=o.size->(∀ y∈b.toList.drop j,kl κ u y)->wpS M A E s (jp3 () o j) (Sq st RR (LoJ κ a b) (x+1+1) (x+1+1)) EL:=by
    intro o j Jy hj n3 Hr;refine (a8 (a:=a) (lt_of_succ_lt hi) fun u' H1 Im=>?_);obtain rfl:=Option.some.inj (eu.symm.trans Im);have J3:=Jy.pushA eu Hr;refine aw (fun e=>wpS_pure (.dn S2 (J3.last (by simpa using e) hl))) fun e4=>?_;have E6:=bZ hi e4;exact aw (fun U=>wpS_pure (.st S2 ⟨J3,E6,hj,ck n3⟩)) fun U=>wpS_pure (.go S2 ⟨J3,E6,hj,ck n3⟩)
   refine aw (fun U=>?_) fun q=>GC _ _ J2 e3 (ck n2) (by have q:m=0:=Nat.eq_zero_of_not_pos q; subst q; exact m2);have J4:=J2.moreB (k:=d.2.2.1+1+m) (Q3 _ _) (Nat.add_le_of_le_sub' (le_of_lt e3) hm) fun x hx y hy=>kle_trans (m1 x hx) (LU y hy);exact aw (fun e=>wpS_pure (.dn S2 (J4.doneB (by simpa using e)))) fun e4=>GC _ _ J4 (bZ (Nat.add_le_of_le_sub' (le_of_lt e3) hm) e4) (jr (ck n2)) m2
  refine aw (fun U=>?_) fun q=>GD _ _ J1.j J1.hi J1.sz (by have q:k=0:=Nat.eq_zero_of_not_pos q; subst q; exact k2);have Gi:=Nat.add_le_of_le_sub' KH E5;have J5:=J1.j.moreA (k:=d.2.1+k) (Q3 _ _) Gi fun x hx y hy=>kle_trans (k1 x hx) (LR y hy);exact aw (fun e=>wpS_pure (.dn S2 (J5.last (by simpa using e) hl))) fun e4=>aw (fun e=>wpS_pure (.dn S2 (J5.doneA (by simpa using e)))) fun e5=>GD _ _ J5 (tM Gi e4 e5) (jr J1.sz) k2
 exact aw (fun U=>FU _) fun U=>FU _
end
structure JHi (κ:KKd) (F s pa pb:List Keyed):Prop where
 perm:((pa++pb)++s).Perm F
 srt:s.Pairwise (kl κ)
 leA:∀ x∈pa,∀ y∈s,kl κ x y
 leB:∀ x∈pb,∀ y∈s,kl κ x y
 sa:pa.Pairwise (kl κ)
 sb:pb.Pairwise (kl κ)
section
variable {κ:KKd} {F s pa pb X:List Keyed} {z:Keyed}
theorem JHi.swap (J:JHi κ F s pa pb):JHi κ F s pb pa:=⟨((List.perm_append_comm).append_right s).trans J.perm,J.srt,J.leB,J.leA,J.sb,J.sa⟩
theorem JHi.moveB (J:JHi κ F s pa (pb++X)) (h:∀ x∈X,∀ y∈pa,kl κ y x):JHi κ F (X++s) pa pb:=
 have z:=pairwise_append.mp J.sb
 ⟨by have:=J.perm; rwa [<- append_assoc pa,append_assoc _ X] at this,pairwise_append.mpr ⟨z.2.1,J.srt,fun x hx y hy=>J.leB x (mem_append_right _ hx) y hy⟩,
  fun x hx y hy=>(mem_append.mp hy).elim (fun hy=>h y hy x hx) fun hy=>J.leA x hx y hy,fun x hx y hy=>(mem_append.mp hy).elim (fun hy=>z.2.2 x hx y hy) fun hy=>J.leB x (mem_append_left _ hx) y hy,J.sa,z.1⟩
theorem JHi.moveA (J:JHi κ F s (pa++X) pb) (h:∀ x∈X,∀ y∈pb,kl κ y x):JHi κ F (X++s) pa pb:=(J.swap.moveB h).swap
theorem JHi.endA (J:JHi κ F s pa []):Ord κ F (pa++s):=by
 have:=JHi.moveA (pa:=[]) (X:=pa) J fun U U U h=>nM h;exact ⟨this.perm,this.srt⟩
theorem JHi.endB (J:JHi κ F s [] pb):Ord κ F (pb++s):=J.swap.endA
theorem JHi.endF (J:JHi κ F s pa [z]) (h:∀ x∈pa,kl κ z x):Ord κ F ([z]++pa++s):=by
 have:=(JHi.moveA (pa:=[]) (X:=pa) J fun x hx y hy=>by obtain rfl:=zA6 hy; exact h x hx).endB;rwa [append_assoc]
end
section
variable {a b o:Array Keyed} {i j k:Nat} {x:Keyed}
def gS (h:1<=i) (e:a[i - 1]?=some x):a.toList.take i=a.toList.take (i - 1)++[x]:=by
 obtain ⟨m,rfl⟩:∃ m,i=m+1:=⟨i - 1,(sub_add_cancel h).symm⟩;rw [take_add_one,Q2];rw [Nat.add_sub_cancel] at e ⊢;rw [e]; rfl
def oJ (h:k<=i):a.toList.take i=a.toList.take k++(a.extract k i).toList:=by
 rw [toList_extract,extract_eq_take_drop,<- take_add,Q5 h]
def ext_pre:(a.extract 0 i).toList=a.toList.take i:=by rw [toList_extract,extract_eq_take_drop]; rfl
def j5 (h:x∈a.toList.take k):∃ n,n < k/\n < a.size/\a[n]?=some x:=by
 obtain ⟨n,hn⟩:=getElem?_of_mem h;have Et:=(List.getElem?_eq_some_iff.mp hn).1;rw [length_take,zB3] at Et;rw [getElem?_take_of_lt (Q0 Et (min_le_left _ _)),Q2] at hn;exact ⟨n,Q0 Et (min_le_left _ _),Q0 Et (min_le_right _ _),hn⟩
end
section
variable {M:Model} {A:Around} {s:Shared} {k₀:SortKind} {a₀:Array Keyed} {p:Array (Nat×Nat×Nat)} {st st':SortSt} {E:Value->Shared->Prop} {κ:KKd}
abbrev JH (κ:KKd) (a b o:Array Keyed) (i j:Nat):Prop:=JHi κ (FF a b) o.reverse.toList (a.toList.take i) (b.toList.take j)
section
variable {a b o:Array Keyed} {i j k:Nat} {x y:Keyed}
theorem JH.pushA (J:JH κ a b o i j) (h:1<=i) (e:a[i - 1]?=some x) (hy:∀ y∈b.toList.take j,kl κ y x):JH κ a b (o.push x) (i - 1) j:=by
 have J:JHi κ (FF a b) o.reverse.toList (a.toList.take (i - 1)++[x]) (b.toList.take j):=by have:=J; rwa [JH,gS h e] at this
 have z:=J.moveA fun z hz=>by obtain rfl:=zA6 hz; exact hy
 refine (?_:JHi κ (FF a b) (o.push x).reverse.toList _ _);rw [toList_reverse] at z ⊢;rw [toList_push,reverse_append];exact z
theorem JH.pushB (J:JH κ a b o i j) (h:1<=j) (e:b[j - 1]?=some x) (hy:∀ y∈a.toList.take i,kl κ y x):JH κ a b (o.push x) i (j - 1):=by
 have J:JHi κ (FF a b) o.reverse.toList (a.toList.take i) (b.toList.take (j - 1)++[x]):=by have:=J; rwa [JH,gS h e] at this
 have z:=J.moveB fun z hz=>by obtain rfl:=zA6 hz; exact hy
 refine (?_:JHi κ (FF a b) (o.push x).reverse.toList _ _);rw [toList_reverse] at z ⊢;rw [toList_push,reverse_append];exact z
theorem JH.moreA (J:JH κ a b o i j) (h:k<=i) (hX:∀ x∈(a.extract k i).toList,∀ y∈b.toList.take j,kl κ y x):JH κ a b (o++(a.extract k i).reverse) k j:=by
 have J:JHi κ (FF a b) o.reverse.toList (a.toList.take k++(a.extract k i).toList) (b.toList.take j):=by have:=J; rwa [JH,oJ h] at this
 have z:=J.moveA hX;refine (?_:JHi κ (FF a b) (o++(a.extract k i).reverse).reverse.toList _ _);rw [toList_reverse] at z ⊢;rw [toList_append,reverse_append,toList_reverse,List.reverse_reverse];exact z
theorem JH.moreB (J:JH κ a b o i j) (h:k<=j) (hX:∀ x∈(b.extract k j).toList,∀ y∈a.toList.take i,kl κ y x):JH κ a b (o++(b.extract k j).reverse) i k:=by
 have J:JHi κ (FF a b) o.reverse.toList (a.toList.take i) (b.toList.take k++(b.extract k j).toList):=by have:=J; rwa [JH,oJ h] at this
 have z:=J.moveB hX;refine (?_:JHi κ (FF a b) (o++(b.extract k j).reverse).reverse.toList _ _);rw [toList_reverse] at z ⊢;rw [toList_append,reverse_append,toList_reverse,List.reverse_reverse];exact z
theorem JH.doneA (J:JH κ a b o i j) (h:i=0):Ord κ (FF a b) (a.extract 0 i++b.extract 0 j++o.reverse).toList:=by
 subst h;have z:=JHi.endB J;rw [toList_append,toList_append,ext_pre,ext_pre]; exact z
theorem JH.doneB (J:JH κ a b o i j) (h:j=0):Ord κ (FF a b) (a.extract 0 i++b.extract 0 j++o.reverse).toList:=by
 subst h;have z:=JHi.endA J;rw [toList_append,toList_append,ext_pre,ext_pre,List.take_zero,append_nil]; exact z
theorem JH.first (J:JH κ a b o i j) (h:j=1) (h2:1<=b.size) (hf:∀ x,b[0]?=some x->∀ y∈a.toList,kl κ x y):Ord κ (FF a b) (b.extract 0 j++a.extract 0 i++o.reverse).toList:=by
 subst h;obtain ⟨z,ez⟩:∃ z,b[0]?=some z:=⟨_,Array.getElem?_eq_getElem h2⟩;have e:b.toList.take 1=[z]:=by rw [gS (i:=1) (by decide) ez]; rfl
 have J:JHi κ (FF a b) o.reverse.toList (a.toList.take i) [z]:=by have:=J; rwa [JH,e] at this
 have q:=J.endF fun x hx=>hf z ez x (mem_of_mem_take hx);rw [toList_append,toList_append,ext_pre,ext_pre,e]; exact q
def jt {k:κ.α} (sb:b.toList.Pairwise (kl κ)) (h1:1<=j) (e:b[j - 1]?=some x) (h:κ.kle (keyK κ x) k):∀ y∈b.toList.take j,κ.kle (keyK κ y) k:=fun y hy=>by
 obtain ⟨n,q1,q2,q3⟩:=j5 hy;have z:=qC sb (show n<=j - 1 by exact le_sub_one_of_lt q1) (Array.getElem?_eq_some_iff.mp e).1;rw [kk_at e,kk_at q3] at z;exact kle_trans z h
def Cr {v:Keyed} (g:GI (fun m=>bey false (keyK κ v) (KK κ a (0+m))) n k k):(∀ x∈a.toList.take k,kl κ x v)/\∀ y∈(a.extract k n).toList,kl κ v y:=by
 refine ⟨fun x hx=>?_,fun y hy=>?_⟩
 ·obtain ⟨m,hm,_,e⟩:=j5 hx;have z:=ux (g.yes m hm);rw [zero_add,kk_at e] at z;exact z
 ·obtain ⟨m,hm,e⟩:=fg hy;have z:=BX (g.no (k+m) (Q3 _ _) (add_lt_of_lt_sub' hm));rw [zero_add,kk_at e] at z;exact kle_of_klt z
def Cq {v:Keyed} (g:GI (fun m=>bey true (keyK κ v) (KK κ a (0+m))) n k k):(∀ x∈a.toList.take k,kl κ x v)/\∀ y∈(a.extract k n).toList,kl κ v y:=by
 refine ⟨fun x hx=>?_,fun y hy=>?_⟩
 ·obtain ⟨m,hm,_,e⟩:=j5 hx;have z:=w8 (g.yes m hm);rw [zero_add,kk_at e] at z;exact kle_of_klt z
 ·obtain ⟨m,hm,e⟩:=fg hy;have z:=BL (g.no (k+m) (Q3 _ _) (add_lt_of_lt_sub' hm));rw [zero_add,kk_at e] at z;exact z
def fR (e:¬ (i==0)=true):1<=i:=Nat.pos_of_ne_zero (gV e)
def nq (h:1<=i) (e:¬ (i==1)=true):2<=i:=lt_of_le_of_ne h (gV e).symm
end
structure HiS (κ:KKd) (a b:Array Keyed) (n i m:Nat) (o:Array Keyed):Prop where
 j:JH κ a b o i m
 hi:1<=i
 hj:2<=m
 ia:i<=a.size
 jb:m<=b.size
 sz:n<=o.size
def HiJ {γ:Type} (κ:KKd) (a b:Array Keyed) (n:Nat) (d:Nat×Nat×Array Keyed×γ):Prop:=HiS κ a b n d.1 d.2.1 d.2.2.1
theorem HiS.le {m n:Nat} (h:m<=n) (J:HiS κ a b n i q o):HiS κ a b m i q o:=⟨J.j,J.hi,J.hj,J.ia,J.jb,zB1 h J.sz⟩
theorem HiS.lt (J:HiS κ a b (a.size+b.size+1) i q o):False:=by
 have h:=J.j.perm.length_eq;simp only [zB5,zB3,length_take,Array.size_reverse] at h;have:=J.sz;have:=J.ia;have:=J.jb;exact absurd J.sz (not_le.mpr (lt_succ_of_le (zB1 (le_add_left _ _) (zB2 h))))
def oh {a b:Array Keyed} {Q:Array Keyed->SortSt->Prop} (L:LtIs M A s k₀ κ a₀) (hk:kindOf st=k₀) (ha:∀ x∈a.toList,x∈a₀.toList) (hb:∀ x∈b.toList,x∈a₀.toList) (h1:1<=a.size) (h2:1<=b.size)
  (sa:a.toList.Pairwise (kl κ)) (sb:b.toList.Pairwise (kl κ)) (hf:∀ x,b[0]?=some x->∀ y∈a.toList,kl κ x y) (hl:∀ x∈b.toList,∀ z,a[a.size - 1]?=some z->kl κ x z)
  (h:∀ out st',Same st st'->Ord κ (FF a b) out.toList->Q out st'):wpS M A E s (vz a b) Q st:=by
 refine iA ?_;refine (a8 (a:=a) (i:=a.size - 1) (sub_one_lt_of_lt h1) fun x hx ex=>?_);have J0:JH κ a b #[x] (a.size - 1) b.size:=JH.pushA (o:=#[]) (i:=a.size) (by
  refine (?_:JHi κ (FF a b) [] _ _);rw [<- zB3,take_length,<- zB3,take_length];exact ⟨by rw [append_nil],.nil,fun U U U h=>nM h,fun U U U h=>nM h,sa,sb⟩) h1 ex fun y hy=>hl y (mem_of_mem_take hy) x ex
 refine aw (fun e=>wpS_pure (h _ _ (.refl _) (J0.doneA (by simpa using e)))) fun e1=>?_;refine aw (fun e=>wpS_pure (h _ _ (.refl _) (J0.first (by simpa using e) h2 hf))) fun e2=>?_;refine (dy ?_)
 let RR:Array Keyed->Prop:=fun r=>Ord κ (FF a b) r.toList
 refine cz (R:=RR) (HiJ κ a b) (fun x=>x+1) (.refl _) ⟨J0,fR e1,nq h2 e2,sub_le _ _,le_refl _,le_refl _⟩ (fun U j=>j) ?_ (fun r d st' S p=>wpS_pure (h _ _ S p)) fun d st' S J=>J.lt.elim;intro x d EK S1 J1;refine cz (R:=RR) (st:=st) (HiJ κ a b) (n':=x+1+1) (fun y=>x+1+y) S1 J1 (fun U j=>j.le (Q6 (le_add_right_of_le h1) _)) ?_ (fun r d st' S p=>wpS_pure (.dn S p)) ?_
 ·intro y d EK S1 J1;obtain ⟨J1,hi,hj,ia,jb,n1⟩:=J1;have HD:d.2.1 - 1 < b.size:=Q0 (sub_one_lt_of_lt hj) jb;have FX:d.1 - 1 < a.size:=Q0 (sub_one_lt_of_lt hi) ia;refine (a8 (a:=b) HD fun v hv ev=>(a8 (a:=a) FX fun u hu eu=>?_));refine (rJ L (S1.kind.trans hk) (hb v hv) (ha u hu) (fun q=>?_) fun q=>?_)
  ·refine (a8 (a:=a) FX fun u' H1 Im=>?_);obtain rfl:=Option.some.inj (eu.symm.trans Im);have J2:=J1.pushA hi eu (jt sb (le_of_succ_le hj) ev (kle_of_klt q));refine aw (fun e=>wpS_pure (.dn S1 (J2.doneA (by simpa using e)))) fun e3=>?_;have E6:=fR e3;have Jm:=zB1 (sub_le _ 1) ia;exact aw (fun U=>wpS_pure (.st S1 ⟨J2,E6,hj,Jm,jb,cG (le_of_add_right_le n1)⟩)) fun U=>wpS_pure (.go S1 ⟨J2,E6,hj,Jm,jb,cG n1⟩)
  ·refine (a8 (a:=b) HD fun v' Jt Il=>?_);obtain rfl:=Option.some.inj (ev.symm.trans Il);have J2:=J1.pushB (le_of_succ_le hj) ev (jt sa hi eu q);refine aw (fun e=>wpS_pure (.dn S1 (J2.first (by simpa using e) h2 hf))) fun e3=>?_;have JU:=nq (le_sub_one_of_lt hj) e3;have HY:=zB1 (sub_le _ 1) jb;exact aw (fun U=>wpS_pure (.st S1 ⟨J2,hi,JU,ia,HY,cG (le_of_add_right_le n1)⟩)) fun U=>wpS_pure (.go S1 ⟨J2,hi,JU,ia,HY,cG n1⟩)
 intro d EK S1 J1;refine iA ?_;refine cz (R:=RR) (st:=st) (HiJ κ a b) (n':=x+1+1) (fun y=>x+1+1) S1 J1 (fun U j=>j) ?_ (fun r d st' S p=>wpS_pure (.dn S p)) fun d st' S J=>(fX S fun EL S2=>wpS_pure (.go S2 J));intro y d EK S1 J1;extract_lets z1 i' z2 j' z3 o' z4 g' z5 c1' c2' j1 jp mg;have FU:∀ g,wpS M A E s (jp () g) (Sq st RR (HiJ κ a b) (x+1+1) (x+1+1)) EK:=by
  intro g;have HD:d.2.1 - 1 < b.size:=Q0 (sub_one_lt_of_lt J1.hj) J1.jb;have hj1:1<=d.2.1:=le_of_succ_le J1.hj;refine (fX S1 fun EL S2=>(a8 (a:=b) HD fun v hv ev=>(dx L (S2.kind.trans hk) (hb v hv) ha (zB1 (zB2 (zero_add _)) J1.ia) (sub_one_lt_of_lt J1.hi) (wJ sa _ (zB1 (zB2 (zero_add _)) J1.ia)) fun k gk=>?_)));obtain ⟨k1,k2⟩:=Cr gk;have E5:k<=d.1:=gk.hn;have LR:=jt sb hj1 ev (kle_refl (keyK κ v));dsimp (zeta:=false) only;extract_lets kk ac jp2 o2 i2;have GD:∀ i o,JH κ a b o i d.2.1->1<=i->i<=a.size->x+1+1<=o.size->(∀ y∈a.toList.take i,kl κ y v)->wpS M A E s (jp2 () i o) (Sq st RR (HiJ κ a b) (x+1+1) (x+1+1)) EL:=by
   intro i o Jx hi ia n2 Ls;have FX:i - 1 < a.size:=Q0 (sub_one_lt_of_lt hi) ia;refine (a8 (a:=b) HD fun v' Jt Il=>?_);obtain rfl:=Option.some.inj (ev.symm.trans Il);have J2:=Jx.pushB hj1 ev Ls;refine aw (fun e=>wpS_pure (.dn S2 (J2.first (eq_of_beq e) h2 hf))) fun e3=>?_;have e3:2<=d.2.1 - 1:=nq (le_sub_one_of_lt J1.hj) e3;have HY:d.2.1 - 1<=b.size:=zB1 (sub_le _ 1) J1.jb;refine (a8 (a:=a) FX fun u hu eu=>(dx L (S2.kind.trans hk) (ha u hu) hb (zB1 (zB2 (zero_add _)) HY) (sub_one_lt_of_lt e3) (wI sb _ (zB1 (zB2 (zero_add _)) HY)) fun m gm=>?_));obtain ⟨m1,m2⟩:=Cq gm;have hm:m<=d.2.1 - 1:=gm.hn;have LU:=jt sa hi eu (kle_refl (keyK κ u));dsimp (zeta:=false) only;extract_lets kk2 bc i3 jp3 o3 j3;have GC:∀ j o,JH κ a b o i j->2<=j->j<=b.size->x+1+1<=o.size->(∀ y∈b.toList.take j,kl κ y u)->wpS M A E s (jp3 () j o) (Sq st RR (HiJ κ a b) (x+1+1) (x+1+1)) EL:=by
    intro j o Jy hj jb n3 Hr;refine (a8 (a:=a) FX fun u' H1 Im=>?_);obtain rfl:=Option.some.inj (eu.symm.trans Im);have J3:=Jy.pushA hi eu Hr;refine aw (fun e=>wpS_pure (.dn S2 (J3.doneA (by simpa using e)))) fun e4=>?_;have E6:=fR e4;have Jm:=zB1 (sub_le _ 1) ia;exact aw (fun U=>wpS_pure (.st S2 ⟨J3,E6,hj,Jm,jb,ck n3⟩)) fun U=>wpS_pure (.go S2 ⟨J3,E6,hj,Jm,jb,ck n3⟩)
   refine aw (fun U=>?_) fun q=>GC _ _ J2 e3 HY (ck n2) fun y hy=>m1 y (by have q:m=d.2.1 - 1:=le_antisymm hm (Nat.le_of_sub_eq_zero (Nat.eq_zero_of_not_pos q)); rw [q]; exact hy);have J4:=J2.moreB hm fun x hx y hy=>kle_trans (LU y hy) (m2 x hx);exact aw (fun e=>wpS_pure (.dn S2 (J4.first (by simpa using e) h2 hf))) fun e4=>aw (fun e=>wpS_pure (.dn S2 (J4.doneB (by simpa using e)))) fun e5=>GC _ _ J4 (nq (fR e5) e4) (zB1 hm HY) (jr (ck n2)) m1
  refine aw (fun U=>?_) fun q=>GD _ _ J1.j J1.hi J1.ia J1.sz fun y hy=>k1 y (by have q:k=d.1:=le_antisymm E5 (Nat.le_of_sub_eq_zero (Nat.eq_zero_of_not_pos q)); rw [q]; exact hy);have J5:=J1.j.moreA E5 fun x hx y hy=>kle_trans (LR y hy) (k2 x hx);exact aw (fun e=>wpS_pure (.dn S2 (J5.doneA (by simpa using e)))) fun e4=>GD _ _ J5 (fR e4) (zB1 E5 J1.ia) (jr J1.sz) k1
 exact aw (fun U=>FU _) fun U=>FU _
end
noncomputable def vA:Nat->StateT SortSt Sem Bool:=sortPriv% PySem.Builtin.mergeAt
noncomputable def lQ:List (Nat×Nat×Nat)->Nat->Nat->Prop
 | [],a,b=>a=b
 | x :: r,a,b=>x.1=a/\1<=x.2.1/\lQ r (a+x.2.1) b
theorem i4:∀ {l:List (Nat×Nat×Nat)} {a b:Nat},lQ l a b->a+l.length<=b
 | [],_,_,h=>zB2 h
 | _ :: l,a,_,h=>zB1 (zB2 (add_right_comm a l.length 1)) (zB1 (add_le_add_right (Q6 h.2.1 a) _) (i4 h.2.2))
theorem k8 {n w:Nat} (hn:1<=n):∀ {l:List (Nat×Nat×Nat)} {a b:Nat},lQ l a b->lQ (l++[(b,n,w)]) a (b+n)
 | [],_,_,h=>⟨h.symm,hn,congrArg (· + n) h⟩
 | _ :: _,_,_,h=>⟨h.1,h.2.1,k8 hn h.2.2⟩
theorem i5:∀ {l:List (Nat×Nat×Nat)} {a b:Nat},lQ l a b->∀ x∈l,a<=x.1/\x.1+x.2.1<=b
 | [],_,_,_,_,m=>nM m
 | y :: l,a,b,h,x,m=>by
  rcases mem_cons.mp m with rfl | m
  ·exact ⟨zB2 h.1.symm,by rw [h.1]; exact zB1 (Q3 _ _) (i4 h.2.2)⟩
  ·have z:=i5 h.2.2 x m;exact ⟨zB1 (Q3 _ _) z.1,z.2⟩
theorem r6:∀ {l:List (Nat×Nat×Nat)} {i a b:Nat} {x y:Nat×Nat×Nat},lQ l a b->l[i]?=some x->l[i+1]?=some y->(y.1=x.1+x.2.1/\1<=x.2.1/\1<=y.2.1/\y.1+y.2.1<=b)/\∀ w,lQ ((l.set i (x.1,x.2.1+y.2.1,w)).eraseIdx (i+1)) a b/\∀ u∈(l.set i (x.1,x.2.1+y.2.1,w)).eraseIdx (i+1),u=(x.1,x.2.1+y.2.1,w)\/(u∈l/\(u.1+u.2.1<=x.1\/y.1+y.2.1<=u.1))
 | [],_,_,_,_,_,_,e,_=>nN e.symm
 | z :: l,0,a,b,x,y,h,e1,e2=>by
  obtain rfl:=Option.some.inj e1;cases l with
  | nil=>exact nN e2.symm
  | cons u l=>
   obtain rfl:=Option.some.inj (e2:some u=some y);obtain ⟨h1,h2,h3,h4,h5⟩:=h;refine ⟨⟨by rw [h3,h1],h2,h4,by rw [h3]; exact zB1 (Q3 _ _) (i4 h5)⟩,fun w=>⟨⟨h1,le_add_right_of_le h2,by rw [<- add_assoc]; exact h5⟩,fun v hv=>?_⟩⟩;rcases mem_cons.mp (hv:v∈(z.1,z.2.1+u.2.1,w) :: l) with rfl | hv
   ·exact .inl rfl
   ·exact .inr ⟨.tail _ (.tail _ hv),.inr (by rw [h3]; exact (i5 h5 v hv).1)⟩
 | z :: l,i+1,a,b,x,y,h,e1,e2=>by
  have e1:l[i]?=some x:=e1;have q:=r6 (l:=l) (i:=i) h.2.2 e1 e2;refine ⟨q.1,fun w=>⟨⟨h.1,h.2.1,(q.2 w).1⟩,fun v hv=>?_⟩⟩;rcases mem_cons.mp (hv:v∈z :: (l.set i (x.1,x.2.1+y.2.1,w)).eraseIdx (i+1)) with rfl | hv
  ·exact .inr ⟨.head _,.inl (by rw [h.1]; exact (i5 h.2.2 x (mem_of_getElem? e1)).1)⟩
  ·exact ((q.2 w).2 v hv).imp id fun z=>⟨.tail _ z.1,z.2⟩
theorem oN {f:Nat×Nat×Nat->Nat×Nat×Nat} (hf:∀ x,(f x).1=x.1/\(f x).2.1=x.2.1):∀ {l:List (Nat×Nat×Nat)} {i a b:Nat},lQ l a b->lQ (l.modify i f) a b/\∀ u∈l.modify i f,∃ v∈l,u.1=v.1/\u.2.1=v.2.1
 | [],i,_,_,h=>by cases i <;> exact ⟨h,fun U m=>nM m⟩
 | x :: l,0,_,_,h=>⟨⟨(hf x).1.trans h.1,(hf x).2.symm▸h.2.1,(hf x).2.symm▸h.2.2⟩,fun u m=>(mem_cons.mp (m:u∈f x :: l)).elim (fun e=>⟨x,.head _,by rw [e]; exact hf x⟩) fun m=>⟨u,.tail _ m,rfl,rfl⟩⟩
 | x :: l,i+1,_,_,h=>have q:=oN hf (l:=l) (i:=i) h.2.2; ⟨⟨h.1,h.2.1,q.1⟩,fun u m=>(mem_cons.mp (m:u∈x :: l.modify i f)).elim (fun e=>⟨x,.head _,by rw [e]; exact ⟨rfl,rfl⟩⟩) fun m=>(q.2 u m).elim fun v z=>⟨v,.tail _ z.1,z.2⟩⟩
section
variable {κ:KKd} {f g:Nat->κ.α} {a b c:Nat}
def gK (h:Srt g a b) (e:∀ i,a<=i->i < b->f i=g i):Srt f a b:=fun i j hi EE hj=>by rw [e i hi (Q1 EE hj),e j (zB1 hi EE) hj]; exact h i j hi EE hj
def gc (h:Srt f a b) (h':Srt f b c) (q:∀ i,a<=i->i < b->∀ j,b<=j->j < c->κ.kle (f i) (f j)):Srt f a c:=fun i j hi EE hj=>by
 rcases lt_or_ge j b with z | z
 ·exact h i j hi EE z
 rcases lt_or_ge i b with z' | z'
 ·exact q i hi z' j z hj
 ·exact h' i j z' EE hj
def iY (h:Srt f a c) (ha:a<=a') (hc:c'<=c):Srt f a' c':=fun i j hi EE hj=>h i j (zB1 ha hi) EE (Q0 hj hc)
def nS {xs:Array Keyed} {a b i:Nat} {x:Keyed} (h:(xs.extract a b)[i]?=some x):xs[a+i]?=some x:=by
 rw [Array.getElem?_extract] at h;split at h
 ·exact h
 ·cases h
def zm {xs:Array Keyed} (hb:b<=xs.size) (h:Srt (KK κ xs) a b):(xs.extract a b).toList.Pairwise (kl κ):=by
 refine pairwise_iff_getElem.mpr fun i j hi hj EE=>?_;have q:=hj;rw [zB3,size_extract,min_eq_left hb] at q;have z:=h (a+i) (a+j) (Q3 _ _) (Q6 (le_of_lt EE) a) (add_lt_of_lt_sub' q);rw [kk_at (nS (Q2▸Q9 hi)),kk_at (nS (Q2▸Q9 hj))] at z;exact z
def yd {xs:Array Keyed} (h:Srt (KK κ xs) a (a+n)) (k:κ.α):Mon (fun m=>bey false k (KK κ xs (a+m))) n:=fun x y HZ hy q=>by
 have z:=kle_trans (h _ _ (Q3 _ _) (Q6 HZ a) (add_lt_add_left hy a)) (ux q);refine (?_:(!κ.blt k (KK κ xs (a+x)))=true);unfold KeyOrd.kle at z; rw [z]; rfl
def yc {xs:Array Keyed} (h:Srt (KK κ xs) a (a+n)) (k:κ.α):Mon (fun m=>bey true k (KK κ xs (a+m))) n:=fun x y HZ hy q=>
 KeyOrd.klt_of_kle_of_klt (h _ _ (Q3 _ _) (Q6 HZ a) (add_lt_add_left hy a)) q
end
theorem tj (sa:Nat):∀ (m:List Keyed) (k:Nat) (a:Array Keyed),sa+k+m.length<=a.size->((m.zipIdx k).foldl (fun a (p,j)=>a.setIfInBounds (sa+j) p) a).toList=a.toList.take (sa+k)++m++a.toList.drop (sa+k+m.length)
 | [],k,a,_=>by simp
 | x :: m,k,a,h=>by
  rw [zB4] at h;rw [zipIdx_cons,foldl_cons];refine (?_:(foldl _ (a.setIfInBounds (sa+k) x) _).toList=_);rw [tj sa m (k+1) _ (by rw [Array.size_setIfInBounds]; exact zB1 (zB2 (add_right_comm (sa+k) 1 m.length)) h),Array.toList_setIfInBounds,zB4,<- add_assoc,take_add_one,List.take_set_of_le (le_refl _),List.getElem?_set_self (by rw [zB3]; exact Q0 (Nat.lt_add_of_pos_right (succ_pos _)) h),List.drop_set_of_lt (Q0 (lt_succ_self (sa+k)) (Q3 _ _)),append_assoc,append_assoc,append_assoc,show sa+k+1+m.length=sa+k+(m.length+1) from add_right_comm (sa+k) 1 m.length];rfl
def uh {a:Array Keyed} {i j k:Nat} {m:Array Keyed} (h1:i<=j) (h2:j<=k) (h3:k<=a.size) (h:m.toList.Perm ((a.extract i j).toList++(a.extract j k).toList)):i+m.size=k/\(m.toList.zipIdx.foldl (fun a (p,j)=>a.setIfInBounds (i+j) p) a).toList=a.toList.take i++m.toList++a.toList.drop k/\(m.toList.zipIdx.foldl (fun a (p,j)=>a.setIfInBounds (i+j) p) a).Perm a:=by
 have e:(a.extract i j).toList++(a.extract j k).toList=(a.toList.drop i).take (k - i):=by
  rw [toList_extract,toList_extract,show k - i=(j - i)+(k - j) from ((add_comm _ _).trans (Nat.sub_add_sub_cancel h2 h1)).symm,take_add,drop_drop,Q5 h1]
 rw [e] at h;have l:=h.length_eq;rw [length_take,length_drop,length_toList (xs:=a),min_eq_left (Nat.sub_le_sub_right h3 i)] at l;have z:=tj i m.toList 0 a (by rw [add_zero,l,Q5 (zB1 h1 h2)]; exact h3);rw [add_zero,l,Q5 (zB1 h1 h2)] at z;refine ⟨by rw [<- zB3,l,Q5 (zB1 h1 h2)],z,?_⟩;rw [perm_iff_toList_perm,z];refine ((h.append_left _).append_right _).trans (.of_eq ?_);rw [append_assoc,show a.toList.drop k=(a.toList.drop i).drop (k - i) by rw [drop_drop,Q5 (zB1 h1 h2)],take_append_drop,take_append_drop]
def cV {a:Array Keyed} {i j:Nat} (h:x∈(a.extract i j).toList):x∈a.toList:=by
 rw [toList_extract] at h;exact List.mem_of_mem_drop (mem_of_mem_take h)
def yW {κ:KKd} {a m zs:Array Keyed} {i k:Nat} (h3:k<=a.size) (hm:i+m.size=k) (e:zs.toList=a.toList.take i++m.toList++a.toList.drop k):(∀ q,q < i\/k<=q->KK κ zs q=KK κ a q)/\∀ q,i<=q->q < k->∃ x∈m.toList,KK κ zs q=keyK κ x:=by
 have li:(a.toList.take i).length=i:=by rw [length_take,zB3]; exact min_eq_left (zB1 (zB1 (Q3 _ _) (zB2 hm)) h3)
 refine ⟨fun q hq=>KK_congr ?_,fun q h1 h2=>?_⟩
 ·rw [<- Q2,<- Q2,e];rcases hq with hq | hq
  ·rw [append_assoc,getElem?_append_left (by rw [li]; exact hq),getElem?_take_of_lt hq]
  ·rw [getElem?_append_right (by rw [zB5,li,zB3,hm]; exact hq),zB5,li,zB3,hm,getElem?_drop,Q5 hq]
 ·have Et:q - i < m.size:=sub_lt_left_of_lt_add h1 (hm.symm▸h2);refine ⟨m[q - i],by simp,kk_at ?_⟩;rw [<- Q2,e,getElem?_append_left (by rw [zB5,li,zB3,hm]; exact h2),getElem?_append_right (by rw [li]; exact h1),li,Q2,Array.getElem?_eq_getElem Et]
def v7 {κ:KKd} {a m zs:Array Keyed} {i k:Nat} (h3:k<=a.size) (hm:i+m.size=k) (e:zs.toList=a.toList.take i++m.toList++a.toList.drop k) (h:m.toList.Pairwise (kl κ)):Srt (KK κ zs) i k:=fun p q hp JD hq=>by
 have li:(a.toList.take i).length=i:=by rw [length_take,zB3]; exact min_eq_left (zB1 hp (zB1 JD (zB1 (le_of_lt hq) h3)))
 have Ip:∀ q,i<=q->q < k->KK κ zs q=KK κ m (q - i):=fun q h1 h2=>KK_congr (by
  rw [<- Q2,e,getElem?_append_left (by rw [zB5,li,zB3,hm]; exact h2),getElem?_append_right (by rw [li]; exact h1),li,Q2])
 rw [Ip p hp (Q1 JD hq),Ip q (zB1 hp JD) hq];exact qC h (Nat.sub_le_sub_right JD i) (sub_lt_left_of_lt_add (zB1 hp JD) (hm.symm▸hq))
def Rns {κ:KKd} (f:Nat->κ.α) (l:List (Nat×Nat×Nat)):Prop:=∀ x∈l,Srt f x.1 (x.1+x.2.1)
section
variable {M:Model} {A:Around} {s:Shared} {k₀:SortKind} {a₀:Array Keyed} {p:Array (Nat×Nat×Nat)} {st st':SortSt} {E:Value->Shared->Prop} {κ:KKd}
def xv {σ:Type} {x y:σ} {Q:PUnit->σ->Prop} (h:Q ⟨⟩ x):wpS M A E s (set x:StateT σ Sem PUnit) Q y:=by
 unfold wpS; rw [StateT.run_set]; exact zC2 ⟨rfl,h⟩
def uJ {β:Type} {f:PUnit->StateT SortSt Sem β} {Q:β->SortSt->Prop} {x:SortSt} (h:wpS M A E s (f ⟨⟩) Q x):wpS M A E s (set x >>= f) Q st:=wpS_bind (xv h)
theorem SI.out (I:SI k₀ a₀ p st):∃ xs g,st=SortSt.mk' k₀ xs p g none/\xs.Perm a₀:=by
 obtain ⟨hp,hk,hf,hd⟩:=I;cases st
 subst hk; subst hf; subst hd;exact ⟨_,_,rfl,hp⟩
def AB {f g:Nat->κ.α} {l l':List (Nat×Nat×Nat)} {lo hi:Nat} {m:Nat×Nat×Nat} (R:Rns g l) (hl:∀ u∈l',u=m\/(u∈l/\(u.1+u.2.1<=lo\/hi<=u.1))) (hm:Srt f m.1 (m.1+m.2.1)) (e:∀ q,q < lo\/hi<=q->f q=g q):Rns f l':=fun u hu=>by
 rcases hl u hu with rfl | ⟨h,q⟩
 ·exact hm
 ·exact gK (R u h) fun i h1 h2=>e i (q.imp (fun q=>Q0 h2 q) fun q=>zB1 q h1)
noncomputable def wb (st:SortSt) (i:Nat) (out:Array Keyed):SortSt:=setArr st (out.toList.zipIdx.foldl (fun a (p,j)=>a.setIfInBounds (i+j) p) (arrOf st))
def hV {i lo:Nat} {Q:Bool->SortSt->Prop} (L:LtIs M A s k₀ κ a₀) (I:SI k₀ a₀ p st) (S:lQ p.toList 0 lo) (R:Rns (KK κ (arrOf st)) p.toList) (Fj:lo<=a₀.size) (hi:i+1 < p.size)
  (h:∀ p' st',SI k₀ a₀ p' st'->lQ p'.toList 0 lo->Rns (KK κ (arrOf st')) p'.toList->p'.size+1=p.size->(∀ q,lo<=q->KK κ (arrOf st') q=KK κ (arrOf st) q)->Q true st'):wpS M A E s (vA i) Q st:=by
 obtain ⟨xs,g,rfl,hp⟩:=I.out;have R:Rns (KK κ xs) p.toList:=R;have mem:∀ x∈xs.toList,x∈a₀.toList:=fun x hx=>(perm_iff_toList_perm.mp hp).mem_iff.mp hx;obtain ⟨⟨sa,n0,p0⟩,e1⟩:∃ x,p[i]?=some x:=⟨_,Array.getElem?_eq_getElem (lt_of_succ_lt hi)⟩;obtain ⟨⟨sb,n1,p1⟩,e2⟩:∃ x,p[i+1]?=some x:=⟨_,Array.getElem?_eq_getElem hi⟩;have Ra:Srt (KK κ xs) sa (sa+n0):=R _ (mem_of_getElem? (Q2▸e1));have Rb:Srt (KK κ xs) sb (sb+n1):=R _ (mem_of_getElem? (Q2▸e2));obtain ⟨⟨F5,h0,h1,hb⟩,S'⟩:=r6 S (Q2▸e1) (Q2▸e2);have F5:sb=sa+n0:=F5;have hbl:sb+n1<=lo:=hb;have hb:sb+n1<=xs.size:=zB1 hb (hp.size_eq▸Fj);subst F5;obtain ⟨SP,RP⟩:=S' p0;refine (dy ?_);dsimp (zeta:=false) only [SortSt.mk'];rw [e1,e2];refine (uJ ?_);generalize hP:Array.eraseIdxIfInBounds _ _=P;have eP:P.toList=(p.toList.set i (sa,n0+n1,p0)).eraseIdx (i+1):=by
  rw [<- hP,Array.toList_eraseIdxIfInBounds,Array.toList_setIfInBounds]
 have zP:P.size+1=p.size:=by
  rw [<- zB3,eP,List.length_eraseIdx_of_lt (by rw [length_set,zB3]; exact hi),length_set,zB3]; exact sub_add_cancel (Nat.zero_lt_of_lt hi)
 rw [<- eP] at SP RP;have GO:∀ {st':SortSt},SI k₀ a₀ P st'->Srt (KK κ (arrOf st')) sa (sa+(n0+n1))->(∀ q,q < sa\/sa+n0+n1<=q->KK κ (arrOf st') q=KK κ xs q)->Q true st':=fun I hm hq=>h P _ I SP (AB (g:=KK κ xs) R RP hm hq) zP fun q hl=>hq q (.inr (zB1 hbl hl));have I0:SI k₀ a₀ P (SortSt.mk' k₀ xs P g none):=⟨hp,rfl,rfl,rfl⟩;have F5:sa+n0 < xs.size:=Q0 (Nat.lt_add_of_pos_right h1) hb;refine (a8 (a:=xs) (i:=sa+n0) F5 fun v hv ev=>(dx L rfl (mem v hv) mem (show sa+n0<=xs.size from le_of_lt F5) h0 (yd Ra _) fun k gk=>?_));have hk:k<=n0:=gk.hn
 -- those ahead of k are not above the second run
 have kb:∀ j,sa+n0<=j->j < sa+n0+n1->κ.kle (keyK κ v) (KK κ xs j):=fun j h1 h2=>by
  have:=Rb (sa+n0) j (le_refl _) h1 h2;rwa [kk_at ev] at this
 have ka:∀ q,sa<=q->q < sa+k->κ.kle (KK κ xs q) (keyK κ v):=fun q q1 q2=>by
  have:=ux (gk.yes (q - sa) (sub_lt_left_of_lt_add q1 q2));rwa [Q5 q1] at this
 have kc:∀ q,sa+k<=q->q < sa+n0->κ.kle (keyK κ v) (KK κ xs q):=fun q q1 q2=>by
  have z:=zB1 (Q3 _ _) q1;have:=BX (gk.no (q - sa) (le_sub_of_add_le' q1) (sub_lt_left_of_lt_add z q2));rw [Q5 z] at this;exact kle_of_klt this
 refine aw (fun e=>wpS_pure (GO I0 ?_ fun U U=>rfl)) fun e1=>?_
 ·have ek:k=n0:=le_antisymm hk (Nat.le_of_sub_eq_zero (eq_of_beq e));subst ek;rw [<- add_assoc];exact gc Ra Rb fun q q1 q2 j j1 j2=>kle_trans (ka q q1 q2) (kb j j1 j2)
 have e1:1<=n0 - k:=fR e1;have ek:sa+k+(n0 - k)=sa+n0:=by rw [add_assoc,Q5 hk]
 have hua:sa+k+(n0 - k) - 1 < xs.size:=by rw [ek]; exact Q1 (sub_le _ _) F5
 refine (a8 (a:=xs) (i:=sa+k+(n0 - k) - 1) hua fun u hu eu=>(dx L rfl (mem u hu) mem hb (sub_one_lt_of_lt h1) (yc Rb _) fun m gm=>?_));have hm:m<=n1:=gm.hn;rw [ek] at eu;have ua:∀ q,sa<=q->q < sa+n0->κ.kle (KK κ xs q) (keyK κ u):=fun q q1 q2=>by
  have:=Ra q (sa+n0 - 1) q1 (le_sub_one_of_lt q2) (sub_one_lt_of_lt q2);rwa [kk_at eu] at this
 have ub:∀ j,sa+n0<=j->j < sa+n0+m->κ.kle (KK κ xs j) (keyK κ u):=fun j j1 j2=>by
  have:=w8 (gm.yes (j - (sa+n0)) (sub_lt_left_of_lt_add j1 j2));rw [Q5 j1] at this;exact kle_of_klt this
 have ut:∀ j,sa+n0+m<=j->j < sa+n0+n1->κ.kle (keyK κ u) (KK κ xs j):=fun j j1 j2=>by
  have z:=zB1 (Q3 _ _) j1;have:=BL (gm.no (j - (sa+n0)) (le_sub_of_add_le' j1) (sub_lt_left_of_lt_add z j2));rwa [Q5 z] at this
 refine aw (fun e=>wpS_pure (GO I0 ?_ fun U U=>rfl)) fun e2=>?_
 ·have em:m=0:=eq_of_beq e;subst em;rw [<- add_assoc];exact gc Ra Rb fun q q1 q2 j j1 j2=>kle_trans (ua q q1 q2) (ut j j1 j2)
 have e2:1<=m:=fR e2;have EH:sa+n0+m<=xs.size:=zB1 (Q6 hm _) hb;have sX:(xs.extract (sa+k) (sa+n0)).toList.Pairwise (kl κ):=zm (le_of_lt F5) (iY Ra (Q3 _ _) (le_refl _));have sY:(xs.extract (sa+n0) (sa+n0+m)).toList.Pairwise (kl κ):=zm EH (iY Rb (le_refl _) (Q6 hm _));have inX:∀ x∈(xs.extract (sa+k) (sa+n0)).toList,∃ q,sa+k<=q/\q < sa+n0/\KK κ xs q=keyK κ x:=fun x hx=>by
  obtain ⟨q,hq,e⟩:=fg hx;exact ⟨sa+k+q,Q3 _ _,add_lt_of_lt_sub' hq,kk_at e⟩
 have inY:∀ x∈(xs.extract (sa+n0) (sa+n0+m)).toList,∃ q,sa+n0<=q/\q < sa+n0+m/\KK κ xs q=keyK κ x:=fun x hx=>by
  obtain ⟨q,hq,e⟩:=fg hx;exact ⟨sa+n0+q,Q3 _ _,add_lt_of_lt_sub' hq,kk_at e⟩
 have sx:(xs.extract (sa+k) (sa+n0)).size=n0 - k:=by rw [size_extract,min_eq_left (le_of_lt F5),Nat.add_sub_add_left]
 have KA:1<=(xs.extract (sa+k) (sa+n0)).size:=sx.symm▸e1;have H0:1<=(xs.extract (sa+n0) (sa+n0+m)).size:=by rw [size_extract,min_eq_left EH,add_sub_cancel_left]; exact e2
 have hF:∀ x,(xs.extract (sa+n0) (sa+n0+m))[0]?=some x->∀ y∈(xs.extract (sa+k) (sa+n0)).toList,kl κ x y:=fun x ex y hy=>by
  have ex:=nS ex;obtain rfl:=Option.some.inj (ev.symm.trans ex);obtain ⟨q,q1,q2,e⟩:=inX y hy;have:=kc q q1 q2;rwa [e] at this
 have hL:∀ x∈(xs.extract (sa+n0) (sa+n0+m)).toList,∀ z,(xs.extract (sa+k) (sa+n0))[(xs.extract (sa+k) (sa+n0)).size - 1]?=some z->kl κ x z:=fun x hx z ez=>by
  have ez:=nS ez;rw [sx,<- Nat.add_sub_assoc e1,ek,eu] at ez;obtain rfl:=Option.some.inj ez;obtain ⟨q,q1,q2,e⟩:=inY x hx;have:=ub q q1 q2;rwa [e] at this
 have fin:∀ (out:Array Keyed) (st':SortSt),Same (SortSt.mk' k₀ xs P g none) st'->Ord κ (FF (xs.extract (sa+k) (sa+n0)) (xs.extract (sa+n0) (sa+n0+m))) out.toList->SI k₀ a₀ P (wb st' (sa+k) out)/\Srt (KK κ (arrOf (wb st' (sa+k) out))) sa (sa+(n0+n1))/\∀ q,q < sa\/sa+n0+n1<=q->KK κ (arrOf (wb st' (sa+k) out)) q=KK κ xs q:=fun out st' S O=>by
  obtain ⟨z1,z2,z3⟩:=uh (Q6 hk sa) (Q3 _ _) EH O.perm;have ea:arrOf st'=xs:=S.arr;unfold wb;rw [ea];generalize out.toList.zipIdx.foldl (fun a (p,j)=>a.setIfInBounds (sa+k+j) p) xs=zs at z2 z3;obtain ⟨w1,w2⟩:=yW (κ:=κ) EH z1 z2;have w3:=v7 (κ:=κ) EH z1 z2 O.srt;refine ⟨⟨z3.trans hp,S.kind,S.failed,S.pend⟩,?_,fun q hq=>w1 q (hq.imp (fun h=>Q0 h (Q3 _ _)) fun h=>zB1 (Q6 hm _) h)⟩;refine (?_:Srt (KK κ zs) sa (sa+(n0+n1)));have inO:∀ q,sa+k<=q->q < sa+n0+m->(∀ j,sa<=j->j < sa+k->κ.kle (KK κ xs j) (KK κ zs q))/\∀ j,sa+n0+m<=j->j < sa+n0+n1->κ.kle (KK κ zs q) (KK κ xs j):=fun q q1 q2=>by
   obtain ⟨x,hx,e⟩:=w2 q q1 q2;rw [e];rcases mem_append.mp (O.perm.mem_iff.mp hx) with hx | hx
   ·obtain ⟨r,r1,r2,er⟩:=inX x hx;rw [<- er];exact ⟨fun j j1 j2=>Ra j r j1 (zB1 (le_of_lt j2) r1) r2,fun j j1 j2=>kle_trans (ua r (zB1 (Q3 _ _) r1) r2) (ut j j1 j2)⟩
   ·obtain ⟨r,r1,r2,er⟩:=inY x hx;rw [<- er];exact ⟨fun j j1 j2=>kle_trans (ka j j1 j2) (kb r r1 (Q0 r2 (Q6 gm.hn _))),fun j j1 j2=>Rb r j r1 (zB1 (le_of_lt r2) j1) j2⟩
  rw [<- add_assoc];refine gc (b:=sa+n0+m) (gc (b:=sa+k) (gK (iY Ra (le_refl _) (Q6 hk _)) fun i h1 h2=>w1 i (.inl h2)) w3 fun q q1 q2 j j1 j2=>?_) (gK (iY Rb (Q3 _ _) (le_refl _)) fun i h1 h2=>w1 i (.inr h1)) fun q q1 q2 j j1 j2=>?_
  ·rw [w1 q (.inl q2)]; exact (inO j j1 j2).1 q q1 q2
  ·rw [w1 j (.inr j1)];rcases lt_or_ge q (sa+k) with z | z
   ·rw [w1 q (.inl z)]; exact kle_trans (ka q q1 z) (kb j (zB1 (Q3 _ _) j1) j2)
   ·exact (inO q z q2).2 j j1 j2
 extract_lets X Y jp;have FU:∀ (out:Array Keyed) (st':SortSt),Same (SortSt.mk' k₀ xs P g none) st'->Ord κ (FF (xs.extract (sa+k) (sa+n0)) (xs.extract (sa+n0) (sa+n0+m))) out.toList->wpS M A E s (jp out) Q st':=fun out st' S O=>by
  obtain ⟨I,i2,i3⟩:=fin out st' S O;refine (mh ((dy (wpS_pure ?_))));refine (?_:Q (failedOf (wb st' (sa+k) out)).isNone (wb st' (sa+k) out));rw [I.failed];exact GO I i2 i3
 exact aw (fun U=>wpS_bind (og L rfl (fun x hx=>mem x (cV hx)) (fun x hx=>mem x (cV hx)) KA H0 sX sY hF hL FU)) fun U=>wpS_bind (oh L rfl (fun x hx=>mem x (cV hx)) (fun x hx=>mem x (cV hx)) KA H0 sX sY hF hL FU)
end
section
variable {M:Model} {A:Around} {s:Shared} {k₀:SortKind} {a₀:Array Keyed} {p:Array (Nat×Nat×Nat)} {st st':SortSt} {E:Value->Shared->Prop} {κ:KKd}
structure RS (κ:KKd) (k₀:SortKind) (a₀:Array Keyed) (lo:Nat) (p:Array (Nat×Nat×Nat)) (st:SortSt):Prop where
 i:SI k₀ a₀ p st
 s:lQ p.toList 0 lo
 r:Rns (KK κ (arrOf st)) p.toList
inductive R1 (κ:KKd) (k₀:SortKind) (a₀:Array Keyed) (x:Nat) (c:Option Unit×Nat) (st:SortSt):Prop
 | mk (lo:Nat) (p:Array (Nat×Nat×Nat)) (e:c=(none,lo)) (r:RS κ k₀ a₀ lo p st) (h:lo<=a₀.size) (hx:x<=lo):R1 κ k₀ a₀ x c st
inductive R2 (κ:KKd) (k₀:SortKind) (a₀:Array Keyed) (lo n:Nat) (c:Option Unit×Unit) (st:SortSt):Prop
 | mk (p:Array (Nat×Nat×Nat)) (e:c=(none,())) (r:RS κ k₀ a₀ lo p st) (h:p.size<=n):R2 κ k₀ a₀ lo n c st
structure RT (κ:KKd) (k₀:SortKind) (a₀:Array Keyed) (lo n:Nat) (p:Array (Nat×Nat×Nat)) (st:SortSt):Prop extends RS κ k₀ a₀ lo p st where
 t:Srt (KK κ (arrOf st)) lo (lo+n)
inductive R3 (κ:KKd) (k₀:SortKind) (a₀:Array Keyed) (lo n:Nat) (c:Option Unit×Unit) (st:SortSt):Prop
 | mk (p:Array (Nat×Nat×Nat)) (e:c=(none,())) (r:RT κ k₀ a₀ lo n p st):R3 κ k₀ a₀ lo n c st
noncomputable def P1 (κ:KKd) (k₀:SortKind) (a₀:Array Keyed) (x:Nat):ForInStep (Option Unit×Nat)->SortSt->Prop
 | .done c',st'=>R1 κ k₀ a₀ a₀.size c' st'
 | .yield c',st'=>R1 κ k₀ a₀ (x+1) c' st'
def Dj (h:1 < n):n - 2+1 < n:=Q1 (zB2 (sub_add_cancel (le_sub_one_of_lt h))) (sub_one_lt_of_lt h)
def wpS_sortRuns {Q:Unit->SortSt->Prop} (L:LtIs M A s k₀ κ a₀) (I:SI k₀ a₀ #[] st) (h:∀ st',(arrOf st').Perm a₀->failedOf st'=none->SortedToK κ (arrOf st') a₀.size->Q () st'):wpS M A E s sortRuns' Q st:=by
 refine (dy ?_);extract_lets size mr lo;have hs:size=a₀.size:=I.size
 clear_value mr size
 subst hs;refine wpS_bind (wpS_mono (wpS_forRange (I:=R1 κ k₀ a₀) (Q:=R1 κ k₀ a₀ a₀.size) ?_ (fun c st' ⟨lo,p,e,r,h,hx⟩=>⟨lo,p,e,r,h,zB1 (Nat.le_max_right _ _) hx⟩) ⟨0,#[],rfl,⟨I,rfl,fun U m=>nM m⟩,zero_le _,zero_le _⟩) ?_)
 ·rintro x c st' _ hx ⟨lo,p,rfl,⟨I',S,R⟩,Fj,hxl⟩;refine aw (fun hl=>wpS_pure ⟨lo,p,rfl,⟨I',S,R⟩,Fj,hl⟩) fun hl=>?_;have hl:¬ lo >= a₀.size:=hl;have below:∀ {EK:SortSt},Low lo (KK κ (arrOf EK)) (KK κ (arrOf st'))->Rns (KK κ (arrOf EK)) p.toList:=fun hw u hu=>gK (R u hu) fun i U h2=>hw i (Q0 h2 (i5 S u hu).2);refine wpS_bind (lS L (zB2 (Q5 Fj)) (sub_pos_of_lt (not_le.mp hl)) I' fun m EK I1 hm1 hm2 Lu hw1=>?_);dsimp (zeta:=false) only;extract_lets n jp force n';have FU:∀ n EK,RT κ k₀ a₀ lo n p EK->1<=n->n<=a₀.size - lo->wpS M A E s (jp () n) (P1 κ k₀ a₀ x) EK:=by
   intro n EK ⟨⟨I1,S1,hR⟩,hsn⟩ Hw hn3;obtain ⟨xs,g,rfl,hp⟩:=I1.out;refine (dy ?_);extract_lets l1 jq;have hq:∀ (u:Unit) p' EL,RT κ k₀ a₀ lo n p' EL->wpS M A E s (jq u) (P1 κ k₀ a₀ x) EL:=by
    intro u p' EL ⟨⟨I2,S2,R2⟩,Gw⟩;obtain ⟨xs,g,rfl,hp⟩:=I2.out;refine (mh (wpS_pure ⟨lo+n,p'.push (lo,n,0),rfl,⟨⟨hp,rfl,rfl,rfl⟩,by rw [toList_push]; exact k8 Hw S2,fun u hu=>?_⟩,zB1 (Q6 hn3 lo) (zB2 (Q5 Fj)),add_le_add hxl Hw⟩));rw [toList_push] at hu;rcases mem_append.mp hu with hu | hu
    ·exact R2 u hu
    ·obtain rfl:=zA6 hu; exact Gw
   dsimp (zeta:=false) only [SortSt.mk'];cases hb:p.back? with
   | none=>exact hq () p _ ⟨⟨⟨hp,rfl,rfl,rfl⟩,S,hR⟩,hsn⟩
   | some z=>
    obtain ⟨s1,n1,w1⟩:=z;dsimp (zeta:=false) only;extract_lets pw;refine wpS_bind (wpS_mono (wpS_forRange (I:=fun U=>R3 κ k₀ a₀ lo n) (Q:=R3 κ k₀ a₀ lo n) ?_ (fun U U h=>h) ⟨p,rfl,⟨⟨hp,rfl,rfl,rfl⟩,S,hR⟩,hsn⟩) ?_)
    ·rintro y c EL _ _ ⟨p',rfl,⟨I2,S2,R2⟩,Gw⟩;obtain ⟨xs,g,rfl,hp⟩:=I2.out;refine (dy ?_);dsimp (zeta:=false) only [SortSt.mk'];extract_lets q;by_cases h1:q.size > 1
     ·rw [if_pos h1];cases e:q[q.size - 2]? with
      | none=>exact wpS_pure ⟨p',rfl,⟨⟨hp,rfl,rfl,rfl⟩,S2,R2⟩,Gw⟩
      | some z=>
       obtain ⟨z1,z2,older⟩:=z;refine aw (fun U=>wpS_pure ⟨p',rfl,⟨⟨hp,rfl,rfl,rfl⟩,S2,R2⟩,Gw⟩) fun U=>wpS_bind (hV L (⟨hp,rfl,rfl,rfl⟩:SI k₀ a₀ p' _) S2 R2 Fj (Dj h1) fun p3 Kw I3 S3 R3 U hq=>wpS_pure ⟨p3,rfl,⟨I3,S3,R3⟩,gK Gw fun i h1 U=>hq i h1⟩)
     ·rw [if_neg h1];exact wpS_pure ⟨p',rfl,⟨⟨hp,rfl,rfl,rfl⟩,S2,R2⟩,Gw⟩
    ·rintro c EL ⟨p',rfl,⟨I2,S2,R2⟩,Gw⟩;obtain ⟨xs,g,rfl,hp⟩:=I2.out;refine (mh ?_);have z:=oN (f:=fun x=>(x.1,x.2.1,pw)) (fun U=>⟨rfl,rfl⟩) (i:=p'.size - 1) S2;exact hq () (p'.modify (p'.size - 1) fun x=>(x.1,x.2.1,pw)) _ ⟨⟨⟨hp,rfl,rfl,rfl⟩,by rw [Array.toList_modify]; exact z.1,fun u hu=>by rw [Array.toList_modify] at hu; obtain ⟨v,hv,e1,e2⟩:=z.2 u hu; rw [e1,e2]; exact R2 v hv⟩,Gw⟩
  refine wpS_mono (aw (fun q=>?_) fun q=>FU n EK ⟨⟨I1,S,below hw1⟩,Lu⟩ hm1 hm2) fun r U q=>by cases r <;> exact q
  refine iA ?_;have q:m < mr:=q;refine wpS_bind (iL L (zB1 (Q6 (min_le_left _ _) _) (zB2 (Q5 Fj))) hm1 (le_min.mpr ⟨hm2,le_of_lt q⟩) I1 Lu fun EL I2 Gw hw2=>?_);exact FU _ EL ⟨⟨I2,S,below fun i hi=>(hw2 i hi).trans (hw1 i hi)⟩,Gw⟩ (le_min.mpr ⟨sub_pos_of_lt (not_le.mp hl),Q1 (zero_le _) q⟩) (min_le_left _ _)
 ·rintro c st' ⟨lo,p,rfl,⟨I',S,R⟩,Fj,hxl⟩;obtain rfl:=le_antisymm Fj hxl;have hps:p.size<=a₀.size:=by have:=i4 S; rw [zB3] at this; exact zB1 (le_add_left _ _) this
  refine wpS_bind (wpS_mono (wpS_forRange (I:=fun x c EL=>R2 κ k₀ a₀ a₀.size (a₀.size+1 - x) c EL) (Q:=R2 κ k₀ a₀ a₀.size 1) ?_ (fun c EL r=>by have r:R2 κ k₀ a₀ a₀.size (a₀.size+1 - max 0 a₀.size) c EL:=r; rw [max_eq_right (zero_le _),add_sub_cancel_left] at r; exact r) ⟨p,rfl,⟨I',S,R⟩,zB1 hps (Q3 _ _)⟩) ?_)
  ·rintro y c EL _ _ ⟨p',rfl,⟨I2,S2,R2'⟩,hy⟩;obtain ⟨xs,g,rfl,hp⟩:=I2.out;refine (dy ?_);dsimp (zeta:=false) only [SortSt.mk'];extract_lets q i before i2;refine aw (fun z=>wpS_pure ⟨p',rfl,⟨⟨hp,rfl,rfl,rfl⟩,S2,R2'⟩,z⟩) fun z=>?_;have hi:i2+1 < p'.size:=by
    have:i2<=i:=by unfold i2; split; exact sub_le _ _; exact le_refl _
    exact Q1 (succ_le_succ this) (Dj (not_le.mp z))
   exact wpS_bind (hV L (⟨hp,rfl,rfl,rfl⟩:SI k₀ a₀ p' _) S2 R2' (le_refl _) hi fun p3 Kw I3 S3 R3 hz U=>wpS_pure ⟨p3,rfl,⟨I3,S3,R3⟩,le_pred_of_lt (zB1 (zB2 hz) hy)⟩)
  ·rintro c EL ⟨p',rfl,⟨I2,S2,R2'⟩,hy⟩;refine wpS_pure (h _ I2.perm I2.failed fun i j EE hj=>?_);obtain ⟨l⟩:=p';cases l with
   | nil=>have S2:(0:Nat)=a₀.size:=S2; exact absurd hj (not_lt.mpr (zB1 (zB2 S2.symm) (zero_le _)))
   | cons u l=>
    have hl:l.length+1<=1:=hy;obtain rfl:l=[]:=length_eq_zero_iff.mp (le_zero.mp (Nat.le_of_succ_le_succ hl));have S2:u.1=0/\1<=u.2.1/\0+u.2.1=a₀.size:=S2;have:=R2' u (.head _);rw [S2.1,S2.2.2] at this;exact this i j (zero_le _) EE hj
end
end Mine.Zs
end
noncomputable section
namespace Mine
open PySem PySem.Calls PyProof.Rows PySem.W
def xM:typeLookup (.type "set") "__len__"=pure (some (.builtin "set.__len__")):=by rw [typeLookup_type,builtinLookup_eq_fast]; kernel_rfl
section
variable {prog:Program} {w:World} {A:Around} {E:Value->Shared->Prop} {s:Shared} {S:Addr} {es:Array (Int×Value)} {L:Bool}
def vM (hT:s.TypeIs (.ref S) "set") (h:Q false s):wpAny (model prog w) A (Builtin.List.listLengthHint (.ref S)) Q E s:=by
 unfold Builtin.List.listLengthHint;refine zC1 (wpAny_specialOf hT xM ?_)
 wp_delta
 refine zC1 (wpAny_isInstance hT sub_set_self ?_);refine (?_:wpAny _ A (typeOf (Value.ref S) >>= _) _ _ _);exact zC1 (wpAny_typeOf hT (wpAny_pure h))
def oB (hh:A.handled=none) (hL:L = !w.params.followText "set-order") (T:TS s.heap S es L)
  (h:∀ (out:List Value) h' d tk,out.Perm (es.toList.map (·.2))->aL s.heap h'->Q out { s with heap:=h',drawn:=d,toks:=tk }):wpAny (model prog w) A (collect (.ref S)) Q E s:=by
 have hn:es.size<=sizeLine:=by
  obtain ⟨o,ep,t,ho,Ff,hd,T,hr,hl⟩:=T;refine zB1 (?_:es.size<=8191) (by decide);exact zB1 (le_of_lt (lt_of_mul_lt_mul_right (Q1 (mul_le_mul_left es.size (by decide:3<=5)) hr))) (by rcases T.msk with q | q | q | q | q | q <;> rw [q] <;> decide)
 have T0:=T;obtain ⟨o,ep,t,ho,Ff,hd,_⟩:=T;have hT:∀ s':Shared,s'.heap.get? S=some o->s'.TypeIs (.ref S) "set":=fun s' e=>⟨o,e,Ff.1⟩;have hSI:s.heap.objs.size≠S:=(cF ho).symm;unfold collect;refine zC1 (wpAny_runValue (codeAny_builtin PySem.F.entry_proto_collect ?_));rw [under_plainId PySem.F.plain_proto_collect _];refine (?_:wpAny _ A.in1 (newList [] >>= fun l=>again (.builtin "list.__iadd__" ⟨[l,.ref S],[]⟩)) _ _ s);refine zC1 (wpAny_newObj_type ?_);refine zC2 ⟨plainId_quiet PySem.F.plain_list_iadd _,codeAny_builtin PySem.F.entry_list_iadd ?_⟩;rw [under_plainId PySem.F.plain_list_iadd _];refine (?_:wpAny _ A.in1 (Builtin.List.listExtendWith (.ref s.heap.objs.size) (.ref S) (.ref s.heap.objs.size)) _ _ _);have k1:=az s.heap { cls:=.type "list",data:=.seq ([]:List Value).toArray };refine qO (R:=wants _ E) (C:=fun out=>out.Perm (es.toList.map (·.2))) (s:={ s with heap:=s.heap.push { cls:=.type "list",data:=.seq ([]:List Value).toArray } }) hh (Q7 _ rfl) hSI (.inl rfl) (hT _ (k1 _ _ ho)) (fun s' Q E k hq=>vM (hT _ (k _ _ (k1 _ _ ho))) hq) (fun Q E hQ=>?_) fun out h' d tk c' hC k hD=>?_
 ·refine vJ hL (s:={ s with heap:=s.heap.push { cls:=.type "list",data:=.seq ([]:List Value).toArray } }) (?_:TS _ S es L) fun Fs I fp wr St h' d py k2 hw hf W FE=>?_
  ·obtain ⟨o,ep,t,ho,q1,q2,q3,q4,q5⟩:=T0; exact ⟨o,ep,t,k1 _ _ ho,q1,q2,q3,q4,q5⟩
  have hl:Fs.length=es.size:=by rw [py.length_eq,zA4,zB3]
  exact hQ Fs I fp wr St h' d py (hl▸hn) k2 hw (fun q=>(hf _ q).elim (fun e=>by rw [Q7 _ rfl] at e; (injection e; done)) hSI) (hl▸W A.in1 hh) FE
 ·refine (?_:wpAny _ A (load s.heap.objs.size >>= _) _ _ _);refine zC1 (wpAny_load hD ?_);exact zC2 (h out h' d tk hC fun b ob e=>k b ob (cF e) (k1 _ _ e))
end
noncomputable abbrev gJ:Bool->SortKind:=sortPriv% PySem.Builtin.KeyKind.tuples
section
variable {prog:Program} {w:World} {A:Around} {E:Value->Shared->Prop} {s:Shared}
def AL (hp:xP k p=true) (hq:xP m q=true) (hk:(k.isLeft==m.isLeft)=true) (h:Q (ib k m) s):wpAny (model prog w) A (oneLt' b p q) Q E s:=
 bw (C:=fun k p=>(k.isLeft==m.isLeft)=true->Q (ib k m) s->wpAny (model prog w) A (oneLt' b p q) Q E s) hp
  (fun i t hk h=>bw (C:=fun m q=>(true==m.isLeft)=true->Q (ib (.inl i) m) s->wpAny (model prog w) A (oneLt' b (.int i t) q) Q E s) hq (fun j u U h=>by
    cases b
    ·rw [oneLt'_eq]; exact zC1 (P.lt_int (wpAny_truthy_bool h))
    ·exact oneLt_int h) (fun U U hk=>nB hk) hk h)
  (fun x t hk h=>bw (C:=fun m q=>(false==m.isLeft)=true->Q (ib (.inr x) m) s->wpAny (model prog w) A (oneLt' b (.str x t) q) Q E s) hq (fun U U hk=>nB hk) (fun y u U h=>by
    cases b
    ·rw [oneLt'_eq]; exact zC1 (lt_str (wpAny_truthy_bool h))
    ·exact oneLt_str h) hk h) hk h
inductive KLt (prog:Program) (w:World) (s:Shared) (sz:Bool) (Q:Bool->Shared->Prop) (rest:List ((Value×Value)×Nat)) (o:Option Bool) (s':Shared):Prop
 | mk (hr:o=none) (es:s'=s) (ks ms:List Sc) (vs us:List Value) (j:Nat) (er:rest=(vs.zip us).zipIdx j) (hv:ItemsAre (aD prog w) ks vs) (hu:ItemsAre (aD prog w) ms us) (hk:ltK ks ms=true) (h:Q (bM ks ms) s) (hz:sz=decide (vs.length < us.length)):KLt prog w s sz Q rest o s'
set_option tactic.hygienic true in
def A4 (hc:IsTupleKey (aD prog w) s.heap ks c) (ER:IsTupleKey (aD prog w) s.heap ms c') (hk:ltK ks ms=true) (h:Q (bM ks ms) s):wpAny (model prog w) A (keyLt' (gJ b) (.ref c) (.ref c')) Q E s:=by
 obtain ⟨o,items,n,ho,_,hd,hi⟩:=hc;obtain ⟨o',FS,n',ED,_,EN,E6⟩:=ER;refine zC1 (listItems_at ho hd ?_);refine zC1 (listItems_at ED EN ?_);refine zC1 (wpAny_forIn_list _ (fun rest r s'=>KLt prog w s (decide (items.size < FS.size)) Q rest r.1 s') _ ?_ ?_ _ _ ⟨rfl,rfl,ks,ms,items.toList,FS.toList,0,rfl,hi,E6,hk,h,rfl⟩)
 ·rintro v rest r s' ⟨hr,rfl,ks,ms,vs,us,j,e,hv,hu,hk,h,hsz⟩;cases hv with
  | nil=>(injection e; done)
  | cons h1 hv=>
   cases hu with
   | nil=>(injection e; done)
   | cons h2 hu=>
    cases e
    refine zC1 ((aD prog w).eqBool h1 h2 ?_);rename_i k p ks vs m q ms us;rw [AW] at hk;rw [lex_cc] at h;by_cases e:k=m
    ·rw [decide_eq_true e];rw [if_pos e] at hk h;exact zC2 ⟨rfl,rfl,ks,ms,vs,us,j+1,rfl,hv,hu,hk,h,hsz.trans (decide_eq_decide.mpr Nat.succ_lt_succ_iff)⟩
    ·rw [decide_eq_false e];rw [if_neg e] at hk h;exact zC1 (AL h1 h2 hk (zC2 (wpAny_pure h)))
 ·rintro ⟨r1,r2⟩ s' ⟨hr,rfl,ks,ms,vs,us,j,e,hv,hu,hk,h,hsz⟩;subst hr;refine zC2 ?_
  show Q (decide (items.size < FS.size)) s'
  rw [hsz];have:bM ks ms=decide (vs.length < us.length):=by
   cases hv with
   | nil=>cases hu <;> rfl
   | cons h1 hv=>
    cases hu with
    | nil=>rfl
    | cons h2 hu=>(injection e; done)
  rw [<- this]; exact h
theorem sA {α β:Type} {f:α->Sem β} {C:β->Prop}:∀ {l:List α} {Q:List β->Shared->Prop},(∀ a∈l,∀ Q:β->Shared->Prop,(∀ b,C b->Q b s)->wpAny M A (f a) Q E s)->(∀ bs,(∀ b∈bs,C b)->Q bs s)->wpAny M A (l.mapM f) Q E s
 | [],Q,_,h=>by rw [List.mapM_nil]; exact zC2 (h [] fun U q=>nM q)
 | a :: l,Q,hf,h=>by
  rw [mapM_cons];refine zC1 (hf a (.head _) _ fun b hb=>zC1 (sA (fun a q=>hf a (.tail _ q)) fun bs hbs=>zC2 (h _ fun b' q=>?_)));rcases mem_cons.mp q with rfl | q
  ·exact hb
  ·exact hbs _ q
def pN {α β:Type} {f:α->Sem β} {C:β->Prop} {xs:Array α} {Q:Array β->Shared->Prop} (hf:∀ a∈xs.toList,∀ Q:β->Shared->Prop,(∀ b,C b->Q b s)->wpAny M A (f a) Q E s) (h:∀ bs,(∀ b∈bs.toList,C b)->Q bs s):wpAny M A (xs.mapM f) Q E s:=by
 rw [Array.mapM_eq_mapM_toList];exact zC1 (sA hf fun bs hb=>zC2 (h _ hb))
def vH {vs:Array Value} {Q:SortKind->Shared->Prop} (hv:∀ v∈vs.toList,∃ c x ks,v=.ref c/\IsTupleKey (aD prog w) s.heap (.inr x :: ks) c) (h:∀ b,Q (gJ b) s):wpAny (model prog w) A (keyKind' vs) Q E s:=by
 refine zC1 (pN (C:=fun r=>∃ x t,r=some (.str x t)) (fun v m Q hQ=>?_) fun fs hfs=>?_)
 ·obtain ⟨c,x,ks,rfl,k⟩:=hv v m;have hT:=k.typeIs;obtain ⟨o,items,n,ho,_,hd,hi⟩:=k;refine zC1 (wpAny_typeOf hT ?_);refine zC1 (listItems_at ho hd (zC2 (hQ _ ?_)));obtain ⟨l⟩:=items;cases hi with
  | cons hx _=>obtain ⟨t,rfl⟩:=Value.isStrOf_shape hx; exact ⟨x,t,rfl⟩
 ·have ha:fs.all (·.isSome)=true:=by
   rw [<- all_toList,Qa]; intro f m; obtain ⟨x,t,rfl⟩:=hfs f m; rfl
  rw [if_pos ha];refine (bRu ?_);refine zC1 (zC1 (pN (C:=fun U=>True) (fun v m Q hQ=>?_) fun ts U=>?_))
  ·rw [toList_filterMap] at m;obtain ⟨f,mf,e⟩:=mem_filterMap.mp m;obtain ⟨x,t,rfl⟩:=hfs f mf;(injection e with e; subst e);exact wpAny_typeOf (typeIs_str s x t) (hQ _ trivial)
  ·split
   ·exact zC2 (zC2 (h _))
   ·exact zC2 (zC2 (h _))
end
def tD (a:Sc):ib a a=false:=by
 cases a with
 | inl i=>exact decide_eq_false (Int.lt_irrefl i)
 | inr x=>exact decide_eq_false (List.lt_irrefl _)
def u0 (h1:ib a b=true) (h2:ib b c=true):ib a c=true:=by
 cases a with
 | inl i=>cases b with
  | inl j=>cases c with
   | inl k=>exact decide_eq_true (Int.lt_trans (of_decide_eq_true h1) (of_decide_eq_true h2))
   | inr z=>rfl
  | inr y=>cases c with
   | inl k=>(injection h2; done)
   | inr z=>rfl
 | inr x=>cases b with
  | inl j=>(injection h1; done)
  | inr y=>cases c with
   | inl k=>(injection h2; done)
   | inr z=>exact decide_eq_true (List.lt_trans (of_decide_eq_true h1) (of_decide_eq_true h2))
def u1 (h:a≠b) (h1:ib a b=false):ib b a=true:=by
 cases a with
 | inl i=>cases b with
  | inl j=>exact decide_eq_true (Int.lt_iff_le_and_ne.mpr ⟨Int.not_lt.mp (of_decide_eq_false h1),fun e=>h (congrArg _ e.symm)⟩)
  | inr y=>(injection h1; done)
 | inr x=>cases b with
  | inl j=>rfl
  | inr y=>
   refine decide_eq_true (byContradiction fun q=>h (congrArg _ ?_));have:=List.le_antisymm (List.not_lt.mp q) (List.not_lt.mp (of_decide_eq_false h1));obtain ⟨⟨x⟩⟩:=x; obtain ⟨⟨y⟩⟩:=y;exact congrArg _ (congrArg _ this)
theorem jn:∀ l:List Sc,bM l l=false
 | []=>rfl
 | k :: ks=>by rw [lex_cc,if_pos rfl]; exact jn ks
theorem gX:∀ {a b c:List Sc},bM a b=true->bM b c=true->bM a c=true
 | [],[],_,h,_=>nB h
 | [],_ :: _,[],_,h=>nB h
 | [],_ :: _,_ :: _,_,_=>rfl
 | _ :: _,[],_,h,_=>nB h
 | _ :: _,_ :: _,[],_,h=>nB h
 | x :: a,y :: b,z :: c,h1,h2=>by
  rw [lex_cc] at h1 h2 ⊢;by_cases e1:x=y
  ·subst e1;rw [if_pos rfl] at h1;by_cases e2:x=z
   ·rw [if_pos e2] at h2 ⊢; exact gX h1 h2
   ·rw [if_neg e2] at h2 ⊢; exact h2
  ·rw [if_neg e1] at h1;by_cases e2:y=z
   ·subst e2; rw [if_neg e1]; exact h1
   ·rw [if_neg e2] at h2;have:=u0 h1 h2;rw [if_neg fun e=>by rw [e,tD] at this; (injection this; done)]; exact this
theorem gY:∀ {a b:List Sc},a≠b->bM a b=false->bM b a=true
 | [],[],h,_=>absurd rfl h
 | [],_ :: _,_,h=>nB h.symm
 | _ :: _,[],_,_=>rfl
 | x :: a,y :: b,h,h1=>by
  rw [lex_cc] at h1 ⊢;by_cases e:x=y
  ·subst e; rw [if_pos rfl] at h1 ⊢; exact gY (fun e=>h (by rw [e])) h1
  ·rw [if_neg e] at h1; rw [if_neg (Ne.symm e)]; exact u1 e h1
open Classical in
noncomputable def gt (prog:Program) (w:World) (h:Heap):Value->Option (List Sc)
 | .ref c=>if q:∃ ks,IsTupleKey (aD prog w) h ks c then some q.choose else none
 | _=>none
def eE (k:IsTupleKey (aD prog w) h ks c):gt prog w h (.ref c)=some ks:=by
 have q:∃ ks,IsTupleKey (aD prog w) h ks c:=⟨ks,k⟩;exact (dif_pos q).trans (congrArg some (q.choose_spec.inj k))
noncomputable def db (prog:Program) (w:World) (h:Heap):Zs.KKd where
 α:=List Sc
 blt:=bM
 irrefl:=jn
 trans:=fun U U U=>gX
 negTrans:=fun a b c h=>by
  by_cases e:a=b
  ·subst e; exact .inr h
  ·cases q:bM a b with
   | true=>exact .inl rfl
   | false=>exact .inr (gX (gY e q) h)
 total:=fun a b h1 h2=>byContradiction fun e=>by rw [gY e h1] at h2; (injection h2; done)
 keyOf:=gt prog w h
 dflt:=[]
section
variable {prog:Program} {w:World} {A:Around} {E:Value->Shared->Prop} {s:Shared}
structure Ordered (prog:Program) (w:World) (h:Heap) (vs:List Value):Prop where
 keys:∀ v∈vs,∃ c x ks,v=.ref c/\IsTupleKey (aD prog w) h (.inr x :: ks) c
 lt:∀ c c' ks ms,.ref c∈vs->.ref c'∈vs->IsTupleKey (aD prog w) h ks c->IsTupleKey (aD prog w) h ms c'->ltK ks ms=true
theorem Ordered.move (O:Ordered prog w h vs) (p:ws.Perm vs) (k:∀ ks c,IsTupleKey (aD prog w) h ks c->IsTupleKey (aD prog w) h' ks c):Ordered prog w h' ws where
 keys:=fun v m=>let ⟨c,x,ks,e,q⟩:=O.keys v (p.mem_iff.mp m); ⟨c,x,ks,e,k _ _ q⟩
 lt:=fun c c' ks ms m m' q q'=>by
  obtain ⟨_,x,EG,e,z⟩:=O.keys _ (p.mem_iff.mp m);obtain ⟨_,x',ks'',e',z'⟩:=O.keys _ (p.mem_iff.mp m');(injection e with e; subst e); (injection e' with e'; subst e');rw [q.inj (k _ _ z),q'.inj (k _ _ z')];exact O.lt c c' _ _ (p.mem_iff.mp m) (p.mem_iff.mp m') z z'
def lm {vs:List Value} {a:Array Keyed} (p:a.Perm (pairsOf vs)):(a.map (·.2)).toList.Perm vs:=by
 rw [toList_map];refine ((perm_iff_toList_perm.mp p).map _).trans (.of_eq ?_);rw [pairsOf_toList,List.map_snd_zip (le_refl _)]
def yf (O:Ordered prog w s.heap vs):Zs.LtIs (model prog w) A s (gJ b) (db prog w s.heap) (pairsOf vs):=fun x y hx hy E Q h=>by
 rw [pairsOf_toList] at hx hy;have mx:=(mem_zip_self hx).2;have my:=(mem_zip_self hy).2;refine av fun Z3 Lh=>?_;obtain ⟨c,t,ks,e,k⟩:=O.keys _ mx;obtain ⟨c',t',EG,e',k'⟩:=O.keys _ my;refine Lh ?_;have ex:Zs.keyK (db prog w s.heap) x=.inr t :: ks:=by unfold Zs.keyK; exact e.symm▸congrArg (getD · []) (eE k)
 have ey:Zs.keyK (db prog w s.heap) y=.inr t' :: EG:=by unfold Zs.keyK; rw [e']; exact congrArg (getD · []) (eE k')
 rw [ex,ey] at h;rw [e] at mx ⊢;rw [e'] at my ⊢;exact A4 k k' (O.lt _ _ _ _ mx my k k') h
def fV (prog:Program) (w:World) (h:Heap) (vs:List Value):Prop:=vs.Pairwise fun x y=>bM ((gt prog w h y).getD []) ((gt prog w h x).getD [])=false
def u4 (p:xs.Perm (pairsOf vs)) (hs:SortedToK (db prog w h) xs (pairsOf vs).size):fV prog w h (xs.map (·.2)).toList:=by
 have self:∀ x∈xs.toList,x.1=x.2:=fun x m=>by
  have:=(perm_iff_toList_perm.mp p).mem_iff.mp m;rw [pairsOf_toList] at this;exact (mem_zip_self this).1
 refine pairwise_iff_getElem.mpr fun i j hi hj EE=>?_;rw [toList_map,zA4,zB3] at hi hj;have q:=hs i j (le_of_lt EE) (p.size_eq▸hj);have key:∀ (i:Nat) (hi:i < xs.size) (E6:i < (xs.map (·.2)).toList.length),KK (db prog w h) xs i=(gt prog w h (xs.map (·.2)).toList[i]).getD []:=fun i hi E6=>by
  rw [Zs.kk_at (getElem?_pos xs i hi)];unfold Zs.keyK;rw [self _ (by simp)];simp only [toList_map,List.getElem_map,Array.getElem_toList];rfl
 rw [<- key i hi,<- key j hj];exact q
theorem Ordered.same (O:Ordered prog w h vs) (k:∀ ks c,IsTupleKey (aD prog w) h ks c->IsTupleKey (aD prog w) h' ks c):∀ v∈vs,gt prog w h' v=gt prog w h v:=fun v m=>by
 obtain ⟨c,x,ks,rfl,q⟩:=O.keys v m;rw [eE q,eE (k _ _ q)]
theorem fV.congr (r:fV prog w h' vs) (e:∀ v∈vs,gt prog w h' v=gt prog w h v):fV prog w h vs:=Pairwise.imp_of_mem (fun a b z=>by exact (e _ a)▸(e _ b)▸z) r
def tA (ho:s.heap.get? a=some (seqObj "list" vs.toArray n)) (O:Ordered prog w s.heap vs) (zl:vs.length<=sizeLine)
  (h:∀ out:Array Value,out.toList.Perm vs->fV prog w s.heap out.toList->P (.done (.ret .none)) { s with heap:=sortedHeap s.heap a vs out }):wpAny (model prog w) A (Builtin.«list.sort» ⟨[.ref a],[]⟩) P E s:=by
 rw [list_sort_plain];have ha:a < s.heap.objs.size:=lt_size ho;refine zC1 (listItems_at ho rfl ?_);refine zC1 (listUpdate_at ho rfl ?_ (by rw [size_toArray]; exact zl));obtain ⟨e1,JN⟩:∃ e1,(s.heap.update a (mapSeq fun U=>#[])).get? a=some (seqObj "list" #[] e1):=⟨_,get?_update_seq ho (fun U=>#[])⟩;refine zC1 (seqEpoch_at JN rfl ?_);refine zC1 (wpAny_newTuple ?_ zl);refine zC1 (wpAny_newList ?_);refine wpAny_holding ?_;have HS:∀ b o,b≠a->s.heap.get? b=some o->(((s.heap.update a (mapSeq fun U=>#[])).push (seqObj "tuple" vs.toArray 0)).push (seqObj "list" #[] 0)).get? b=some o:=fun b o q e=>Q4 _ (Q4 _ ((get?_update_other _ _ (Ne.symm q)).trans e));have ho6:(((s.heap.update a (mapSeq fun U=>#[])).push (seqObj "tuple" vs.toArray 0)).push (seqObj "list" #[] 0)).get? a=some (seqObj "list" #[] e1):=Q4 _ (Q4 _ JN);have k6:∀ ks c,IsTupleKey (aD prog w) s.heap ks c->IsTupleKey (aD prog w) (((s.heap.update a (mapSeq fun U=>#[])).push (seqObj "tuple" vs.toArray 0)).push (seqObj "list" #[] 0)) ks c:=fun ks c k=>by
  obtain ⟨o,it,n',hc,FB,r⟩:=k;exact ⟨o,it,n',HS c o (fun q=>by subst q; replace hc:=ho▸hc; (injection hc with hc; subst hc); exact absurd (Value.type.inj FB) (by decide)) hc,FB,r⟩
 have O6:=O.move (.refl _) k6;have same:=O.same k6;refine (?_:wpAny (model prog w) A _ P E { s with heap:=((s.heap.update a (mapSeq fun U=>#[])).push (seqObj "tuple" vs.toArray 0)).push (seqObj "list" #[] 0) });dsimp only;have fin:∀ st':SortSt,(arrOf st').Perm (pairsOf vs)->failedOf st'=none->SortedToK (db prog w (((s.heap.update a (mapSeq fun U=>#[])).push (seqObj "tuple" vs.toArray 0)).push (seqObj "list" #[] 0))) (arrOf st') (pairsOf vs).size->wpAny (model prog w) A (do
   let GZ:=(<- seqEpoch a) != e1
   Builtin.List.listUpdate (.ref a) fun U=>(arrOf st').map (·.2)
   if let some e:=failedOf st' then rule "list.sort.comparison-raised"; throw e
   if GZ then rule "list.sort.modified"; raiseError "ValueError" "list modified during sort"
   ret .none) P E { s with heap:=((s.heap.update a (mapSeq fun U=>#[])).push (seqObj "tuple" vs.toArray 0)).push (seqObj "list" #[] 0) }:=fun st' hp hf hs=>by
  refine zC1 (seqEpoch_at ho6 rfl ?_);refine zC1 (listUpdate_at ho6 rfl ?_ (hsz2:=le_succ_of_le (by refine zB1 (zB2 ?_) zl; rw [Array.size_map,hp.size_eq,pairsOf_size])));refine hf.symm▸?_;simp only [bne_self_eq_false,false_eq_true,if_false];exact zC2 (h _ (lm hp) <| (u4 hp hs).congr fun v m=>same v ((lm hp).mem_iff.mp m))
 by_cases h2:vs.toArray.size < 2
 ·rw [if_pos h2,if_pos h2];refine (bPu ?_);rw [StateT.run_pure];refine (bPu ?_);refine fin (SortSt.mk' general' (vs.toArray.zip vs.toArray) #[] 7 none) (Array.Perm.refl _) rfl fun i j EE hj=>?_;rw [pairsOf_size,<- size_toArray] at hj;obtain rfl:=le_zero.mp (Q8 (Q0 hj (Q8 h2)));obtain rfl:=le_zero.mp EE;exact kle_refl _
 ·rw [if_neg h2,if_neg h2];refine zC1 (vH (fun v m=>O6.keys v m) fun b=>?_);refine zC1 (wpAny_mono (Zs.wpS_sortRuns (k₀:=gJ b) (κ:=db prog w _) (a₀:=pairsOf vs) (st:=SortSt.mk' (gJ b) (vs.toArray.zip vs.toArray) #[] 7 none) (Q:=fun U st'=>(arrOf st').Perm (pairsOf vs)/\failedOf st'=none/\SortedToK (db prog w _) (arrOf st') (pairsOf vs).size) (yf O6) ⟨Array.Perm.refl _,rfl,rfl,rfl⟩ fun st' a1 a2 a3=>⟨a1,a2,a3⟩) ?_ fun U U e=>e);rintro ⟨⟨⟩,st'⟩ s' ⟨rfl,hp,hf,hs⟩;exact fin st' hp hf hs
end
section
variable {prog:Program} {w:World} {A:Around} {E:Value->Shared->Prop} {s:Shared} {S:Addr} {es:Array (Int×Value)} {L:Bool}
def qm (hh:A.handled=none) (hL:L = !w.params.followText "set-order") (T:TS s.heap S es L) (O:Ordered prog w s.heap (es.toList.map (·.2))) (hz:es.size < 4500)
  (h:∀ (out:Array Value) h' d tk b e,out.toList.Perm (es.toList.map (·.2))->fV prog w s.heap out.toList->aL s.heap h'->s.heap.get? b=none->lR s.heap (.ref b)->h'.get? b=some (seqObj "list" out e)->Q (.ref b) { s with heap:=h',drawn:=d,toks:=tk }):wpAny (model prog w) A (call (.builtin "sorted") [.ref S]) Q E s:=by
 refine Calls.call_function_entry kind_sorted plain_sorted entry_sorted (args_sorted1 _) ?_;unfold Builtin.«sorted»;refine wpAny_bind (m:=checkCount "sorted" 1 1 _) (zC2 ?_);refine zC1 (oB hh hL T fun vs h1 d tk p k=>?_);have vl':vs.length=es.size:=by rw [p.length_eq,zA4,zB3]
 have vl:vs.length < 4500:=vl'.symm▸hz;refine zC1 (wpAny_newList ?_ (zB1 (le_of_lt vl) (by decide)));have k2:aL s.heap (h1.push (seqObj "list" vs.toArray 0)):=k.trans (az _ _);have Lx:(h1.push (seqObj "list" vs.toArray 0)).get? h1.objs.size=some (seqObj "list" vs.toArray 0):=Q7 _ rfl;have kk:∀ ks c,IsTupleKey (aD prog w) s.heap ks c->IsTupleKey (aD prog w) (h1.push (seqObj "list" vs.toArray 0)) ks c:=fun ks c FA=>FA.elim fun o FM=>FM.elim fun vs FL=>FL.elim fun n F0=>F0.elim fun ho r=>⟨o,vs,n,k2 _ _ ho,r⟩;have O2:=O.move p kk;refine zC1 (wpAny_holding (wpAny_call_entry slot_list_sort ⟨_,Lx,rfl⟩ entry_list_sort (tA Lx O2 (zB1 (le_of_lt vl) (by decide)) fun out po ro=>⟨_,rfl,?_⟩) (args_list_sort _)));have n0:s.heap.get? h1.objs.size=none:=aR k.live (ak _);obtain ⟨e,he⟩:=sortedHeap_at (out:=out) Lx;refine zC2 ⟨_,rfl,h out _ d tk _ e (po.trans p) (ro.congr fun v m=>O.same kk v ((po.trans p).mem_iff.mp m)) (fun b o q=>?_) n0 (fun a b e Gf=>Gf.elim fun o q=>by (injection e with e; subst e); exact lt_size (k b o q)) he⟩;rw [sortedHeap_old (fun q'=>by subst q'; rw [n0] at q; (injection q; done)) (lt_size (k2 _ _ q))];exact k2 _ _ q
end
def AY {S:Addr} {prog:Program} {w:World} {A:Around} {E:Value->Shared->Prop} {s:Shared} {Q:Value->Shared->Prop} (T:TS s.heap S es L) (h:∀ t tk,Q (.int es.size t) { s with toks:=tk }):wpAny (model prog w) A (call (.builtin "len") [.ref S]) Q E s:=by
 obtain ⟨o,ep,t,ho,Ff,hd,T,hr,hl⟩:=T;have hm:es.size<=t.mask:=le_of_lt (lt_of_mul_lt_mul_right (Q1 (mul_le_mul_left es.size (by decide:3<=5)) hr));have EH:es.size<=8191:=zB1 hm (by rcases T.msk with q | q | q | q | q | q <;> rw [q] <;> decide);exact Calls.call_function_entry kind_len plain_len entry_len (args_len1 _) (wpAny_len_body_set ho Ff hd (T.fits hm) (Int.lt_of_le_of_lt (ofNat_le.mpr EH) (by decide)) (h _ _))
section
variable {Φ:Ct} [Hm Φ.fx] {s:Shared} {v u:Value} {x y z:V} {d:DV}
def u3 (hr:Φ.rps h vs r) (hw:∀ x∈r,fv x=true) (R:fV Φ.fx.g.prog Φ.fx.g.w h vs):gD r:=by
 have key:∀ (i:Nat) (hi:i < r.length) (E6:i < vs.length),(gt Φ.fx.g.prog Φ.fx.g.w h vs[i]).getD []=aU r[i]:=fun i hi E6=>by
  obtain ⟨v,ev,rv⟩:=hr.get (Q9 hi);(injection (Q9 E6).symm.trans ev with Xq; subst Xq);obtain ⟨c,e,k⟩:=gH (hw _ (getElem_mem hi)) rv;rw [e,eE k]; rfl
 refine pairwise_iff_getElem.mpr fun i j hi hj EE=>?_;have hl:=hr.length;rw [<- key i hi (hl▸hi),<- key j hj (hl▸hj)];exact pairwise_iff_getElem.mp R i j (hl▸hi) (hl▸hj) EE
def sS {f:Str} {id:String} {fp pos sp Eo:Pos} {e:Expr} {P:Shared->Value->Shared->Prop} {dd:V->Prop} (hx:br Φ.fx.env.scope.names f=true) (hF:bI.lookup f=some (.builtin id)) (hs:br Φ.fx.env.scope.names "set"=true) (hp:aq e=true) (h:Ev Φ (eval e Φ.fx.env) d)
  (st:∀ s v x E,Inv Φ s->Φ.rp s.heap v x->dd x->wpAny (model Φ.fx.g.prog Φ.fx.g.w) Φ.fx.A (call (.type "set") [v]) (fun u s₁=>wpAny (model Φ.fx.g.prog Φ.fx.g.w) Φ.fx.A (call (.builtin id) [u]) (P s) E s₁) E s) (hP:∀ s s₁ v s',aI s.heap s₁.heap->P s₁ v s'->P s v s') (hd:d dd) (I:Inv Φ s) :
  Φ.wp (eval (.Call (.Name f fp) [.Call (.Name "set" sp) [e] [] Eo] [] pos) Φ.fx.env) (P s) s:=fun E=>by
 refine (?_:wpAny _ _ (eval (.Name f fp) Φ.fx.env >>= fun F=>callWith pos F [] (backTo pos (starEach [.Call (.Name "set" sp) [e] [] Eo] Φ.fx.env)) []) _ _ s);refine zC1 (bH I hx hF ?_ E);refine callWith_builtin rfl (Calls.evalArgs_plain ?_);refine (?_:wpAny _ _ (eval (.Call (.Name "set" sp) [e] [] Eo) Φ.fx.env >>= fun v=>holding [v] (pure []) >>= fun vs=>pure (v :: vs)) _ _ s);refine zC1 ?_;refine (?_:wpAny _ _ (eval (.Name "set" sp) Φ.fx.env >>= fun F=>callWith Eo F [] (backTo Eo (starEach [e] Φ.fx.env)) []) _ _ s);refine zC1 (bH (v:=.type "set") I hs rfl ?_ E);refine PySem.callWith_type (by rw [aJ hp]; rfl) ?_;refine cM (qs:=[(e,d)]) (K:=fun xs=>okK (one xs some) dd) (fun q m=>by obtain rfl:=zA6 m; exact ⟨hp,h⟩) hd I fun vs xs s₁ C' Ef hx rs=>ah hx fun x e hx=>?_;refine cP (C:=fun vs=>wpAny _ _ (call (.type "set") ([]++vs) []) _ _ s₁) e rs fun v x' r e=>?_;cases e
 exact wpAny_mono (st s₁ _ x E C' r hx) (fun u Ee p=>zC1 (wpAny_holding (zC2 (zC2 (wpAny_mono p (fun U U q=>hP _ _ _ _ Ef q) fun U U z=>z))))) fun U U z=>z
def lX {fp pos sp Eo:Pos} {e:Expr} (hx:br Φ.fx.env.scope.names "sorted"=true) (hs:br Φ.fx.env.scope.names "set"=true) (hp:aq e=true) (h:Ev Φ (eval e Φ.fx.env) d) :
  EvN Φ (eval (.Call (.Name "sorted" fp) [.Call (.Name "set" sp) [e] [] Eo] [] pos) Φ.fx.env) (fun K=>d fun x=>okK (dY x some) fun l=>(l.all fv&&decide (l.length<=am))=true/\(∀ x∈l,∀ y∈l,ltK (aU x) (aU y)=true)/\(∃ m:List V,m.length < 4500/\∀ x∈l,x∈m)/\∀ r:List V,r.Nodup->(∀ y,y∈r ↔ y∈l)->gD r->K (.list r)):=fun K s hd I=>by
 refine sS (P:=fun s=>iy Φ s K) hx rfl hs hp h (fun s v x E I r hx=>?_) (fun U U U U k p=>p.lift k) hd I;refine ah hx fun l e It=>It.elim fun q Iq=>Iq.elim fun Et He=>He.elim fun Hd hK=>Hd.elim fun few GQ=>GQ.elim fun Fy IP=>?_;refine bL (C:=fun x=>Φ.rp s.heap v x->wpAny _ _ (call (.type "set") [v]) _ E s) e (fun l' e r=>?_) r;cases e
 have q:=zA2 q;have hw:∀ x∈l,fv x=true:=Qa.mp q.1;refine r.list_elim fun a o vs n U ha hc hd hl=>?_;have hu:=I.room;have hsz:=aQ hl;refine gC (T:="list") (I.ok.hand Hm.no) hu (fun s' k=>⟨o,k _ _ ha,hc.1⟩) PySem.F.sub_list_set PySem.F.sub_list_frozenset (by decide) (g6 ⟨o,ha,hc.1,n,hd⟩) (jC hl hw IP (Q0 Fy (by decide))) fun h' tk hZ k=>?_;obtain ⟨es,r,T,he,hr,IL,hm⟩:=hZ;rw [hsz,take_length] at hm;have O:Ordered Φ.fx.g.prog Φ.fx.g.w h' (es.toList.map (·.2)):=by
  have kk:∀ y∈r,∀ v,Φ.rp s.heap v y->∃ c x ks,v=.ref c/\aU y=.inr x :: ks/\IsTupleKey (aD Φ.fx.g.prog Φ.fx.g.w) h' (.inr x :: ks) c:=fun y my v ry=>by
   have hy:=hw y ((hm y).mp my);obtain ⟨c,e,z⟩:=gH hy ry;obtain ⟨x,ks,eh⟩:=lF hy;exact ⟨c,x,ks,e,eh,eh▸eD k z⟩
  refine ⟨fun v m=>?_,fun c c' ks ms m m' q q'=>?_⟩
  ·obtain ⟨y,my,ry⟩:=hr.of_mem m;obtain ⟨c,x,ks,e,_,z⟩:=kk y my v ry;exact ⟨c,x,ks,e,z⟩
  ·obtain ⟨y,my,ry⟩:=hr.of_mem m;obtain ⟨y',my',ry'⟩:=hr.of_mem m';obtain ⟨_,x,EG,e,eh,z⟩:=kk y my _ ry;obtain ⟨_,x',ms',e',eh',z'⟩:=kk y' my' _ ry';(injection e with e; subst e); (injection e' with e'; subst e');rw [q.inj z,q'.inj z',<- eh,<- eh'];exact Et y ((hm y).mp my) y' ((hm y').mp my')
 have Md:∀ {few:List V} {n:Nat},few.length < n->(∀ x∈l,x∈few)->es.size < n:=fun {few} n Fy IP=>by
  rw [jW hr]; exact Q1 (IL.length_le_of_subset (l₂:=few) fun y q=>IP y ((hm y).mp q)) Fy
 refine qm (s:={ s with heap:=h',toks:=tk }) (I.ok.hand Hm.no) rfl T O (Md Fy IP) fun out h2 dr tk2 b e po ro k2 hb hnv ho=>?_;obtain ⟨R,pR,rR⟩:=RpAll.perm po hr;have nb:s.heap.get? b=none:=aR k.live hb;have hRw:∀ x∈R,fv x=true:=fun y q=>hw y ((hm y).mp (pR.mem_iff.mp q));refine ⟨⟨⟨I.base.stays.trans (k.trans k2),I.base.os,I.base.gens⟩,(k.trans k2).keeps,.list R,hK R (pR.nodup_iff.mpr IL) (fun y=>pR.mem_iff.trans (hm y)) (u3 (rR.keep k.keeps) hRw ro),.list (fun q=>?_) ho ⟨rfl,rfl⟩ rfl (rR.keep (k.trans k2).keeps)⟩,hnv.le fun b l=>k.keeps.live l⟩;obtain ⟨o',e'⟩:=I.badLive q;rw [nb] at e'; (injection e'; done)
open Classical in
def ue {fp pos sp Eo:Pos} {e:Expr} (hx:br Φ.fx.env.scope.names "len"=true) (hs:br Φ.fx.env.scope.names "set"=true) (hp:aq e=true) (h:Ev Φ (eval e Φ.fx.env) d) :
  Ev Φ (eval (.Call (.Name "len" fp) [.Call (.Name "set" sp) [e] [] Eo] [] pos) Φ.fx.env) (fun K=>d fun x=>okK ((fQ x).map fun n=>.int n) K):=fun K s hd I=>by
 refine sS (P:=fun s=>Post Φ Φ.rp s K) hx rfl hs hp h (fun s v x E I r hx=>?_) (fun U U U U k p=>p.lift k) hd I;refine ah hx fun z e kz=>map_elim (C:=fun z=>K z->_) e (fun n e kz=>?_) kz;have fin:∀ {Kd:Type} [DecidableEq Kd] (kd:KeyKind Φ.fx.g.prog Φ.fx.g.w Kd) (S:Kd->Bool) (h':Heap) (tk:Nat),h'.SetOf kd s.heap.objs.size S n->aL s.heap h'->wpAny (model Φ.fx.g.prog Φ.fx.g.w) Φ.fx.A (call (.builtin "len") [.ref s.heap.objs.size]) (Post Φ Φ.rp s K) E { s with heap:=h',toks:=tk }:=fun kd S h' tk hS k=>
  yh (s:={ s with heap:=h',toks:=tk }) hS fun t tk'=>⟨⟨I.base.stays.trans k,I.base.os,I.base.gens⟩,k.keeps,_,kz,.int _ _⟩
 cases x with
 | str t=>
  refine bo e fun q e=>?_;(injection e with e; subst e);refine r.str_elim fun tk=>?_;have F:=ik (knd:=PySem.strKind Φ.fx.g.prog Φ.fx.g.w) (h₀:=s.heap) (S:=s.heap.objs.size) (P:=SignAt t) (ks:=t.cps.toList.map fun c=>(⟨#[c]⟩:Str)) (fun i v ⟨c,u,hc,e⟩=>⟨⟨#[c]⟩,by rw [getElem?_map,Q2,hc]; rfl,by subst e; simp [PySem.strKind,Value.isStrOf],by subst e; rfl⟩) (Pairwise.map _ (fun a b ne e=>ne (by injection e with e; exact (zA5 (congrArg Array.toList e)).1)) q.1) (by rw [zA4,zB3]; unfold scanBound; exact Q1 q.2 (by decide));rw [zA4,zB3] at F;exact gC (T:="str") (I.ok.hand Hm.no) I.room (fun s' k=>typeIs_str _ _ _) (by rw [isSubtype_type]; kernel_rfl) (by rw [isSubtype_type]; kernel_rfl) (by decide) vO F fun h' tk hZ k=>fin (PySem.strKind _ _) _ h' tk hZ k
 | list l=>
  have e:(if l.all fv=true then (if l.Nodup/\l.length < 4500 then some l.length else none) else (eS l).bind fun is=>if is.Nodup/\is.length < 4000 then some is.length else none)=some n:=e;by_cases hw:l.all fv=true
  ·rw [if_pos hw] at e;refine bo e fun q e=>?_;(injection e with e; subst e);refine r.list_elim fun a o vs n U ha hc hd hl=>?_;refine gC (T:="list") (I.ok.hand Hm.no) I.room (fun s' k=>⟨o,k _ _ ha,hc.1⟩) PySem.F.sub_list_set PySem.F.sub_list_frozenset (by decide) (g6 ⟨o,ha,hc.1,n,hd⟩) (jC hl (Qa.mp hw) (fun U m=>m) (Q0 q.2 (by decide))) fun h' tk hZ k=>?_;obtain ⟨es,r,T,he,hr,IL,hm⟩:=hZ;rw [aQ hl,take_length] at hm;have ez:es.size=l.length:=(jW hr).trans ((perm_ext_iff_of_nodup IL q.1).mpr hm).length_eq;exact AY (s:={ s with heap:=h',toks:=tk }) T fun t tk'=>ez▸⟨⟨I.base.stays.trans k,I.base.os,I.base.gens⟩,k.keeps,_,kz,ez▸.int _ _⟩
  rw [if_neg hw] at e;obtain ⟨is,ei,e⟩:=bind_eq_some_iff.mp e;refine bo e fun q e=>?_;(injection e with e; subst e);refine r.list_elim fun a o vs n U ha hc hd hl=>?_;have hi:=jz ei hl;have KE:vs.size=is.length:=by rw [<- zB3,hi.nums.symm,zA4]
  have F:=ik (knd:=intKind Φ.fx.g.prog Φ.fx.g.w) (h₀:=s.heap) (S:=s.heap.objs.size) (P:=fun i v=>vs[i]?=some v) (ks:=is) (fun i v e=>?_) q.1 (by unfold scanBound; exact Q1 q.2 (by decide))
  ·rw [<- KE] at F;exact gC (T:="list") (I.ok.hand Hm.no) I.room (fun s' k=>⟨o,k _ _ ha,hc.1⟩) PySem.F.sub_list_set PySem.F.sub_list_frozenset (by decide) (g6 ⟨o,ha,hc.1,n,hd⟩) F fun h' tk hZ k=>fin (intKind _ _) _ h' tk (KE▸hZ) k
  ·obtain ⟨t,et⟩:=hi.int_at i v (Q2▸e);have Et:i < is.length:=KE▸(Array.getElem?_eq_some_iff.mp e).1;refine ⟨is.getD i 0,by rw [Q9 Et]; simp [Et],?_,by subst et; rfl⟩;subst et; simp [intKind,Value.isInt]
 | _=>(injection e; done)
end
noncomputable def bU (fx:Fx):Sx:=⟨fx.env.scope.names,fx.ρ,fx.nf,fx.ns,fx.hm,fx.nw⟩
def aj (fx:Fx) (p:Pz) (x:Expr) (d:D):Prop:=match p with
 | .val=>∀ oa G,Ev ⟨fx,oa,G⟩ (eval x fx.env) (d G)
 | .test=>∀ oa G,EvT ⟨fx,oa,G⟩ (isTrue x fx.env (eval x fx.env)) (tst (d G))
 | .new=>∀ oa G,EvN ⟨fx,oa,G⟩ (eval x fx.env) (d G)
 | .src st T=>∀ oa G,eV ⟨fx,oa,G⟩ T st x (fun K=>d G fun v=>okK (bK v) K)
 | .asg y py sp=>∀ k,TgtOk fx.ρ fx.env y k->ExB fx (exec (.Assign [.Name y py] x sp) fx.env) (fun G K=>d G fun v=>K none (G.set k (.v v)))
def d5 (g:Gl) (n:Nat) (t:Kid) (d:D):Prop:=∀ fx,fx.g=g->fx.d=n->bU fx=t.1->aj fx t.2.1 t.2.2 d
inductive Kids (g:Gl) (n:Nat):List Kid->List D->Prop
 | nil:Kids g n [] []
 | cons {t:Kid} {ts:List Kid} {d:D} {ds:List D}:d5 g n t d->Kids g n ts ds->Kids g n (t :: ts) (d :: ds)
section
variable {g:Gl} {n:Nat} {ds:List D} {C:List D->Prop} {t u w:Kid}
@[elab_as_elim] theorem Kids.n0 (h:Kids g n [] ds) (k:C []):C ds:=by cases h; exact k
@[elab_as_elim] theorem Kids.nc {ts:List Kid} (h:Kids g n (t :: ts) ds) (k:∀ d ds,d5 g n t d->Kids g n ts ds->C (d :: ds)):C ds:=by cases h with | cons a b=>exact k _ _ a b
@[elab_as_elim] theorem Kids.n1 (h:Kids g n [t] ds) (k:∀ d,d5 g n t d->C [d]):C ds:=h.nc fun d ds a b=>b.n0 (k d a)
@[elab_as_elim] theorem Kids.n2 (h:Kids g n [t,u] ds) (k:∀ d e,d5 g n t d->d5 g n u e->C [d,e]):C ds:=h.nc fun d ds a b=>b.n1 fun e c=>k d e a c
@[elab_as_elim] theorem Kids.n3 (h:Kids g n [t,u,w] ds) (k:∀ d e f,d5 g n t d->d5 g n u e->d5 g n w f->C [d,e,f]):C ds:=h.nc fun d ds a b=>b.n2 fun e f c q=>k d e f a c q
theorem Kids.pairs:∀ {ds:List D},Kids g n (xs.map fun x=>(X,p,x)) ds->∃ qs:List (Expr×D),qs.map Prod.fst=xs/\qs.map Prod.snd=ds/\∀ q∈qs,d5 g n (X,p,q.1) q.2:=by
 induction xs with
 | nil=>intro ds h; exact h.n0 ⟨[],rfl,rfl,fun U m=>nM m⟩
 | cons x xs ih=>
  intro ds h;refine h.nc fun d ds a b=>?_;obtain ⟨qs,e1,e2,hq⟩:=ih b;exact ⟨(x,d) :: qs,congrArg (x :: ·) e1,congrArg (d :: ·) e2,fun q m=>by cases m with | head=>exact a | tail _ m=>exact hq q m⟩
end
section
variable {g:Gl} {n:Nat} {ds:List D} {fx:Fx} {xs:List Expr}
theorem Kids.vals (h:Kids g n (xs.map fun x=>(bU fx,.val,x)) ds) (hg:fx.g=g) (hn:fx.d=n):∃ qs:Gs->List (Expr×DV),(∀ G,(qs G).map Prod.fst=xs/\(qs G).map Prod.snd=ds.map (· G))/\∀ oa G,∀ q∈qs G,q.1∈xs/\bj ⟨fx,oa,G⟩ q:=by
 obtain ⟨qs,rfl,rfl,hq⟩:=h.pairs;refine ⟨fun G=>qs.map fun q=>(q.1,q.2 G),fun G=>⟨by rw [map_map]; rfl,by rw [map_map,map_map]; rfl⟩,fun oa G q m=>?_⟩;obtain ⟨q',m',rfl⟩:=zA7 m;exact ⟨mem_map.mpr ⟨q',m',rfl⟩,hq q' m' fx hg hn rfl oa G⟩
theorem Kids.items (h:Kids g n (xs.map fun x=>(bU fx,.val,x)) ds) (hg:fx.g=g) (hn:fx.d=n) (hp:cu xs=true):∃ qs:Gs->List (Expr×DV),(∀ G,(qs G).map Prod.fst=xs/\(qs G).map Prod.snd=ds.map (· G))/\∀ oa G,∀ q∈qs G,aq q.1=true/\bj ⟨fx,oa,G⟩ q:=by
 obtain ⟨qs,h1,h2⟩:=h.vals hg hn;exact ⟨qs,h1,fun oa G q m=>⟨Qa.mp hp _ (h2 oa G q m).1,(h2 oa G q m).2⟩⟩
theorem Kids.tests (h:Kids g n (xs.map fun x=>(bU fx,.test,x)) ds) (hg:fx.g=g) (hn:fx.d=n):∃ qs:Gs->List (Expr×DV),(∀ G,(qs G).map Prod.fst=xs/\(qs G).map Prod.snd=ds.map (· G))/\∀ oa G,∀ q∈qs G,EvT ⟨fx,oa,G⟩ (isTrue q.1 fx.env (eval q.1 fx.env)) (tst q.2):=by
 obtain ⟨qs,rfl,rfl,hq⟩:=h.pairs;refine ⟨fun G=>qs.map fun q=>(q.1,q.2 G),fun G=>⟨by rw [map_map]; rfl,by rw [map_map,map_map]; rfl⟩,fun oa G q m=>?_⟩;obtain ⟨q',m',rfl⟩:=zA7 m;exact hq q' m' fx hg hn rfl oa G
theorem Kids.node {f:List Expr->Expr} {op:List V->(V->Prop)->Prop} (h:Kids g n (xs.map fun x=>(bU fx,.val,x)) ds) (hg:fx.g=g) (hn:fx.d=n) (hp:cu xs=true)
  (k:∀ oa G (qs:List (Expr×DV)),(∀ q∈qs,aq q.1=true/\bj ⟨fx,oa,G⟩ q)->EvC ⟨fx,oa,G⟩ nb (eval (f (qs.map Prod.fst)) fx.env) (fun K=>bv (qs.map Prod.snd) fun xs=>op xs K)):∀ oa G,EvC ⟨fx,oa,G⟩ nb (eval (f xs) fx.env) (fun K=>bR ds G fun xs=>op xs K):=fun oa G=>by
 obtain ⟨qs,h1,h2⟩:=h.items hg hn hp;have q:=k oa G (qs G) (h2 oa G);rw [(h1 G).1,(h1 G).2] at q;rw [j7];exact q
end
def bp {f:Str×Pos->Bool} {C:Expr->Prop} (h:(bg x).any f=true) (k:∀ n p,f (n,p)=true->C (.Name n p)):C x:=
 if hi:x.ctorIdx=23 then Expr.Name.elim (motive_1:=fun x=>(bg x).any f=true->C x) x hi (fun n p h=>k n p h) h else by
  unfold bg at h; rw [dif_neg hi] at h; (injection h; done)
def yl {f:List Expr×Nat×Pos->Bool} {C:Expr->Prop} (h:(rP x).any f=true) (k:∀ xs k p,f (xs,k,p)=true->C (.Tuple xs k p)):C x:=
 if hi:x.ctorIdx=25 then Expr.Tuple.elim (motive_1:=fun x=>(rP x).any f=true->C x) x hi (fun xs j p h=>k xs j p h) h else by
  unfold rP at h; rw [dif_neg hi] at h; (injection h; done)
def Dt {f:List Expr×Pos->Bool} {C:Expr->Prop} (h:(xB x).any f=true) (k:∀ xs p,f (xs,p)=true->C (.List xs p)):C x:=
 if hi:x.ctorIdx=24 then Expr.List.elim (motive_1:=fun x=>(xB x).any f=true->C x) x hi (fun xs p h=>k xs p h) h else by
  unfold xB at h; rw [dif_neg hi] at h; (injection h; done)
def ym {f:Expr×Expr×Pos->Bool} {C:Expr->Prop} (h:(rQ x).any f=true) (k:∀ v s p,f (v,s,p)=true->C (.Subscript v s p)):C x:=
 if hi:x.ctorIdx=21 then Expr.Subscript.elim (motive_1:=fun x=>(rQ x).any f=true->C x) x hi (fun v s p h=>k v s p h) h else by
  unfold rQ at h; rw [dif_neg hi] at h; (injection h; done)
def DP {f:Option Expr×Option Expr×Option Expr×Pos->Bool} {C:Expr->Prop} (h:(y5 x).any f=true) (k:∀ l u st p,f (l,u,st,p)=true->C (.Slice l u st p)):C x:=
 if hi:x.ctorIdx=26 then Expr.Slice.elim (motive_1:=fun x=>(y5 x).any f=true->C x) x hi (fun l u st p h=>k l u st p h) h else by
  unfold y5 at h; rw [dif_neg hi] at h; (injection h; done)
def uq {f:Expr×List Expr×List Keyword×Pos->Bool} {C:Expr->Prop} (h:(iS x).any f=true) (k:∀ u xs ks p,f (u,xs,ks,p)=true->C (.Call u xs ks p)):C x:=
 if hi:x.ctorIdx=16 then Expr.Call.elim (motive_1:=fun x=>(iS x).any f=true->C x) x hi (fun u xs ks p h=>k u xs ks p h) h else by
  unfold iS at h; rw [dif_neg hi] at h; (injection h; done)
def ur {f:Expr×Str×Pos->Bool} {C:Expr->Prop} (h:(kP x).any f=true) (k:∀ o n q,f (o,n,q)=true->C (.Attribute o n q)):C x:=
 if hi:x.ctorIdx=20 then Expr.Attribute.elim (motive_1:=fun x=>(kP x).any f=true->C x) x hi (fun o n q h=>k o n q h) h else by
  unfold kP at h; rw [dif_neg hi] at h; (injection h; done)
def Cn {f:List (Option Expr)×List Expr×Pos->Bool} {C:Expr->Prop} (h:(ul x).any f=true) (k:∀ ks vs p,f (ks,vs,p)=true->C (.Dict ks vs p)):C x:=
 if hi:x.ctorIdx=6 then Expr.Dict.elim (motive_1:=fun x=>(ul x).any f=true->C x) x hi (fun ks vs p h=>k ks vs p h) h else by
  unfold ul at h; rw [dif_neg hi] at h; (injection h; done)
theorem Ev.evC (h:Ev Φ t d):EvC Φ false t d:=fun K s hd I E=>wpAny_mono (h K s hd I E) (fun U U p=>⟨p,nofun⟩) fun U U z=>z
theorem EvN.evC (h:EvN Φ t d):EvC Φ b t d:=fun K s hd I E=>wpAny_mono (h K s hd I E) (fun U U p=>⟨p.1,fun U=>p.2⟩) fun U U z=>z
@[elab_as_elim] theorem l1 {α:Type} {xs:List α} {f:α->Bool} {C:List α->Prop} (h:(kr xs).any f=true) (k:∀ y,f y=true->C [y]):C xs:=by
 match xs,h with
 | [],h=>(injection h; done)
 | [y],h=>exact k y h
 | _ :: _ :: _,h=>(injection h; done)
@[elab_as_elim] theorem l2 {α:Type} {xs:List α} {f:α×α->Bool} {C:List α->Prop} (h:(two? xs).any f=true) (k:∀ y z,f (y,z)=true->C [y,z]):C xs:=by
 match xs,h with
 | [],h=>(injection h; done)
 | [y],h=>(injection h; done)
 | [y,z],h=>exact k y z h
 | _ :: _ :: _ :: _,h=>(injection h; done)
@[elab_as_elim] theorem ln {α:Type} {xs:List α} {C:List α->Prop} (h:xs.isEmpty=true) (k:C []):C xs:=by
 cases xs with
 | nil=>exact k
 | cons=>(injection h; done)
def a2 (h:(a&&b)=true):a=true/\b=true:=zA2 h
def gQ (h:o.any f=true):∃ a,o=some a/\f a=true:=by
 cases o with
 | none=>(injection h; done)
 | some a=>exact ⟨a,rfl,h⟩
def vE (h:zx x y=true):y=x:=by
 cases x with
 | int i=>cases y with | int j=>rw [eq_of_beq h] | _=>(injection h; done)
 | str s=>cases y with | str t=>rw [eq_of_beq h] | _=>(injection h; done)
 | _=>(injection h; done)
def wO {f:Const×Nat×Pos->Bool} {C:Expr->Prop} (h:(kq x).any f=true) (k:∀ c k p,f (c,k,p)=true->C (.Constant c k p)):C x:=
 if hi:x.ctorIdx=19 then Expr.Constant.elim (motive_1:=fun x=>(kq x).any f=true->C x) x hi (fun c j p h=>k c j p h) h else by
  unfold kq at h; rw [dif_neg hi] at h; (injection h; done)
def DS {f:Expr×Operator×Expr×Pos->Bool} {C:Expr->Prop} (h:(y8 x).any f=true) (k:∀ l o r p,f (l,o,r,p)=true->C (.BinOp l o r p)):C x:=
 if hi:x.ctorIdx=2 then Expr.BinOp.elim (motive_1:=fun x=>(y8 x).any f=true->C x) x hi (fun l o r p h=>k l o r p h) h else by
  unfold y8 at h; rw [dif_neg hi] at h; (injection h; done)
def Dv {f:Expr×List CmpOp×List Expr×Pos->Bool} {C:Expr->Prop} (h:(xD x).any f=true) (k:∀ l o r p,f (l,o,r,p)=true->C (.Compare l o r p)):C x:=
 if hi:x.ctorIdx=15 then Expr.Compare.elim (motive_1:=fun x=>(xD x).any f=true->C x) x hi (fun l o r p h=>k l o r p h) h else by
  unfold xD at h; rw [dif_neg hi] at h; (injection h; done)
def zA {f:BoolOp×List Expr×Pos->Bool} {C:Expr->Prop} (h:(qd x).any f=true) (k:∀ o xs p,f (o,xs,p)=true->C (.BoolOp o xs p)):C x:=
 if hi:x.ctorIdx=0 then Expr.BoolOp.elim (motive_1:=fun x=>(qd x).any f=true->C x) x hi (fun o xs p h=>k o xs p h) h else by
  unfold qd at h; rw [dif_neg hi] at h; (injection h; done)
def lUn {f:UnaryOp×Expr×Pos->Bool} {C:Expr->Prop} (h:(vUn x).any f=true) (k:∀ o y p,f (o,y,p)=true->C (.UnaryOp o y p)):C x:=
 if hi:x.ctorIdx=3 then Expr.UnaryOp.elim (motive_1:=fun x=>(vUn x).any f=true->C x) x hi (fun o y p h=>k o y p h) h else by
  unfold vUn at h; rw [dif_neg hi] at h; (injection h; done)
def lIf {f:Expr×Expr×Expr×Pos->Bool} {C:Expr->Prop} (h:(vIf x).any f=true) (k:∀ t y z p,f (t,y,z,p)=true->C (.IfExp t y z p)):C x:=
 if hi:x.ctorIdx=5 then Expr.IfExp.elim (motive_1:=fun x=>(vIf x).any f=true->C x) x hi (fun t y z p h=>k t y z p h) h else by
  unfold vIf at h; rw [dif_neg hi] at h; (injection h; done)
def zz {f:Expr×List Comprehension×Scope×Pos->Bool} {C:Expr->Prop} (h:(pZ x).any f=true) (k:∀ y gs sc p,f (y,gs,sc,p)=true->C (.ListComp y gs sc p)):C x:=
 if hi:x.ctorIdx=8 then Expr.ListComp.elim (motive_1:=fun x=>(pZ x).any f=true->C x) x hi (fun y gs sc p h=>k y gs sc p h) h else by
  unfold pZ at h; rw [dif_neg hi] at h; (injection h; done)
def iF {f:List Expr->Bool} {C:Expr->Prop} (h:nCall X nm x f=true) (k:∀ q xs p,br X.sc nm=true->f xs=true->C (.Call (.Name nm q) xs [] p)):C x:=
 uq (by unfold nCall at h; exact h) fun u xs ks p h=>bp (C:=fun u=>C (.Call u xs ks p)) h fun n q h=>by
  have e:n=nm:=eq_of_beq (a2 h).1;subst e;exact ln (C:=fun ks=>C (.Call (.Name n q) xs ks p)) (a2 (a2 (a2 h).2).2).1 (k q xs p (a2 (a2 h).2).1 (a2 (a2 (a2 h).2).2).2)
def dS {f:Expr->Bool} {C:Expr->Prop} (h:fc X nm x f=true) (k:∀ q y p,br X.sc nm=true->f y=true->C (.Call (.Name nm q) [y] [] p)):C x:=
 iF h fun q xs p hg h=>l1 (C:=fun xs=>C (.Call (.Name nm q) xs [] p)) h fun y h=>k q y p hg h
def kH {f:Expr->Str->List Expr->Bool} {C:Expr->Prop} (h:mCall x f=true) (k:∀ y nm q xs p,(q.endLine==p.line)=true->f y nm xs=true->C (.Call (.Attribute y nm q) xs [] p)):C x:=
 uq (by unfold mCall at h; exact h) fun u xs ks p h=>ur (C:=fun u=>C (.Call u xs ks p)) h fun y nm q h=>ln (C:=fun ks=>C (.Call (.Attribute y nm q) xs ks p)) (a2 h).1 (k y nm q xs p (a2 (a2 h).2).1 (a2 (a2 h).2).2)
def sG {k:List Kid->Bool} {C:Expr->Prop} (h:rd X k nm x=true) (f:∀ y q e p,(q.endLine==p.line)=true->ci y=true->aq e=true->k [(X,.val,y),(X,.val,e)]=true->C (.Call (.Attribute y nm q) [e] [] p)):C x:=
 kH h fun y n q xs p hl h=>by
  have e:n=nm:=eq_of_beq (a2 h).1;subst e;exact l1 (C:=fun xs=>C (.Call (.Attribute y n q) xs [] p)) (a2 (a2 h).2).2 fun z hz=>f y q z p hl (a2 (a2 h).2).1 (a2 hz).1 (a2 hz).2
def rV (hk:fx.env.scope.kind=.function):bU (aF fx scope C x x' Y)=(bU fx).comp scope x x':=by
 unfold Sx.comp bU;have:(aF fx scope C x x' Y).env.scope.names=ip fx.env.scope.names scope.names:=cX hk;rw [this];rfl
def eU (ok:FxOk fx) (h:jI (bU fx) scope x x'=true):CompOk fx scope x x':=by
 obtain ⟨h1,h⟩:=a2 h;obtain ⟨h2,h⟩:=a2 h;obtain ⟨h3,h⟩:=a2 h;obtain ⟨h5,h⟩:=a2 h;obtain ⟨h6,h⟩:=a2 h;obtain ⟨h7,h8⟩:=a2 h;have h5:=Qa.mp h5;have h6:=Qa.mp h6;have h7:=Qa.mp h7;have fr:∀ n,(n,NameKind.free)∈scope.names->(fx.env.kindOf n=some .cell\/fx.env.kindOf n=some .free)/\∃ k,fx.ρ.lookup n=some k:=fun n hn=>by
  rcases (or_eq_true _ _).mp (h7 _ hn) with q | q
  ·exact absurd rfl (bne_iff_ne.mp q)
  ·obtain ⟨q1,q2⟩:=a2 q;exact ⟨((or_eq_true _ _).mp q1).imp eq_of_beq eq_of_beq,isSome_iff_exists.mp q2⟩
 refine ⟨eq_of_beq h1,eq_of_beq h2,eq_of_beq h3,fun y hy=>bne_iff_ne.mp (h5 y hy),fun y hy hl=>((or_eq_true _ _).mp (h6 y hy)).elim (fun q=>absurd hl (bne_iff_ne.mp q)) eq_of_beq,fun n hn=>(fr n hn).1,fun n hn=>?_,of_decide_eq_true h8⟩;obtain ⟨q,k,hk⟩:=fr n hn;rcases ok.vis n k hk with ⟨z,_⟩ | ⟨_,c,hc,_⟩
 ·rcases q with q | q <;> rw [z] at q <;> cases q
 ·exact ⟨c,hc⟩
def kI {k:List Expr->Bool} {C:Expr->Prop} (h:cCall Z X f x k=true) (h':∀ n q xs p,Z.fns.lookup n=some f->br X.sc n=true->(X.hm=true->Z.safe f=true)->k xs=true->C (.Call (.Name n q) xs [] p)):C x:=
 uq (by unfold cCall at h; exact h) fun u xs ks p h=>bp (C:=fun u=>C (.Call u xs ks p)) h fun n q h=>by
  obtain ⟨h1,h⟩:=a2 h;obtain ⟨h2,h⟩:=a2 h;obtain ⟨h3,h⟩:=a2 h;exact ln (C:=fun ks=>C (.Call (.Name n q) xs ks p)) (a2 h).1 (h' n q xs p (eq_of_beq h1) h2 (fun e=>by rw [e] at h3; exact h3) (a2 h).2)
section
variable (Z:Zx) (o:Op) (k:List Kid->Bool) (X:Sx)
end
structure GOk (g:Gl) (Z:Zx):Prop where
 fns:g.fns=Z.fns
 cons:g.cons=Z.cons
 flds:g.flds=Z.flds
 clss:g.clss=Z.clss
 nc:g.nc=Z.nc
 sup:g.P.sup=Z.sup
 safe:g.safe=Z.safe
 newf:g.newf=Z.newf
 cf:g.fn Z.cf=g.C
 keep:∀ x f,Z.fns.lookup x=some f->keepIn g.K (.ref (g.fn f))=true
 meths:∀ x f,Z.meths.lookup x=some f->x∉g.flds/\findIn g.K (.ref g.C) x=some (some (.ref (g.fn f)))/\typeIn g.K (.ref (g.fn f))=some (.type "function")/\keepIn g.K (.ref (g.fn f))=true
section
variable {g:Gl} {n:Nat} {Z:Zx} {o:Op} {k:List Kid->Bool} {ds:List D} {fx:Fx} {x:Expr}
def fB (e:fx.hm=b) (h:(!b)=true):Hm fx:=⟨by rw [e]; cases b with | false=>rfl | true=>(injection h; done)⟩
def a2e {a b:Bool} {C:Prop} (h:(a&&b)=true) (k:a=true->b=true->C):C:=k (a2 h).1 (a2 h).2
def su {α β:Type} {o:Option α} {f:α->β} {K:β->Prop}:okK (o.map f) K=okK o fun a=>K (f a):=by cases o <;> rfl
def C5 (h:FxOk Φ.fx->Ev Φ t d):Ev Φ t d:=fun K s hd I=>h I.ok K s hd I
def qD (h:Kids fx.g fx.d (ifs.map fun x=>(bU fx,.test,x)) ts):∀ oa G,EvT ⟨fx,oa,G⟩ (dU ifs fx.env) (cw true ts G):=fun oa G=>by
 obtain ⟨qs,h1,h2⟩:=h.tests rfl rfl;have q:=oH (Φ:=⟨fx,oa,G⟩) (h2 oa G);rw [(h1 G).1,(h1 G).2,<- hO] at q;exact q
theorem fL:∀ xs:List Expr,evalEach xs env=xs.map fun x=>eval x env
 | []=>rfl
 | x :: r=>congrArg (eval x env :: ·) (fL r)
def lN (EA:(!xs.isEmpty)=true) (h:Kids fx.g fx.d (xs.map fun x=>(bU fx,.val,x)) ds):∀ oa G,Ev ⟨fx,oa,G⟩ (eval (.BoolOp (bop b) xs p) fx.env) (fun K=>cw b ds G fun c=>K (.bool c)):=fun oa G=>by
 obtain ⟨qs,h1,h2⟩:=h.vals rfl rfl;have q:=pD (Φ:=⟨fx,oa,G⟩) (b:=b) (pos:=p) (fun q m=>(h2 oa G q m).2) fun e=>by have:=(h1 G).1; rw [e] at this; rw [<- this] at EA; (injection EA; done)
 rw [show (qs G).map (fun q=>eval q.1 fx.env)=xs.map fun x=>eval x fx.env by rw [<- (h1 G).1,map_map]; rfl,(h1 G).2,<- hO] at q;have e:eval (.BoolOp (bop b) xs p) fx.env=boolOp p (bop b) (xs.map fun x=>eval x fx.env):=by
  rw [arm_eval_BoolOp,fL]
 rw [e];exact q
def Be (h:FxOk fx->ExB fx t Y):ExB fx t Y:=fun oa G K s hd I=>h I.ok oa G K s hd I
def jM (h:Kids fx.g fx.d (xs.map fun x=>(bU fx,.test,x)) ds):∀ oa G,EvT ⟨fx,oa,G⟩ (isTrue (.BoolOp (bop b) xs p) fx.env w) (cw b ds G):=fun oa G=>by
 obtain ⟨qs,h1,h2⟩:=h.tests rfl rfl;have q:=oI (Φ:=⟨fx,oa,G⟩) (b:=b) (h2 oa G);rw [(h1 G).1,(h1 G).2,<- hO] at q;exact q
def Vt (p:Pz):Prop:=p=.val\/p=.test
def gp (hp:Vt p) (h:aj fx .val x d) (e:isTrue x fx.env (eval x fx.env)=(do let v <- eval x fx.env; standAt x.pos; holding [v] (truthy v))):aj fx p x d:=by
 rcases hp with rfl | rfl
 ·exact h
 ·exact fun oa G=>yL (h oa G) e
def xu (fx:Fx) (b:Gs->V->Option Gs) (e:Expr) (ds:List D):Prop:=(∀ oa G,Ev ⟨fx,oa,G⟩ (eval e fx.env) (uz b ds G))/\∀ y py sp k,TgtOk fx.ρ fx.env y k->ExB fx (exec (.Assign [.Name y py] e sp) fx.env) (fun G K=>uz b ds G fun v=>K none (G.set k (.v v)))
def td {b:Gs->V->Option Gs} {EI it T:Expr} {ifs:List Expr} {scope:Scope} {p:Pos} {m m':Str} [Hm fx] (hT:FxOk fx->∀ oa G,nZ ⟨fx,oa,G⟩ scope T m m' b) (h1:jI (bU fx) scope m m'=true) (h3:bE it=true) (hk:Kids fx.g fx.d ((bU fx,.src false T,it) :: ((bU fx).comp scope m m',.val,EI) :: ifs.map fun x=>((bU fx).comp scope m m',.test,x)) ds) :
  xu fx b (.ListComp EI [⟨T,it,ifs,0⟩] scope p) ds:=by
 refine hk.nc (C:=fun ds=>xu fx b (.ListComp EI [⟨T,it,ifs,0⟩] scope p) ds) fun ds1 dr a b'=>b'.nc (C:=fun dr=>xu fx b (.ListComp EI [⟨T,it,ifs,0⟩] scope p) (ds1 :: dr)) fun de ts b' c=>?_;have he:FxOk fx->∀ C Y oa G,Ev ⟨aF fx scope C m m' Y,oa,G⟩ (eval EI (aF fx scope C m m' Y).env) (de G):=fun ok C Y oa G=>b' (aF fx scope C m m' Y) rfl rfl (rV ok.kind) oa G;have ht:FxOk fx->∀ C Y oa G,EvT ⟨aF fx scope C m m' Y,oa,G⟩ (dU ifs (aF fx scope C m m' Y).env) (cw true ts G):=fun ok C Y oa G=>qD (fx:=aF fx scope C m m' Y) (by rw [rV ok.kind]; exact c) oa G;exact ⟨fun oa G=>C5 fun ok=>sU (Φ:=⟨fx,oa,G⟩) (eU ok h1) (hT ok oa G) h3 (a fx rfl rfl rfl oa G) (he ok) (ht ok),fun y py sp k hy=>Be fun ok=>iO (py:=py) (eU ok h1) (hT ok) h3 (a fx rfl rfl rfl) (he ok) (ht ok) hy⟩
def tc {j:Nat} (hk:∀ ts,k ts=true->Kids fx.g fx.d ts ds) (h:lM Z (.comp j) k (bU fx) .val x=true):(aj fx .val x (bC (ao fx.g.P fx.d) (.comp j) ds)/\isTrue x fx.env (eval x fx.env)=(do let v <- eval x fx.env; standAt x.pos; holding [v] (truthy v)))/\∀ y py sp,aj fx (.asg y py sp) x (bC (ao fx.g.P fx.d) (.comp j) ds):=by
 refine a2e h fun hh h=>?_;have:Hm fx:=fB rfl hh;refine zz (C:=fun x=>(aj fx .val x _/\isTrue x fx.env (eval x fx.env)=(do let v <- eval x fx.env; standAt x.pos; holding [v] (truthy v)))/\∀ y py sp,aj fx (.asg y py sp) x _) h fun EI gs scope p h=>l1 (C:=fun gs=>(aj fx .val (.ListComp EI gs scope p) _/\isTrue (.ListComp EI gs scope p) fx.env _=_)/\∀ y py sp,aj fx (.asg y py sp) (.ListComp EI gs scope p) _) h fun c h=>?_;obtain ⟨T,it,ifs,Mp⟩:=c;refine a2e h fun e h=>?_;obtain rfl:Mp=0:=eq_of_beq e;refine bp (C:=fun T=>(aj fx .val (.ListComp EI [⟨T,it,ifs,0⟩] scope p) _/\_=_)/\∀ y py sp,aj fx (.asg y py sp) (.ListComp EI [⟨T,it,ifs,0⟩] scope p) _) h fun m pm h=>a2e h fun h1 h=>a2e h fun e h=>a2e h fun h3 hh=>?_;obtain rfl:=eq_of_beq e;have q:=td (b:=kA fx.nf) (p:=p) (fun ok oa G=>Bw (Φ:=⟨fx,oa,G⟩) (eU ok h1)) h1 h3 (hk _ hh);exact ⟨⟨q.1,rfl⟩,q.2⟩
def pK {js:List Nat} (hk:∀ ts,k ts=true->Kids fx.g fx.d ts ds) (h:lM Z (.compM js) k (bU fx) .val x=true):(aj fx .val x (bC (ao fx.g.P fx.d) (.compM js) ds)/\isTrue x fx.env (eval x fx.env)=(do let v <- eval x fx.env; standAt x.pos; holding [v] (truthy v)))/\∀ y py sp,aj fx (.asg y py sp) x (bC (ao fx.g.P fx.d) (.compM js) ds):=by
 refine a2e h fun hh h=>?_;have:Hm fx:=fB rfl hh;refine zz (C:=fun x=>(aj fx .val x _/\isTrue x fx.env (eval x fx.env)=(do let v <- eval x fx.env; standAt x.pos; holding [v] (truthy v)))/\∀ y py sp,aj fx (.asg y py sp) x _) h fun EI gs scope p h=>l1 (C:=fun gs=>(aj fx .val (.ListComp EI gs scope p) _/\isTrue (.ListComp EI gs scope p) fx.env _=_)/\∀ y py sp,aj fx (.asg y py sp) (.ListComp EI gs scope p) _) h fun c h=>?_;obtain ⟨T,it,ifs,Mp⟩:=c;refine a2e h fun e h=>?_;obtain rfl:Mp=0:=eq_of_beq e;refine yl (C:=fun T=>(aj fx .val (.ListComp EI [⟨T,it,ifs,0⟩] scope p) _/\_=_)/\∀ y py sp,aj fx (.asg y py sp) (.ListComp EI [⟨T,it,ifs,0⟩] scope p) _) h fun es kk tp h=>l2 (C:=fun es=>(aj fx .val (.ListComp EI [⟨.Tuple es kk tp,it,ifs,0⟩] scope p) _/\_=_)/\∀ y py sp,aj fx (.asg y py sp) (.ListComp EI [⟨.Tuple es kk tp,it,ifs,0⟩] scope p) _) h fun e1 e2 h=>?_;refine bp (C:=fun e1=>(aj fx .val (.ListComp EI [⟨.Tuple [e1,e2] kk tp,it,ifs,0⟩] scope p) _/\_=_)/\∀ y py sp,aj fx (.asg y py sp) (.ListComp EI [⟨.Tuple [e1,e2] kk tp,it,ifs,0⟩] scope p) _) h fun m pm h=>bp (C:=fun e2=>(aj fx .val (.ListComp EI [⟨.Tuple [.Name m pm,e2] kk tp,it,ifs,0⟩] scope p) _/\_=_)/\∀ y py sp,aj fx (.asg y py sp) (.ListComp EI [⟨.Tuple [.Name m pm,e2] kk tp,it,ifs,0⟩] scope p) _) h fun m' pm' h=>a2e h fun h1 h=>a2e h fun EA h=>a2e h fun e h=>a2e h fun h3 hh=>?_;obtain rfl:=eq_of_beq e;have EA:m'≠m:=fun q=>by subst q; rw [beq_self_eq_true] at EA; (injection EA; done)
 have q:=td (b:=aO [fx.nf,fx.nf+1]) (p:=p) (fun ok oa G=>Bv (Φ:=⟨fx,oa,G⟩) (eU ok h1) EA ok.offs) h1 h3 (hk _ hh);exact ⟨⟨q.1,rfl⟩,q.2⟩
noncomputable def DU (o:Op):Bool:=match o with
 | .tuple=>true
 | .listOf=>true
 | .sorted=>true
 | .sortedSet=>true
 | .call _=>true
 | .meth _=>true
 | _=>false
def nY (fx:Fx) (b:Bool) (x:Expr) (d:D):Prop:=∀ oa G,EvC ⟨fx,oa,G⟩ b (eval x fx.env) (d G)
def Nw (fx:Fx) (b:Bool) (x:Expr) (d:D):Prop:=nY fx b x d/\isTrue x fx.env (eval x fx.env)=(do let v <- eval x fx.env; standAt x.pos; holding [v] (truthy v))
def kR (H:GOk fx.g Z) (hk:∀ ts,k ts=true->Kids fx.g fx.d ts ds) (hn:DU o=true) (h:lM Z o k (bU fx) .val x=true) :
  Nw fx (Dm Z o) x (bC (ao fx.g.P fx.d) o ds):=by
 cases o with
 | tuple=>exact yl (C:=fun x=>Nw fx true x _) h fun xs j q h=>a2e h fun hl h=>⟨(hk _ h).node (f:=fun xs=>.Tuple xs j q) (op:=fun xs K=>okK (opN .tuple xs) K) rfl rfl hl fun oa G qs hq=>vU hq,rfl⟩
 | listOf=>exact dS (C:=fun x=>Nw fx true x _) h fun q y r hx h=>⟨(hk _ (a2 h).2).n1 (C:=fun ds=>nY fx true _ (bC _ .listOf ds)) fun d a oa G=>(ud (d:=d G) hx (a2 h).1 (a fx rfl rfl rfl oa G)).evC,rfl⟩
 | sorted=>exact dS (C:=fun x=>Nw fx true x _) h fun q y r hx h=>⟨(hk _ (a2 h).2).n1 (C:=fun ds=>nY fx true _ (bC _ .sorted ds)) fun d a oa G=>(uc (d:=d G) hx (a2 h).1 (a fx rfl rfl rfl oa G)).evC,rfl⟩
 | sortedSet=>
  refine a2e h fun hh h=>?_;have:Hm fx:=fB rfl hh;exact dS (C:=fun x=>Nw fx true x _) h fun q y r hx h=>⟨dS (C:=fun y=>nY fx true (.Call _ [y] [] r) _) h fun p1 z p2 hs h=>(hk _ (a2 h).2).n1 (C:=fun ds=>nY fx true _ (bC _ .sortedSet ds)) fun d a oa G=>(lX (Φ:=⟨fx,oa,G⟩) (d:=d G) hx hs (a2 h).1 (a fx rfl rfl rfl oa G)).evC,rfl⟩
 | call f=>
  refine kI (C:=fun x=>Nw fx (Z.newf f) x _) h fun n q xs r hf hx hs h=>⟨?_,rfl⟩;have q:=(hk _ (a2 h).2).node (nb:=fx.g.newf f) (f:=fun xs=>.Call (.Name n q) xs [] r) (op:=fun xs K=>ao fx.g.P fx.d f xs fun y=>noX y=true/\K y) rfl rfl (a2 h).1 fun oa G qs hq=>yP (Φ:=⟨fx,oa,G⟩) hx (H.fns▸hf) (H.keep _ _ hf) (fun e=>by rw [H.safe]; exact hs e) hq;rw [H.newf] at q;exact q
 | meth f=>
  refine kH (C:=fun x=>Nw fx (Z.newf f) x _) h fun y nm q xs r hl h=>a2e h fun hs h=>a2e h fun e h=>a2e h fun Fe h=>a2e h fun hm h=>?_;obtain ⟨m1,m2,m3,m4⟩:=H.meths _ _ (eq_of_beq hm);refine ln (C:=fun xs=>Nw fx (Z.newf f) (.Call _ xs [] r) _) e ⟨(hk _ h).n1 (C:=fun ds=>nY fx (Z.newf f) _ (bC _ (.meth f) ds)) fun d a oa G=>?_,rfl⟩;have q:=yM (Φ:=⟨fx,oa,G⟩) (d:=d G) hs hl m1 m2 m3 m4 (fun e=>by rw [H.safe]; have e:fx.hm=true:=e; have Fe:(!fx.hm||Z.safe f)=true:=Fe; rw [e] at Fe; exact Fe) (a fx rfl rfl rfl oa G);rw [H.newf] at q;exact q
 | _=>(injection hn; done)
def uk {p:Pz} (H:GOk fx.g Z) (hp:Vt p) (hk:∀ ts,k ts=true->Kids fx.g fx.d ts ds) (h:lM Z o k (bU fx) p x=true):aj fx p x (bC (ao fx.g.P fx.d) o ds):=by
 cases o with
 | lit v=>
  refine ((or_eq_true _ _).mp h).elim (fun h=>wO (C:=fun x=>aj fx p x _) h fun c j q h=>gp hp (fun oa G=>Bm (a2 h).1) rfl) fun h=>bp (C:=fun x=>aj fx p x _) h fun m q h=>a2e h fun hx h=>a2e h fun e h=>?_;obtain ⟨y,e1,e2⟩:=gQ e;obtain rfl:=vE e2;exact gp hp (fun oa G=>vZ hx (H.cons▸e1)) rfl
 | lend j=>
  refine (hk _ h).n1 (C:=fun ds=>aj fx p x (bC _ (.lend j) ds)) fun d a=>?_;rcases hp with rfl | rfl
  ·exact fun oa G K s hd I E=>ah hd fun l e hk=>wpAny_mono (a fx rfl rfl rfl _ _ _ s hk (Inv.freeze (Φ:=⟨fx,oa,G⟩) I (bY e)).1 E) (fun v s' ⟨B,k,y,hy,r⟩=>by cases y with
   | bool b=>exact r.bool_elim ⟨B,k,_,hy,.bool b⟩
   | _=>exact hy.elim) fun U U z=>z
  ·exact fun oa G K s hd I E=>ah hd fun l e hk=>wpAny_mono (a fx rfl rfl rfl _ _ K s hk (Inv.freeze (Φ:=⟨fx,oa,G⟩) I (bY e)).1 E) (fun _ _ ⟨B,k,y,hy,r⟩=>⟨B,k,y,hy,r⟩) fun U U z=>z
 | ite=>
  refine lIf (C:=fun x=>aj fx p x _) h fun c a b q h=>a2e h fun i h=>(hk _ h).n3 (C:=fun ds=>aj fx p _ (bC _ .ite ds)) fun d e f a b c=>?_;rcases hp with rfl | rfl
  ·exact fun oa G=>Bo (d1:=d G) (d2:=e G) (d3:=f G) (a fx rfl rfl rfl oa G) (b fx rfl rfl rfl oa G) (c fx rfl rfl rfl oa G)
  ·(injection i; done)
 | itemL j=>exact ym (C:=fun x=>aj fx p x _) h fun v s q h=>bp (C:=fun v=>aj fx p (.Subscript v s q) _) h fun m pm h=>a2e h fun h1 h=>a2e h fun h2 h=>gp hp ((hk _ h).n1 (C:=fun ds=>aj fx .val _ (bC _ (.itemL j) ds)) fun d a oa G=>vV (Φ:=⟨fx,oa,G⟩) (d:=d G) (eq_of_beq h1) h2 (a fx rfl rfl rfl oa G)) rfl
 | tupleOf=>exact iF (C:=fun x=>aj fx p x _) h fun q xs r hx h=>gp hp (fun oa G=>((hk _ (a2 h).2).node (nb:=false) (f:=fun xs=>.Call (.Name "tuple" q) xs [] r) (op:=fun xs K=>okK (opN .tupleOf xs) K) rfl rfl (a2 h).1 (fun oa G qs hq=>(qS hx hq).evC) oa G).ev) rfl
 | isCls=>exact iF (C:=fun x=>aj fx p x _) h fun q xs r hx h=>l2 (C:=fun xs=>aj fx p (.Call _ xs [] r) _) h fun y z h=>a2e h fun hl h=>bp (C:=fun z=>aj fx p (.Call _ [y,z] [] r) _) h fun T pT h=>a2e h fun hT h=>a2e h fun hc hh=>gp hp ((hk _ hh).n1 (C:=fun ds=>aj fx .val _ (bC _ .isCls ds)) fun d a oa G=>vX (Φ:=⟨fx,oa,G⟩) (q:=(y,d G)) hx hT hl (H.fns▸eq_of_beq hc) H.cf (a fx rfl rfl rfl oa G)) rfl
 | compM js=>exact (pK (Z:=Z) hk h).1.elim fun a b=>gp hp a b
 | var j=>exact bp (C:=fun x=>aj fx p x _) h fun m q h=>a2e h fun e h=>gp hp (fun oa G=>Bi (eq_of_beq e) (a2 h).1) rfl
 | bin op=>
  refine DS (C:=fun x=>aj fx p x _) h fun l op' r q h=>a2e h fun e hh=>?_;obtain rfl:=of_decide_eq_true e;exact gp hp ((hk _ hh).n2 (C:=fun ds=>aj fx .val _ (bC _ (.bin op) ds)) fun d e a b oa G=>Bq (d1:=d G) (d2:=e G) (a fx rfl rfl rfl oa G) (b fx rfl rfl rfl oa G)) rfl
 | cmp c=>
  refine Dv (C:=fun x=>aj fx p x _) h fun l ops rs q h=>l1 (C:=fun ops=>aj fx p (.Compare l ops rs q) _) h fun c' h=>a2e h fun e hh=>?_;obtain rfl:=of_decide_eq_true e;refine l1 (C:=fun rs=>aj fx p (.Compare l _ rs q) _) hh fun r h=>a2e h fun hs h=>(hk _ h).n2 (C:=fun ds=>aj fx p _ (bC _ (.cmp c) ds)) fun d e a b=>?_;rcases hp with rfl | rfl
  ·exact fun oa G=>wX (d1:=d G) (d2:=e G) hs (a fx rfl rfl rfl oa G) (b fx rfl rfl rfl oa G)
  ·exact fun oa G=>uT (d1:=d G) (d2:=e G) hs (a fx rfl rfl rfl oa G) (b fx rfl rfl rfl oa G)
 | chain lt=>
  refine Dv (C:=fun x=>aj fx p x _) h fun l ops rs q h=>l2 (C:=fun ops=>aj fx p (.Compare l ops rs q) _) h fun c c' h=>a2e h fun e h=>a2e h fun e' hh=>?_;obtain rfl:=of_decide_eq_true e;obtain rfl:=of_decide_eq_true e';refine l2 (C:=fun rs=>aj fx p (.Compare l _ rs q) _) hh fun r r' h=>a2e h fun hs h=>(hk _ h).n3 (C:=fun ds=>aj fx p _ (bC _ (.chain lt) ds)) fun d e f a b c=>?_;rcases hp with rfl | rfl
  ·exact fun oa G=>v0 (d1:=d G) (d2:=e G) (d3:=f G) hs (a fx rfl rfl rfl oa G) (b fx rfl rfl rfl oa G) (c fx rfl rfl rfl oa G)
  ·exact fun oa G=>qg (d1:=d G) (d2:=e G) (d3:=f G) hs (a fx rfl rfl rfl oa G) (b fx rfl rfl rfl oa G) (c fx rfl rfl rfl oa G)
 | and=>
  refine zA (C:=fun x=>aj fx p x _) h fun b xs q h=>a2e h fun e h=>a2e h fun hn hh=>?_;obtain rfl:=of_decide_eq_true e;rcases hp with rfl | rfl
  ·exact lN (b:=true) hn (hk _ hh)
  ·exact jM (b:=true) (hk _ hh)
 | or=>
  refine zA (C:=fun x=>aj fx p x _) h fun b xs q h=>a2e h fun e h=>a2e h fun hn hh=>?_;obtain rfl:=of_decide_eq_true e;rcases hp with rfl | rfl
  ·exact lN (b:=false) hn (hk _ hh)
  ·exact jM (b:=false) (hk _ hh)
 | not=>
  refine lUn (C:=fun x=>aj fx p x _) h fun u y q h=>a2e h fun e hh=>?_;obtain rfl:=of_decide_eq_true e;refine (hk _ hh).n1 (C:=fun ds=>aj fx p _ (bC _ .not ds)) fun d a=>?_;rcases hp with rfl | rfl
  ·exact fun oa G=>Bk (d:=d G) (a fx rfl rfl rfl oa G)
  ·exact fun oa G=>uR (d:=d G) (a fx rfl rfl rfl oa G)
 | neg=>
  refine lUn (C:=fun x=>aj fx p x _) h fun u y q h=>a2e h fun e h=>a2e h fun i hh=>?_;obtain rfl:=of_decide_eq_true e;rcases hp with rfl | rfl
  ·exact (hk _ hh).n1 (C:=fun ds=>aj fx .val _ (bC _ .neg ds)) fun d a oa G=>Bl (d:=d G) (a fx rfl rfl rfl oa G)
  ·(injection i; done)
 | tuple=>exact (kR (o:=.tuple) H hk rfl h).elim fun a b=>gp hp (fun oa G=>(a oa G).ev) b
 | list=>exact Dt (C:=fun x=>aj fx p x _) h fun xs q h=>a2e h fun hl h=>gp hp (fun oa G=>((hk _ h).node (nb:=false) (f:=fun xs=>.List xs q) (op:=fun xs K=>okK (opN .list xs) K) rfl rfl hl (fun oa G qs hq=>(yN hq).evC) oa G).ev) rfl
 | sub=>exact ym (C:=fun x=>aj fx p x _) h fun v s q h=>gp hp ((hk _ h).n2 (C:=fun ds=>aj fx .val _ (bC _ .sub ds)) fun d e a b oa G=>Bj (d1:=d G) (d2:=e G) (a fx rfl rfl rfl oa G) (b fx rfl rfl rfl oa G)) rfl
 | slice bl bh=>
  refine ym (C:=fun x=>aj fx p x _) h fun v s q h=>DP (C:=fun s=>aj fx p (.Subscript v s q) _) h fun lo hi st q' h=>a2e h fun e0 h=>a2e h fun e1 h=>a2e h fun e2 hh=>?_;obtain rfl:=eq_of_beq e1;obtain rfl:=eq_of_beq e2;obtain rfl:st=none:=isNone_iff_eq_none.mp e0;refine gp hp ?_ rfl;cases lo with
  | none=>cases hi with
   | none=>exact (hk _ hh).n1 (C:=fun ds=>aj fx .val _ (bC _ (.slice false false) ds)) fun d a oa G=>gz (d1:=d G) (a fx rfl rfl rfl oa G) jF jF
   | some e'=>exact (hk _ hh).n2 (C:=fun ds=>aj fx .val _ (bC _ (.slice false true) ds)) fun d e a b oa G=>gz (d1:=d G) (a fx rfl rfl rfl oa G) jF (jE (d:=e G) (b fx rfl rfl rfl oa G))
  | some e'=>cases hi with
   | none=>exact (hk _ hh).n2 (C:=fun ds=>aj fx .val _ (bC _ (.slice true false) ds)) fun d e a b oa G=>gz (d1:=d G) (a fx rfl rfl rfl oa G) (jE (d:=e G) (b fx rfl rfl rfl oa G)) jF
   | some e'=>exact (hk _ hh).n3 (C:=fun ds=>aj fx .val _ (bC _ (.slice true true) ds)) fun d e f a b c oa G=>gz (d1:=d G) (a fx rfl rfl rfl oa G) (jE (d:=e G) (b fx rfl rfl rfl oa G)) (jE (d:=f G) (c fx rfl rfl rfl oa G))
 | attr j=>exact ur (C:=fun x=>aj fx p x _) h fun y nm q h=>a2e h fun hs h=>a2e h fun e h=>gp hp ((hk _ h).n1 (C:=fun ds=>aj fx .val _ (bC _ (.attr j) ds)) fun d a oa G=>yQ (Φ:=⟨fx,oa,G⟩) (d:=d G) hs (by rw [H.flds]; exact eq_of_beq e) (a fx rfl rfl rfl oa G)) rfl
 | comp j=>exact (tc (Z:=Z) hk h).1.elim fun a b=>gp hp a b
 | isinst t=>
  refine iF (C:=fun x=>aj fx p x _) h fun q xs r hx h=>l2 (C:=fun xs=>aj fx p (.Call _ xs [] r) _) h fun y z h=>a2e h fun hl h=>bp (C:=fun z=>aj fx p (.Call _ [y,z] [] r) _) h fun T pT h=>a2e h fun hT h=>a2e h fun ht hh=>?_;obtain ⟨T',e1,e2⟩:=gQ ht;have e2:T=ofString T':=eq_of_beq e2;subst e2;refine gp hp ((hk _ hh).n1 (C:=fun ds=>aj fx .val _ (bC _ (.isinst t) ds)) fun d a oa G=>?_) rfl;have z:=Bp (Φ:=⟨fx,oa,G⟩) (fp:=q) (pos:=r) (pT:=pT) (q:=(y,d G)) e1 hx hT hl (a fx rfl rfl rfl oa G);have e:(fun K=>d G fun x=>okK (isT x t) fun b=>K (.bool b))=bC (ao fx.g.P fx.d) (.isinst t) [d] G:=funext fun K=>congrArg (d G) (funext fun x=>su.symm);exact e▸z
 | len=>exact dS (C:=fun x=>aj fx p x _) h fun q y r hx h=>gp hp ((hk _ (a2 h).2).n1 (C:=fun ds=>aj fx .val _ (bC _ .len ds)) fun d a oa G=>Bn (q:=(y,d G)) hx ⟨(a2 h).1,a fx rfl rfl rfl oa G⟩) rfl
 | lenSet=>
  refine a2e h fun hh h=>?_;have:Hm fx:=fB rfl hh;exact dS (C:=fun x=>aj fx p x _) h fun q y r hx h=>gp hp (dS (C:=fun y=>aj fx .val (.Call _ [y] [] r) _) h fun p1 z p2 hs h=>(hk _ (a2 h).2).n1 (C:=fun ds=>aj fx .val _ (bC _ .lenSet ds)) fun d a oa G=>ue (Φ:=⟨fx,oa,G⟩) (d:=d G) hx hs (a2 h).1 (a fx rfl rfl rfl oa G)) rfl
 | isExc c tb=>
  refine iF (C:=fun x=>aj fx p x _) h fun q xs r hx h=>l2 (C:=fun xs=>aj fx p (.Call _ xs [] r) _) h fun y z h=>a2e h fun hl h=>bp (C:=fun z=>aj fx p (.Call _ [y,z] [] r) _) h fun T pT h=>a2e h fun hT h=>a2e h fun hc h=>a2e h fun ht hh=>?_;have hc:fx.g.clss.lookup T=some c\/(T="ValueError"/\c=fx.g.nc):=by
   rw [H.clss,H.nc];exact ((or_eq_true _ _).mp hc).imp eq_of_beq fun q=>⟨eq_of_beq (a2 q).1,eq_of_beq (a2 q).2⟩
  have ht:∀ e,e < fx.g.nc->tb[e]?=some (fx.g.P.sup e c):=fun e q=>by
   rw [H.sup];exact eq_of_beq (Qa.mp ht e (mem_range.mpr (H.nc▸q)))
  refine gp hp ((hk _ hh).n1 (C:=fun ds=>aj fx .val _ (bC _ (.isExc c tb) ds)) fun d a oa G=>?_) rfl;have z:=vW (Φ:=⟨fx,oa,G⟩) (fp:=q) (pos:=r) (pT:=pT) (q:=(y,d G)) hx hT hl hc ht (a fx rfl rfl rfl oa G);have e:(fun K=>d G fun x=>okK ((mL x).bind fun e=>tb[e]?) fun b=>K (.bool b))=bC (ao fx.g.P fx.d) (.isExc c tb) [d] G:=funext fun K=>congrArg (d G) (funext fun x=>su.symm);exact e▸z
 | listOf=>exact (kR (o:=.listOf) H hk rfl h).elim fun a b=>gp hp (fun oa G=>(a oa G).ev) b
 | sorted=>exact (kR (o:=.sorted) H hk rfl h).elim fun a b=>gp hp (fun oa G=>(a oa G).ev) b
 | sortedSet=>exact (kR (o:=.sortedSet) H hk rfl h).elim fun a b=>gp hp (fun oa G=>(a oa G).ev) b
 | call f=>exact (kR (o:=.call f) H hk rfl h).elim fun a b=>gp hp (fun oa G=>(a oa G).ev) b
 | join=>exact sG (C:=fun x=>aj fx p x _) h fun y q e r hl hs he h=>gp hp ((hk _ h).n2 (C:=fun ds=>aj fx .val _ (bC _ .join ds)) fun d e a b oa G=>yO (d1:=d G) (d2:=e G) hs he hl (a fx rfl rfl rfl oa G) (b fx rfl rfl rfl oa G)) rfl
 | count=>exact sG (C:=fun x=>aj fx p x _) h fun y q e r hl hs he h=>gp hp ((hk _ h).n2 (C:=fun ds=>aj fx .val _ (bC _ .count ds)) fun d e a b oa G=>vY (d1:=d G) (d2:=e G) hs he hl (a fx rfl rfl rfl oa G) (b fx rfl rfl rfl oa G)) rfl
 | meth f=>exact (kR (o:=.meth f) H hk rfl h).elim fun a b=>gp hp (fun oa G=>(a oa G).ev) b
 | _=>(injection h; done)
end
section
variable {g:Gl} {n:Nat} {Z:Zx} {o:Op} {k:List Kid->Bool} {ds:List D} {fx:Fx} {x:Expr}
def tf {st:Bool} {op:List V->Option V} (h:BZ k (bU fx) f x=true) [Hm fx] (hk:∀ ts,k ts=true->Kids fx.g fx.d ts ds)
  (hs:∀ oa G fp pos (qs:List (Expr×DV)),br fx.env.scope.names f=true->(∀ q∈qs,aq q.1=true/\bj ⟨fx,oa,G⟩ q)->eV ⟨fx,oa,G⟩ T st (.Call (.Name f fp) (qs.map Prod.fst) [] pos) (fun K=>bv (qs.map Prod.snd) fun xs=>okK (op xs) fun z=>okK (bK z) K)) :
  ∀ oa G,eV ⟨fx,oa,G⟩ T st x (fun K=>bR ds G fun xs=>okK (op xs) fun z=>okK (bK z) K):=by
 refine iF (C:=fun x=>∀ oa G,eV ⟨fx,oa,G⟩ T st x (fun K=>bR ds G fun xs=>okK (op xs) fun z=>okK (bK z) K)) h fun q xs p hg h oa G=>?_;obtain ⟨qs,h1,h2⟩:=(hk _ (a2 h).2).items rfl rfl (a2 h).1;have z:=hs oa G q p (qs G) hg (h2 oa G);rw [(h1 G).1,(h1 G).2,<- j7] at z;exact z
def BC (H:GOk fx.g Z) (hk:∀ ts,k ts=true->Kids fx.g fx.d ts ds) (h:zY Z o k (bU fx) x=true):aj fx (.asg y py sp) x (bC (ao fx.g.P fx.d) o ds):=by
 exact ((or_eq_true _ _).mp h).elim (fun h=>a2e h fun hn h k hT=>lK (ch hn) hT (uk H (.inl rfl) hk h)) fun h=>a2e h fun hc h=>oy (C:=fun o=>lM Z o k (bU fx) .val x=true->aj fx (.asg y py sp) x (bC (ao fx.g.P fx.d) o ds)) hc (fun j h=>(tc hk h).2 y py sp) (fun j h=>(pK hk h).2 y py sp) h
def As {st:Bool} (H:GOk fx.g Z) (hk:∀ ts,k ts=true->Kids fx.g fx.d ts ds) (h:zX Z o k (bU fx) (.src st T) x=true):aj fx (.src st T) x (bC (ao fx.g.P fx.d) o ds):=by
 obtain ⟨hh,h'⟩:=a2 h;clear h;have h:=h';clear h';have:Hm fx:=fB rfl hh;have go:lM Z o k (bU fx) .val x=true->aj fx (.src st T) x (bC (ao fx.g.P fx.d) o ds):=fun h oa G=>B9 (Φ:=⟨fx,oa,G⟩) (uk H (.inl rfl) hk h oa G);cases o with
 | own j=>
  replace h:=a2 h;have hs:=h.1;replace h:=h.2;cases st with
  | true=>(injection hs; done)
  | false=>
   refine bp (C:=fun x=>aj fx (.src false T) x _) h fun m p h2=>?_;clear h;have h:=h2;clear h2;exact fun oa G=>xK (Φ:=⟨fx,oa,G⟩) (eq_of_beq (a2 h).1) (a2 (a2 h).2).1
 | range=>exact tf (op:=opN .range) h hk fun oa G fp pos qs hg hq=>tz (Φ:=⟨fx,oa,G⟩) hg hq
 | zip=>
  refine yl (C:=fun T=>aj fx (.src st T) x _) h fun es j p h2=>?_;clear h;have h:=h2;clear h2;exact tf (op:=opN .zip) h hk fun oa G fp pos qs hg hq=>xJ (Φ:=⟨fx,oa,G⟩) hg hq
 | _=>exact go h
def xY (H:GOk g Z) (hk:∀ ts,k ts=true->Kids g n ts ds) (h:zX Z o k t.1 t.2.1 t.2.2=true):d5 g n t (bC (ao g.P n) o ds):=fun fx hg hn hX=>by
 subst hg hn;obtain ⟨X,p,x⟩:=t;subst hX;cases p with
 | val=>exact uk H (.inl rfl) hk h
 | test=>exact uk H (.inr rfl) hk h
 | new=>exact a2e h fun hn h oa G=>((kR H hk (by cases o <;> first | rfl | (injection hn; done)) h).1 oa G).evN hn
 | src st T=>exact As H hk h
 | asg y py sp=>exact BC H hk h
def kS (g:Gl) (n:Nat) (cs:List Ck) (ds:List D):Prop:=∀ ts,qE cs ts=true->Kids g n ts ds
theorem kS.nil:kS g n [] []:=fun ts h=>by
 cases ts with
 | nil=>exact .nil
 | cons=>(injection h; done)
theorem kS.cons (h1:∀ t,c t=true->d5 g n t d) (h2:kS g n cs ds):kS g n (c :: cs) (d :: ds):=fun ts h=>by
 cases ts with
 | nil=>(injection h; done)
 | cons t r=>exact .cons (h1 t (a2 h).1) (h2 r (a2 h).2)
def DL (H:GOk g Z) (e:E):∀ t,yU Z e t=true->d5 g n t (ev (ao g.P n) e):=
 E.rec (motive_1:=fun e=>∀ t,yU Z e t=true->d5 g n t (ev (ao g.P n) e)) (motive_2:=fun es=>kS g n (E.rec_1 (motive_1:=fun U=>Ck) (motive_2:=fun U=>List Ck) (fun o U ih t=>zX Z o (qE ih) t.1 t.2.1 t.2.2) [] (fun U U i is=>i :: is) es) (E.rec_1 (motive_1:=fun U=>D) (motive_2:=fun U=>List D) (fun o U ih=>bC (ao g.P n) o ih) [] (fun U U i is=>i :: is) es))
  (fun o es ih t h=>xY H ih h) .nil (fun e es i is=>.cons i is) e
theorem zh (H:GOk g Z):∀ es:List E,kS g n (es.map (yU Z)) (es.map (ev (ao g.P n)))
 | []=>.nil
 | e :: r=>.cons (DL H e) (zh H r)
end
def iC (h:kQ (bU fx) m j=true):TgtOk fx.ρ fx.env m j:=
 ⟨eq_of_beq (a2 h).1,fun e=>by
  have h:=(a2 h).2;have e:(bU fx).sc.lookup m=some .free:=e;replace h:=e▸h; (injection h; done)⟩
theorem mn:∀ {es:List Expr} {js:List Nat},ny (bU fx) es js=true->TgtsOk fx.ρ fx.env es js
 | [],js,h=>ln (C:=fun js=>TgtsOk fx.ρ fx.env [] js) h .nil
 | t :: r,js,h=>bp (C:=fun t=>TgtsOk fx.ρ fx.env (t :: r) js) h fun m p h=>by
  cases js with
  | nil=>(injection h; done)
  | cons j q=>exact .cons (iC (a2 h).1) (mn (a2 h).2)
def qB {f:Expr->Expr->Pos->Bool} {C:Stmt->Prop} (h:kY x f=true) (k:∀ t v p,f t v p=true->C (.Assign [t] v p)):C x:=
 if hi:x.ctorIdx=5 then Stmt.Assign.elim (motive_2:=fun x=>kY x f=true->C x) x hi (fun ts v p h=>l1 (C:=fun ts=>C (.Assign ts v p)) h fun t h=>k t v p h) h else by
  unfold kY at h; replace h:=(dif_neg hi)▸h; (injection h; done)
def BS {f:Expr->Bool} {C:Stmt->Prop} (h:wk x f=true) (k:∀ e p,f e=true->C (.Expr e p)):C x:=
 if hi:x.ctorIdx=24 then Stmt.Expr.elim (motive_2:=fun x=>wk x f=true->C x) x hi (fun e p h=>k e p h) h else by
  unfold wk at h; replace h:=(dif_neg hi)▸h; (injection h; done)
def BR {f:Expr->Bool} {C:Stmt->Prop} (h:wj x f=true) (k:∀ e p,f e=true->C (.Return (some e) p)):C x:=
 if hi:x.ctorIdx=3 then Stmt.Return.elim (motive_2:=fun x=>wj x f=true->C x) x hi (fun e p h=>by
  cases e with
  | none=>(injection h; done)
  | some e=>exact k e p h) h else by
  unfold wj at h; replace h:=(dif_neg hi)▸h; (injection h; done)
def DR {f:Expr->List Stmt->List Stmt->Bool} {C:Stmt->Prop} (h:y6 x f=true) (k:∀ c a b p,f c a b=true->C (.If c a b p)):C x:=
 if hi:x.ctorIdx=12 then Stmt.If.elim (motive_2:=fun x=>y6 x f=true->C x) x hi (fun c a b p h=>k c a b p h) h else by
  unfold y6 at h; replace h:=(dif_neg hi)▸h; (injection h; done)
def Du {f:Expr->Expr->List Stmt->Bool} {C:Stmt->Prop} (h:xC x f=true) (k:∀ T it body p,f T it body=true->C (.For T it body [] p)):C x:=
 if hi:x.ctorIdx=9 then Stmt.For.elim (motive_2:=fun x=>xC x f=true->C x) x hi (fun T it body el p h=>ln (C:=fun el=>C (.For T it body el p)) (a2 h).1 (k T it body p (a2 h).2)) h else by
  unfold xC at h; replace h:=(dif_neg hi)▸h; (injection h; done)
def lRs {f:Expr->Bool} {C:Stmt->Prop} (h:vRs x f=true) (k:∀ e p,f e=true->C (.Raise (some e) none p)):C x:=
 if hi:x.ctorIdx=16 then Stmt.Raise.elim (motive_2:=fun x=>vRs x f=true->C x) x hi (fun e c p h=>by
  have h:(c.isNone&&e.any f)=true:=h;obtain ⟨h1,h2⟩:=a2 h;obtain rfl:c=none:=isNone_iff_eq_none.mp h1;obtain ⟨e',rfl,h3⟩:=gQ h2;exact k e' p h3) h else by
  unfold vRs at h; replace h:=(dif_neg hi)▸h; (injection h; done)
def DO {f:Stmt->Option Expr->Option Str->List Stmt->Bool} {C:Stmt->Prop} (h:y4 x f=true) (k:∀ b t n hb hp p,f b t n hb=true->C (.Try [b] [.ExceptHandler t n hb hp] [] [] p)):C x:=
 if hi:x.ctorIdx=17 then Stmt.Try.elim (motive_2:=fun x=>y4 x f=true->C x) x hi (fun bd hs el fi p h=>ln (C:=fun el=>C (.Try bd hs el fi p)) (a2 h).1 (ln (C:=fun fi=>C (.Try bd hs [] fi p)) (a2 (a2 h).2).1 (l1 (C:=fun bd=>C (.Try bd hs [] [] p)) (a2 (a2 h).2).2 fun b h=>l1 (C:=fun hs=>C (.Try [b] hs [] [] p)) h fun hd h=>by
  obtain ⟨t,n,hb,hp⟩:=hd;exact k b t n hb hp p h))) h else by
  unfold y4 at h; replace h:=(dif_neg hi)▸h; (injection h; done)
def Cm {α:Type} {xs:List α} {f:α×α×α×α->Bool} {C:List α->Prop} (h:(y7 xs).any f=true) (k:∀ a b c d,f (a,b,c,d)=true->C [a,b,c,d]):C xs:=by
 rcases xs with _ | ⟨a,_ | ⟨b,_ | ⟨c,_ | ⟨d,_ | ⟨e,xs⟩⟩⟩⟩⟩
 ·exact nB h
 ·exact nB h
 ·exact nB h
 ·exact nB h
 ·exact k a b c d h
 ·exact nB h
def DQ {C:Expr->Prop} (h:Dh (bU fx) i x=true) (k:∀ n np ap pp,(ap.endLine==pp.line)=true->fx.ρ.lookup n=some i->aV n=true->C (.Call (.Attribute (.Name n np) "pop" ap) [] [] pp)):C x:=
 kH (C:=C) h fun y nm q xs p hl h=>a2e h fun e hh=>a2e hh fun h1 h2=>by
  have e:nm="pop":=eq_of_beq e;clear h hh;subst e;exact ln (C:=fun xs=>C (.Call _ xs [] p)) h1 (bp (C:=fun y=>C (.Call (.Attribute y _ q) [] [] p)) h2 fun m pm h=>k m pm q p hl (eq_of_beq (a2 h).1) (a2 h).2)
section
variable {g:Gl} {n:Nat} {Z:Zx} {o:SOp} {k:List Kid->Bool} {ds:List D} {fx:Fx} {ca cb:CkS} {YA YB:B}
def SOk (g:Gl) (n:Nat) (c:CkS) (Y:B):Prop:=∀ fx EF,fx.g=g->fx.d=n->FxTop fx->c (bU fx) EF=true->ExB fx (execs EF fx.env) Y
noncomputable abbrev w7 (W Y:B):B:=fun G K=>W G fun fl G'=>match fl with | none=>Y G' K | some x=>K (some x) G'
def MOk (g:Gl) (n:Nat) (c:CkM) (W:B):Prop:=∀ fx EF rest Y,fx.g=g->fx.d=n->FxTop fx->(∀ r,rest r=true->ExB fx (execs r fx.env) Y)->c (bU fx) EF rest=true->ExB fx (execs EF fx.env) (w7 W Y)
def jP (h:(cu xs&&k (xs.map fun x=>(bU fx,.val,x)))=true) (hk:∀ ts,k ts=true->Kids fx.g fx.d ts ds) {C:B->Prop} {W:List V->Gs->(Option V->Gs->Prop)->Prop}
  (f:∀ qs:Gs->List (Expr×DV),(∀ G,(qs G).map Prod.fst=xs)->(∀ oa G,∀ q∈qs G,aq q.1=true/\bj ⟨fx,oa,G⟩ q)->C (fun G K=>bv ((qs G).map Prod.snd) fun ys=>W ys G K)):C (fun G K=>bR ds G fun ys=>W ys G K):=by
 obtain ⟨qs,e1,e2⟩:=(hk _ (a2 h).2).items rfl rfl (a2 h).1;have z:=f qs (fun G=>(e1 G).1) e2;rwa [show (fun (G:Gs) (K:Option V->Gs->Prop)=>bv ((qs G).map Prod.snd) fun ys=>W ys G K)=fun G K=>bR ds G fun ys=>W ys G K from funext fun G=>funext fun K=>by rw [(e1 G).2,j7]] at z
def Ba (h:(!a||b)=true) (e:a=true):b=true:=by rw [e] at h; exact h
def xF (H:GOk fx.g Z) (top:FxTop fx) (hk:∀ ts,k ts=true->Kids fx.g fx.d ts ds) (ha:SOk fx.g fx.d ca YA) (hb:SOk fx.g fx.d cb YB) (h:xm Z o k ca cb (bU fx) x=true):ExB fx (exec x fx.env) (d7 fx.g.P.sup (ao fx.g.P fx.d) o ds YA YB):=by
 cases o with
 | assign j=>exact qB (C:=fun x=>ExB fx (exec x fx.env) _) h fun t v p h=>bp (C:=fun t=>ExB fx (exec (.Assign [t] v p) fx.env) _) h fun m q h=>(hk _ (a2 h).2).n1 (C:=fun ds=>ExB fx _ (d7 _ _ (.assign j) ds YA YB)) fun d a=>a fx rfl rfl rfl j (iC (a2 h).1)
 | assignM js=>
  refine a2e h fun hh h=>?_;have:Hm fx:=fB rfl hh;exact qB (C:=fun x=>ExB fx (exec x fx.env) _) h fun t v p h=>yl (C:=fun t=>ExB fx (exec (.Assign [t] v p) fx.env) _) h fun es j q h=>a2e h fun h1 h=>(hk _ (a2 h).2).n1 (C:=fun ds=>ExB fx _ (d7 _ _ (.assignM js) ds YA YB)) fun d a=>qR (a2 h).1 (mn h1) (a fx rfl rfl rfl)
 | ownL j=>exact qB (C:=fun x=>ExB fx (exec x fx.env) _) h fun t v p h=>bp (C:=fun t=>ExB fx (exec (.Assign [t] v p) fx.env) _) h fun m q h=>a2e h fun h1 h=>Dt (C:=fun v=>ExB fx (exec (.Assign [_] v p) fx.env) _) h fun xs q' h=>jP (C:=fun Y=>ExB fx _ Y) (W:=fun xs G K=>xs.length<=am/\K none (G.set j (.ownL xs))) h hk fun qs e1 e2=>yI (iC h1) e1 e2
 | setAttr i j=>exact qB (C:=fun x=>ExB fx (exec x fx.env) _) h fun t v p h=>ur (C:=fun t=>ExB fx (exec (.Assign [t] v p) fx.env) _) h fun u nm q h=>bp (C:=fun u=>ExB fx (exec (.Assign [.Attribute u nm q] v p) fx.env) _) h fun m q' h=>a2e h fun h1 h=>a2e h fun h2 h=>a2e h fun h3 h=>a2e h fun h4 h=>(hk _ h).n1 (C:=fun ds=>ExB fx _ (d7 _ _ (.setAttr i j) ds YA YB)) fun d a=>qP (eq_of_beq h1) h2 (by rw [H.flds]; exact eq_of_beq h3) h4 (a fx rfl rfl rfl)
 | setAttrN i j=>exact qB (C:=fun x=>ExB fx (exec x fx.env) _) h fun t v p h=>ur (C:=fun t=>ExB fx (exec (.Assign [t] v p) fx.env) _) h fun u nm q h=>bp (C:=fun u=>ExB fx (exec (.Assign [.Attribute u nm q] v p) fx.env) _) h fun m q' h=>a2e h fun h1 h=>a2e h fun h2 h=>a2e h fun h3 h=>a2e h fun h4 h=>(hk _ h).n1 (C:=fun ds=>ExB fx _ (d7 _ _ (.setAttrN i j) ds YA YB)) fun d a=>oA (eq_of_beq h1) h2 (by rw [H.flds]; exact eq_of_beq h3) h4 (a fx rfl rfl rfl)
 | call f=>exact BS (C:=fun x=>ExB fx (exec x fx.env) _) h fun e p h=>kI (C:=fun e=>ExB fx (exec (.Expr e p) fx.env) _) h fun n q xs r hf hx hs h=>jP (C:=fun Y=>ExB fx _ Y) (W:=fun xs G K=>ao fx.g.P fx.d f xs fun y=>if noX y=true then isNone y=true/\K none G else K (some y) G) h hk fun qs e1 e2=>yK e1 hx (H.fns▸hf) (H.keep _ _ hf) (fun e=>by rw [H.safe]; exact hs e) e2
 | append j=>
  refine BS (C:=fun x=>ExB fx (exec x fx.env) _) h fun e p h=>kH (C:=fun e=>ExB fx (exec (.Expr e p) fx.env) _) h fun y nm q xs r hl h=>a2e h fun e h=>a2e h fun h1 hh=>?_;have e:nm="append":=eq_of_beq e;subst e;exact bp (C:=fun y=>ExB fx (exec (.Expr (.Call (.Attribute y _ q) xs [] r) p) fx.env) _) hh fun m pm h2=>l1 (C:=fun xs=>ExB fx (exec (.Expr (.Call _ xs [] r) p) fx.env) _) h1 fun y h=>(hk _ (a2 h).2).n1 (C:=fun ds=>ExB fx _ (d7 _ _ (.append j) ds YA YB)) fun d a=>t9 (eq_of_beq (a2 h2).1) (a2 h2).2 (a2 h).1 hl (a fx rfl rfl rfl)
 | extend j=>
  refine BS (C:=fun x=>ExB fx (exec x fx.env) _) h fun e p h=>kH (C:=fun e=>ExB fx (exec (.Expr e p) fx.env) _) h fun y nm q xs r hl h=>a2e h fun e h=>a2e h fun h1 hh=>?_;have e:nm="extend":=eq_of_beq e;subst e;exact bp (C:=fun y=>ExB fx (exec (.Expr (.Call (.Attribute y _ q) xs [] r) p) fx.env) _) hh fun m pm h2=>l1 (C:=fun xs=>ExB fx (exec (.Expr (.Call _ xs [] r) p) fx.env) _) h1 fun y h=>(hk _ (a2 h).2).n1 (C:=fun ds=>ExB fx _ (d7 _ _ (.extend j) ds YA YB)) fun d a=>t8 (eq_of_beq (a2 h2).1) (a2 h2).2 (a2 h).1 hl (a fx rfl rfl rfl)
 | ret=>
  refine BR (C:=fun x=>ExB fx (exec x fx.env) _) h fun e p h=>?_;cases Fi:fx.nw with
  | true=>rw [show (bU fx).nw=true from Fi] at h; exact (hk _ h).n1 (C:=fun ds=>ExB fx _ (d7 _ _ .ret ds YA YB)) fun d a=>yF (a fx rfl rfl rfl)
  | false=>rw [show (bU fx).nw=false from Fi] at h; exact (hk _ h).n1 (C:=fun ds=>ExB fx _ (d7 _ _ .ret ds YA YB)) fun d a=>Bf Fi (a fx rfl rfl rfl)
 | retC f=>exact BR (C:=fun x=>ExB fx (exec x fx.env) _) h fun e p h=>a2e h fun Fi h=>kI (C:=fun e=>ExB fx (exec (.Return (some e) p) fx.env) _) h fun n q xs r hf hx hs h=>jP (C:=fun Y=>ExB fx _ Y) (W:=fun xs G K=>ao fx.g.P fx.d f xs fun y=>K (some y) G) h hk fun qs e1 e2=>yG e1 hx (H.fns▸hf) (H.keep _ _ hf) (fun e=>by rw [H.safe]; exact hs e) (not_eq_true' _▸Fi) e2
 | setL j=>exact qB (C:=fun x=>ExB fx (exec x fx.env) _) h fun t v p h=>ym (C:=fun t=>ExB fx (exec (.Assign [t] v p) fx.env) _) h fun u i sp h=>bp (C:=fun u=>ExB fx (exec (.Assign [.Subscript u i sp] v p) fx.env) _) h fun m q h=>a2e h fun h1 h=>a2e h fun h2 h=>a2e h fun h3 h=>(hk _ h).n2 (C:=fun ds=>ExB fx _ (d7 _ _ (.setL j) ds YA YB)) fun d e a b=>yD (eq_of_beq h1) h2 h3 (a fx rfl rfl rfl) (b fx rfl rfl rfl)
 | tryC f c j=>
  refine DO (C:=fun x=>ExB fx (exec x fx.env) _) h fun b t n Gc hp p h=>a2e h fun hh h=>?_;have:Hm fx:=fB rfl hh;obtain ⟨t,rfl,h⟩:=gQ h;refine bp (C:=fun t=>ExB fx (exec (.Try [b] [.ExceptHandler (some t) n Gc hp] [] [] p) fx.env) _) h fun C pC h=>a2e h fun h1 h=>a2e h fun h2 h=>?_;obtain ⟨n,rfl,h⟩:=gQ h;refine a2e h fun h3 h=>a2e h fun h4 h=>a2e h fun h5 h=>a2e h fun h6 h=>?_;refine BR (C:=fun b=>ExB fx (exec (.Try [b] _ [] [] p) fx.env) _) h fun e rp h=>a2e h fun Fi h=>kI (C:=fun e=>ExB fx (exec (.Try [.Return (some e) rp] _ [] [] p) fx.env) _) h fun G9 q xs r hf hx hs h=>?_;refine jP (C:=fun Y=>ExB fx _ Y) (W:=fun xs G K=>ao fx.g.P fx.d f xs fun y=>match mL y with
   | none=>K (some y) G
   | some d=>fx.g.P.sup d c=true/\YA (G.set j (.v y)) fun fl G'=>(match fl with | some x=>noX x=true | none=>False)/\K fl (G'.set j .unset)) h hk fun qs e1 e2=>?_
  exact yC top e1 hx (H.fns▸hf) (H.keep _ _ hf) (not_eq_true' _▸Fi) h1 (by rw [H.clss]; exact eq_of_beq h2) (eq_of_beq h3) (eq_of_beq h4) (fun e=>by replace h5:=e▸h5; (injection h5; done)) e2 fun A ef ed eu=>ha { fx with A:=A,hm:=true } _ rfl rfl (by obtain ⟨o,L,a,b⟩:=top.top; exact ⟨o,L,ef.trans a,b⟩) h6
 | ownD j=>exact qB (C:=fun x=>ExB fx (exec x fx.env) _) h fun t v p h=>bp (C:=fun t=>ExB fx (exec (.Assign [t] v p) fx.env) _) h fun m q h=>a2e h fun h1 h=>Cn (C:=fun v=>ExB fx (exec (.Assign [_] v p) fx.env) _) h fun ks vs q' h=>a2e h fun e1 h=>ln (C:=fun ks=>ExB fx (exec (.Assign [_] (.Dict ks vs q') p) fx.env) _) e1 (ln (C:=fun vs=>ExB fx (exec (.Assign [_] (.Dict [] vs q') p) fx.env) _) (a2 h).1 (yJ (iC h1)))
 | setD j=>exact qB (C:=fun x=>ExB fx (exec x fx.env) _) h fun t v p h=>ym (C:=fun t=>ExB fx (exec (.Assign [t] v p) fx.env) _) h fun u i sp h=>bp (C:=fun u=>ExB fx (exec (.Assign [.Subscript u i sp] v p) fx.env) _) h fun m q h=>a2e h fun h1 h=>a2e h fun h2 h=>a2e h fun h3 h=>(hk _ h).n2 (C:=fun ds=>ExB fx _ (d7 _ _ (.setD j) ds YA YB)) fun d e a b=>yE (eq_of_beq h1) h2 (a2 h3).1 (a fx rfl rfl rfl) (b fx rfl rfl rfl)
 | popC j i f=>
  refine a2e h fun hh h=>?_;have:Hm fx:=fB rfl hh;exact qB (C:=fun x=>ExB fx (exec x fx.env) _) h fun t v p h=>bp (C:=fun t=>ExB fx (exec (.Assign [t] v p) fx.env) _) h fun m q h=>a2e h fun h1 h=>kI (C:=fun v=>ExB fx (exec (.Assign [_] v p) fx.env) _) h fun G9 fq xs r hf hx hs h=>Cm (C:=fun xs=>ExB fx (exec (.Assign [_] (.Call _ xs [] r) p) fx.env) _) h fun a b c d h=>a2e h fun hp h=>a2e h fun Hu hkk=>DQ (C:=fun b=>ExB fx (exec (.Assign [_] (.Call _ [a,b,c,d] [] r) p) fx.env) _) hp fun n np ap pp hl Hw Ia=>(hk _ hkk).n3 (C:=fun ds=>ExB fx _ (d7 _ _ (.popC j i f) ds YA YB)) fun da dc dd g1 g2 g3=>
   yH (d1:=da) (q2:=fun G=>[(c,dc G),(d,dd G)]) (iC h1) hx (H.fns▸hf) (H.keep _ _ hf) (fun e=>by rw [H.safe]; exact hs e) Hw Ia hl (Qa.mp Hu a (.head _)) (g1 fx rfl rfl rfl) (fun U=>rfl) fun oa G=>zA1 ⟨⟨Qa.mp Hu c (.tail _ (.head _)),g2 fx rfl rfl rfl oa G⟩,forall_mem_singleton.mpr ⟨Qa.mp Hu d (.tail _ (.tail _ (.head _))),g3 fx rfl rfl rfl oa G⟩⟩
 | ite=>exact DR (C:=fun x=>ExB fx (exec x fx.env) _) h fun c a b p h=>a2e h fun h1 h=>(hk _ h1).n1 (C:=fun ds=>ExB fx _ (d7 _ _ .ite ds YA YB)) fun d q=>C3 (q fx rfl rfl rfl) (ha fx _ rfl rfl top (a2 h).1) (hb fx _ rfl rfl top (a2 h).2)
 | forS j=>
  refine a2e h fun hh h=>?_;have:Hm fx:=fB rfl hh;exact Du (C:=fun x=>ExB fx (exec x fx.env) _) h fun T it body p h=>a2e h fun h2 h=>a2e h fun h3 h=>bp (C:=fun T=>ExB fx (exec (.For T it body [] p) fx.env) _) h fun m q h=>(hk _ (a2 h).2).n1 (C:=fun ds=>ExB fx _ (d7 _ _ (.forS j) ds YA YB)) fun d a=>wV h2 (uY (iC (a2 h).1)) (a fx rfl rfl rfl) fun X=>ha (fx.mo X) _ rfl rfl ⟨top.top⟩ h3
 | forM js=>
  refine a2e h fun hh h=>?_;have:Hm fx:=fB rfl hh;exact Du (C:=fun x=>ExB fx (exec x fx.env) _) h fun T it body p h=>a2e h fun h2 h=>a2e h fun h3 h=>yl (C:=fun T=>ExB fx (exec (.For T it body [] p) fx.env) _) h fun es j q h=>(hk _ (a2 h).2).n1 (C:=fun ds=>ExB fx _ (d7 _ _ (.forM js) ds YA YB)) fun d a=>wV h2 (uX (mn (a2 h).1)) (a fx rfl rfl rfl) fun X=>ha (fx.mo X) _ rfl rfl ⟨top.top⟩ h3
 | raise c=>
  refine a2e h fun hh h=>?_;have:Hm fx:=fB rfl hh;refine lRs (C:=fun x=>ExB fx (exec x fx.env) _) h fun e p h=>uq (C:=fun e=>ExB fx (exec (.Raise (some e) none p) fx.env) _) h fun u xs ks r h=>bp (C:=fun u=>ExB fx (exec (.Raise (some (.Call u xs ks r)) none p) fx.env) _) h fun n q h=>a2e h fun h1 h=>a2e h fun h2 h=>a2e h fun h3 h=>ln (C:=fun ks=>ExB fx (exec (.Raise (some (.Call _ xs ks r)) none p) fx.env) _) h3 (l1 (C:=fun xs=>ExB fx (exec (.Raise (some (.Call _ xs [] r)) none p) fx.env) _) h fun z h=>wO (C:=fun z=>ExB fx (exec (.Raise (some (.Call _ [z] [] r)) none p) fx.env) _) h fun c' kk cp e=>?_);cases c' with
  | str t=>exact vT h1 (by rw [H.clss]; exact eq_of_beq h2)
  | _=>(injection e; done)
 | _=>(injection h; done)
def ye (H:GOk g Z) (hk:∀ ts,k ts=true->Kids g n ts ds) (ha:SOk g n ca YA) (hb:SOk g n cb YB):MOk g n (xn Z o k ca cb) (d7 g.P.sup (ao g.P n) o ds YA YB):=fun fx EF rest Y hg hn top hr h=>by
 subst hg hn;have go:∀ {o:SOp},Dk (xm Z o k ca cb (bU fx)) rest EF=true->ExB fx (execs EF fx.env) (w7 (d7 fx.g.P.sup (ao fx.g.P fx.d) o ds YA YB) Y):=fun {o} h=>by
  cases EF with
  | nil=>(injection h; done)
  | cons x r=>exact ex_cons (xF H top hk ha hb (a2 h).1) (hr r (a2 h).2)
 cases o with
 | freeze j=>exact t7 (hr EF h)
 | freezeD j=>exact qQ (hr EF h)
 | _=>exact go h
def wC:SOk g n (fun U EF=>EF.isEmpty) (fun G K=>K none G):=fun fx EF U U U h=>ln (C:=fun EF=>ExB fx (execs EF fx.env) _) h Bh
def wn (h1:MOk g n c W) (h2:SOk g n is Y):SOk g n (fun X EF=>c X EF (is X)) (w7 W Y):=fun fx EF hg hn top h=>h1 fx EF (is (bU fx)) Y hg hn top (fun r q=>h2 fx r hg hn top q) h
def DK (H:GOk g Z) (s:S):MOk g n (BY Z s) (ex g.P.sup (ao g.P n) s):=
 S.rec (motive_1:=fun s=>MOk g n (BY Z s) (ex g.P.sup (ao g.P n) s))
  (motive_2:=fun l=>SOk g n (S.rec_1 (motive_1:=fun U=>CkM) (motive_2:=fun U=>CkS) (fun o es U U a b X EF rest=>xn Z o (qE (es.map (yU Z))) a b X EF rest) (fun U EF=>EF.isEmpty) (fun U U i is X EF=>i X EF (is X)) l)
   (S.rec_1 (motive_1:=fun U=>B) (motive_2:=fun U=>B) (fun o es U U x y=>d7 g.P.sup (ao g.P n) o (es.map (ev (ao g.P n))) x y) (fun G K=>K none G) (fun U U i is G K=>i G fun fl G'=>match fl with | none=>is G' K | some x=>K (some x) G') l))
  (fun o es a b ha hb=>ye H (zh H es) ha hb) wC (fun s l i is=>wn i is) s
theorem zg (H:GOk g Z):∀ l:List S,SOk g n (chkSs Z l) (exs g.P.sup (ao g.P n) l)
 | []=>wC
 | s :: r=>wn (DK H s) (zg H r)
end
def di (h:Heap) (L:Addr):Prop:=∃ o,h.get? L=some o/\o.cls=.type "frame"
section
variable {M:Model} {A:Around} {E:Value->Shared->Prop} {s₀ s:Shared} {m cm:Str->Option Value} {env:Env}
def DI (x:InCallC s₀ env.locals m env.cells cm s) (fr:di s.heap env.locals) (hk:env.scope.kind=.function) (hl:env.kindOf n=some .local)
  (h:∀ s',InCallC s₀ env.locals (fun y=>if y=n then some v else m y) env.cells cm s'->di s'.heap env.locals->Q () s'):wpAny M A (storeName env n v) Q E s:=by
 rw [storeName_local hl (by rw [hk]; rfl)];refine fF x.toInCall.ns fun h' GA EQ ER=>h _ ⟨⟨?_,GA,fun b o e=>?_,x.toInCall.fresh⟩,fun k c hc=>?_,x.apart,x.above⟩ ?_
 ·obtain ⟨Ej,tk,rfl⟩:=x.toInCall.same;exact ⟨h',_,rfl⟩
 ·exact EQ.extBut b o (ne_of_lt (Q0 (lt_size e) x.toInCall.fresh)) (x.toInCall.keep b o e)
 ·exact (x.cell k c hc).sameBut EQ (ne_of_gt (x.above k c (mem_of_lookup hc)))
 ·obtain ⟨o,e,c⟩:=fr;obtain ⟨o',e',c'⟩:=ER o e;exact ⟨o',e',c'.trans c⟩
def DJ (x:InCallC s₀ env.locals m env.cells cm s) (fr:di s.heap env.locals) (hk:env.scope.kind=.function) (hl:env.kindOf n=some .cell)
  (hc:env.cells.lookup n=some c)
  (h:∀ s',InCallC s₀ env.locals m env.cells (fun y=>if y=n then some v else cm y) s'->di s'.heap env.locals->Q () s'):wpAny M A (storeName env n v) Q E s:=by
 have LW:=x.above n c (mem_of_lookup hc);refine wpAny_storeName_cell hk hl hc (x.cell n c hc) fun h' ER EQ=>h _ ⟨⟨?_,x.toInCall.ns.sameBut EQ (ne_of_lt LW),fun b o e=>?_,x.toInCall.fresh⟩,fun k c' E5=>?_,x.apart,x.above⟩ ?_
 ·obtain ⟨Ej,tk,rfl⟩:=x.toInCall.same;exact ⟨h',_,rfl⟩
 ·exact EQ.extBut b o (ne_of_lt (lt_trans (Q0 (lt_size e) x.toInCall.fresh) LW)) (x.toInCall.keep b o e)
 ·by_cases hkn:k=n
  ·subst hkn;rw [hc] at E5; (injection E5 with E5; subst E5);simpa using ER
  ·rw [if_neg hkn];exact (x.cell k c' E5).sameBut EQ fun e=>hkn (name_of_addr x.apart (mem_of_lookup E5) (e▸mem_of_lookup hc))
 ·obtain ⟨o,e,FB⟩:=fr;exact ⟨o,EQ.extBut _ o (ne_of_lt LW) e,FB⟩
theorem eA (f:Str×Value->PUnit->Sem (ForInStep PUnit)) (hf:∀ n v u,f (n,v) u=(do storeName env n v; pure (.yield ⟨⟩))) (hk:env.scope.kind=.function) :
  ∀ (binds:List (Str×Value)) (m cm:Str->Option Value) (s:Shared) (Q:PUnit->Shared->Prop),InCallC s₀ env.locals m env.cells cm s->di s.heap env.locals ->
   (∀ x∈binds,env.kindOf x.1=some .local\/(env.kindOf x.1=some .cell/\(env.cells.lookup x.1).isSome=true)) ->
   (∀ s',InCallC s₀ env.locals (bindL env.kindOf binds m) env.cells (bindC env.kindOf binds cm) s'->di s'.heap env.locals->Q ⟨⟩ s')->wpAny M A (forIn binds ⟨⟩ f) Q E s
 | [],m,cm,s,Q,x,fr,_,h=>by rw [forIn_nil]; exact zC2 (h s x fr)
 | (n,v) :: r,m,cm,s,Q,x,fr,Fo,h=>by
  rw [forIn_cons,hf];have hr:∀ y∈r,env.kindOf y.1=some .local\/(env.kindOf y.1=some .cell/\(env.cells.lookup y.1).isSome=true):=fun y hy=>Fo y (List.mem_cons_of_mem _ hy);rcases Fo (n,v) mem_cons_self with hl | ⟨hl,hc⟩
  ·refine zC1 (zC1 (DI x fr hk hl fun s' x' Ik=>zC2 (eA f hf hk r _ _ s' Q x' Ik hr fun HR K0=>h HR ?_)));unfold bindL bindC; rw [if_pos hl,if_pos hl]; exact K0
  ·obtain ⟨c,hc⟩:=isSome_iff_exists.mp hc;have FH:¬ env.kindOf n=some .local:=by rw [hl]; decide
   refine zC1 (zC1 (DJ x fr hk hl hc fun s' x' Ik=>zC2 (eA f hf hk r _ _ s' Q x' Ik hr fun HR K0=>h HR ?_)));unfold bindL bindC; rw [if_neg FH,if_neg FH]; exact K0
def x3 {scope:Scope} {globals:Addr} {binds:List (Str×Value)} {qual:Str} {func:Option Addr} {code:Value} {builtins:Addr} {Q:Env->Shared->Prop}
  (hk:scope.kind=.function)
  (Fo:∀ x∈binds,scope.names.lookup x.1=some .local\/(scope.names.lookup x.1=some .cell/\((cellsFrom (s.heap.objs.size+1) scope.names []).lookup x.1).isSome=true))
  (hQ:∀ env,env=newEnv scope s.heap.objs.size globals (cellsFrom (s.heap.objs.size+1) scope.names []) qual func code none builtins ->
   ∀ s',InCallC s env.locals (bindL env.kindOf binds fun U=>none) env.cells (bindC env.kindOf binds fun U=>none) s'->di s'.heap env.locals->Q env s') :
  wpAny M A (newFunctionEnv scope globals [] binds qual func code none builtins) Q E s:=by
 simp only [newFunctionEnv,Option.isSome_none,false_eq_true,if_false];refine zC1 (wpAny_alloc ?_);refine zC1 (wpAny_layCells _ (fun name kind cells=>by cases LB:kind==NameKind.cell <;> simp [LB]) _ _ _ _ ?_);have ok:=cellsFrom_ok scope.names (s.heap.push { cls:=.type "frame",data:=.dict #[] }) (s.heap.objs.size+1) [] ⟨fun U U hm=>(nM hm),Pairwise.nil⟩ (by rw [size_push]; exact le_refl _);rw [size_push] at ok;rw [show ({ s with heap:=s.heap.push { cls:=.type "frame",data:=.dict #[] } }:Shared).heap.objs.size=s.heap.objs.size+1 from size_push ..];refine zC1 (eA (s₀:=s) (env:=newEnv scope s.heap.objs.size globals (cellsFrom (s.heap.objs.size+1) scope.names []) qual func code none builtins)
  _ (fun U U U=>rfl) hk binds (fun U=>none) (fun U=>none) _ _
  ⟨⟨⟨_,_,rfl⟩,(Heap.Ns.new s.heap (.type "frame")).keeps (pushCells_keeps _ _),fun b o e=>pushCells_keeps _ _ b o (Q4 _ e),le_refl _⟩,
   fun n c hc=>(ok.empty n c (mem_of_lookup hc)).1,ok.apart,fun n c hm=>(ok.empty n c hm).2⟩
  ⟨_,pushCells_keeps _ _ _ _ (Q7 _ rfl),rfl⟩
  Fo fun s' x fr=>zC2 (hQ _ rfl s' x fr))
end
section
variable {prog:Program} {w:World} {A:Around} {s:Shared}
def Dd {R:Result->Shared->Prop} {body:List Stmt} {vals:List Value} {binds:List (Str×Value)}
  (EW:A.depth < recursionLimit) (ho:s.heap.get? a=some o) (J':o.data=.func fd) (LA:s.heap.NoLimit) (hcd:s.heap.CodeRec fd.code fd.qualname)
  (FJ:fd.body=.stmts body) (Kb:bindArgs fd ⟨vals,[]⟩=pure binds) (LO:fd.closure=[])
  (Fo:∀ x∈binds,fd.scope.names.lookup x.1=some .local\/(fd.scope.names.lookup x.1=some .cell/\((cellsFrom (s.heap.objs.size+1) fd.scope.names []).lookup x.1).isSome=true))
  (hco:fd.scope.isCoroutine=false) (LG:fd.scope.isGenerator=false) (hk:fd.scope.kind=.function)
  (h:∀ s₁,InCallC s (callEnvC fd s.heap.objs.size a).locals (bindL (callEnvC fd s.heap.objs.size a).kindOf binds fun U=>none) (callEnvC fd s.heap.objs.size a).cells
    (bindC (callEnvC fd s.heap.objs.size a).kindOf binds fun U=>none) s₁->di s₁.heap (callEnvC fd s.heap.objs.size a).locals ->
   wpAny (model prog w) (A.deeper (callEnvC fd s.heap.objs.size a)) (execs body (callEnvC fd s.heap.objs.size a)) (fun f s'=>R (.ok (.ret (match f with | .ret v=>v | _=>.none))) s')
    (fun e s'=>wpAny (model prog w) (A.deeper (callEnvC fd s.heap.objs.size a)) (leaving (callEnvC fd s.heap.objs.size a) e) (fun U HR=>R (.error e) HR) (fun e' HR=>R (.error e') HR) s') s₁) :
  codeAny (model prog w) A (.call (.ref a) ⟨vals,[]⟩) R s:=by
 refine codeAny_call_function EW ho J' hco LG FJ hcd ?_;rw [Kb,LO];refine zC2 (x3 hk Fo fun env he s' x fr=>?_);subst he;exact ⟨LA.keeps x.toInCall.keep,codeAny_func (h s' x fr)⟩
end
theorem dM:∀ (names:List (Str×NameKind)) (n:Nat) (EJ:List (Str×Addr)) (x:Str),((x,NameKind.cell)∈names\/(EJ.lookup x).isSome=true)->((cellsFrom n names EJ).lookup x).isSome=true
 | [],_,_,_,h=>by
  rcases h with h | h
  ·cases h
  ·exact h
 | (y,k) :: r,n,EJ,x,h=>by
  unfold cellsFrom;have more:∀ q:Str×Addr,(EJ.lookup x).isSome=true->((q :: EJ).lookup x).isSome=true:=fun q e=>by
   rw [lookup_cons]; split
   ·rfl
   ·exact e
  split
  ·refine dM r _ _ x ?_;rcases h with h | h
   ·rcases mem_cons.mp h with e | e
    ·(injection e with e; subst e); right; rw [lookup_cons]; simp
    ·exact .inl e
   ·exact .inr (more _ h)
  ·rename_i hk;refine dM r _ _ x ?_;rcases h with h | h
   ·rcases mem_cons.mp h with e | e
    ·cases e; exact absurd rfl hk
    ·exact .inl e
   ·exact .inr h
theorem lO {kindOf:Str->Option NameKind} (hx:kindOf x=some .local):∀ (ps:List Str) (vs:List Value) (m:Str->Option Value),ps.Nodup->ps.length=vs.length ->
  (∀ i:Nat,ps[i]?=some x->bindL kindOf (ps.zip vs) m x=vs[i]?)/\(x∉ps->bindL kindOf (ps.zip vs) m x=m x)
 | [],_,m,_,_=>⟨fun i e=>by simp at e,fun U=>by simp [bindL]⟩
 | p :: ps,[],m,_,e=>by simp at e
 | p :: ps,v :: vs,m,hn,e=>by
  obtain ⟨hp,GA⟩:=nodup_cons.mp hn;have ih:=fun m=>lO hx ps vs m GA (Nat.succ.inj e);refine ⟨fun i ei=>?_,fun nx=>?_⟩
  ·refine (?_:bindL kindOf (ps.zip vs) _ x=_);cases i with
   | zero=>
    (injection ei with ei; subst ei);rw [(ih _).2 hp,if_pos hx]; exact if_pos rfl
   | succ i=>exact (ih _).1 i ei
  ·refine (?_:bindL kindOf (ps.zip vs) _ x=_);rw [(ih _).2 fun q=>nx (.tail _ q)];split
   ·exact if_neg fun q:x=p=>nx (q▸.head _)
   ·rfl
theorem lP {kindOf:Str->Option NameKind} (hx:kindOf x≠some .local):∀ (ps:List Str) (vs:List Value) (m:Str->Option Value),ps.Nodup->ps.length=vs.length ->
  (∀ i:Nat,ps[i]?=some x->bindC kindOf (ps.zip vs) m x=vs[i]?)/\(x∉ps->bindC kindOf (ps.zip vs) m x=m x)
 | [],_,m,_,_=>⟨fun i e=>by simp at e,fun U=>by simp [bindC]⟩
 | p :: ps,[],m,_,e=>by simp at e
 | p :: ps,v :: vs,m,hn,e=>by
  obtain ⟨hp,GA⟩:=nodup_cons.mp hn;have ih:=fun m=>lP hx ps vs m GA (Nat.succ.inj e);refine ⟨fun i ei=>?_,fun nx=>?_⟩
  ·refine (?_:bindC kindOf (ps.zip vs) _ x=_);cases i with
   | zero=>
    (injection ei with ei; subst ei);rw [(ih _).2 hp,if_neg hx]; exact if_pos rfl
   | succ i=>exact (ih _).1 i ei
  ·refine (?_:bindC kindOf (ps.zip vs) _ x=_);rw [(ih _).2 fun q=>nx (.tail _ q)];split
   ·rfl
   ·exact if_neg fun q:x=p=>nx (q▸.head _)
theorem eW:∀ (l:List Str) (n:Nat) (x:Str) (k:Nat),(l.zipIdx n).lookup x=some k->∃ j,k=n+j/\l[j]?=some x
 | [],_,_,_,e=>nN e.symm
 | y :: r,n,x,k,e=>by
  rw [zipIdx_cons,lookup_cons] at e;cases hb:x==y with
  | true=>replace e:=hb▸e; (injection e with e; subst e); rw [beq_iff_eq.mp hb]; exact ⟨0,rfl,rfl⟩
  | false=>
   rw [hb] at e;obtain ⟨j,h1,h2⟩:=eW r (n+1) x k e;exact ⟨j+1,by rw [h1,add_assoc,add_comm 1],h2⟩
structure FnAt (g:Gl) (a:Addr) (fn:Fn) (fd:FuncData) (body:List Stmt) (nms:List Str):Prop where
 at':∃ o:Obj,g.h0.get? a=some o/\o.data=.func fd
 bd:fd.body=.stmts body
 code:g.h0.CodeRec fd.code fd.qualname
 glo:fd.globals=mainGlobals
 blt:fd.builtins=builtinsNs
 clo:fd.closure=[]
 co:fd.scope.isCoroutine=false
 gen:fd.scope.isGenerator=false
 kind:fd.scope.kind=.function
 bind:∀ vals:List Value,vals.length=fn.npar->bindArgs fd ⟨vals,[]⟩=pure ((nms.take fn.npar).zip vals)
 nodup:nms.Nodup
 npar:fn.npar<=nms.length
 nslots:nms.length<=fn.nslots
 kinds:∀ x∈nms,fd.scope.names.lookup x=some .local\/fd.scope.names.lookup x=some .cell
noncomputable def kE (nms:List Str) (sc:List (Str×NameKind)) (L:Addr) (cs:List (Str×Addr)) (k:Nat):Pl:=match nms[k]? with
 | none=>.off
 | some x=>if sc.lookup x=some .local then .ns L x else match cs.lookup x with | some c=>.cell c | none=>.off
noncomputable def wU (g:Gl) (A:Around) (fd:FuncData) (nms:List Str) (ns:Nat) (a L:Addr) (bad:Addr->Prop) (d:Nat) (hm nw:Bool):Fx:=
 { g:=g,A:=A.deeper (callEnvC fd L a),env:=callEnvC fd L a,ρ:=nms.zipIdx,pl:=kE nms fd.scope.names L (cellsFrom (L+1) fd.scope.names []),Mo:=bad,nf:=nms.length,ns:=ns,d:=d,hm:=hm,nw:=nw }
section
variable {g:Gl} {a:Addr} {fn:Fn} {fd:FuncData} {body:List Stmt} {nms:List Str}
def pl_cases (F:FnAt g a fn fd body nms) (L n:Nat) (k:Nat):(nms[k]?=none/\kE nms fd.scope.names L (cellsFrom n fd.scope.names []) k=.off)\/∃ x,nms[k]?=some x/\((fd.scope.names.lookup x=some .local/\kE nms fd.scope.names L (cellsFrom n fd.scope.names []) k=.ns L x) \/
  (fd.scope.names.lookup x=some .cell/\∃ c,(cellsFrom n fd.scope.names []).lookup x=some c/\kE nms fd.scope.names L (cellsFrom n fd.scope.names []) k=.cell c)):=by
 unfold kE;cases hk:nms[k]? with
 | none=>exact .inl ⟨rfl,rfl⟩
 | some x=>
  refine .inr ⟨x,rfl,(F.kinds x (mem_of_getElem? hk)).imp (fun h=>⟨h,if_pos h⟩) fun h=>⟨h,?_⟩⟩;obtain ⟨c,hc⟩:=isSome_iff_exists.mp (dM fd.scope.names n [] x (.inl (mem_of_lookup h)));refine ⟨c,hc,(if_neg fun q=>?_).trans ?_⟩
  ·replace q:=h▸q; cases q
  ·rw [hc]
def Cv (F:FnAt g a fn fd body nms) (gr:Ground g) (ih:ft g (ao g.P d) d) (hand:nX hm A) (EW:A.depth+(1+2 * d) < 990) (EZ:A.units+(3+4 * d)+100 < cLine)
  (above:∀ x c,(cellsFrom (L+1) fd.scope.names []).lookup x=some c->L < c) (apart:(cellsFrom (L+1) fd.scope.names []).Pairwise fun x y=>x.2≠y.2) (IQ:∀ b,bad b->g.h0.get? b=none) :
  FxOk (wU g A fd nms fn.nslots a L bad d hm nw) where
 gr:=gr
 hand:=hand
 kind:=F.kind
 globals:=F.glo
 builtins:=F.blt
 vis:=fun x k hx=>by
  obtain ⟨j,rfl,hj⟩:=eW nms 0 x k hx;rw [zero_add];rcases pl_cases F L (L+1) j with ⟨q,_⟩ | ⟨y,q,z⟩ <;> rw [hj] at q <;> cases q
  exact z.imp (fun z=>⟨z.1,z.2⟩) fun ⟨z,c,hc,zp⟩=>⟨.inl z,c,hc,zp⟩
 inj:=fun k j e EA=>by
  rcases pl_cases F L (L+1) k with ⟨_,q⟩ | ⟨x,qk,zk⟩
  ·exact absurd q EA
  rcases pl_cases F L (L+1) j with ⟨_,q⟩ | ⟨y,qj,zj⟩
  ·exact absurd (e.trans q) EA
  have e:kE nms fd.scope.names L (cellsFrom (L+1) fd.scope.names []) k=kE nms fd.scope.names L (cellsFrom (L+1) fd.scope.names []) j:=e;have:x=y:=by
   rcases zk with ⟨_,q⟩ | ⟨_,c,q1,q⟩ <;> rcases zj with ⟨_,q'⟩ | ⟨_,c',q1',q'⟩ <;> rw [q,q'] at e <;> cases e
   ·rfl
   ·exact name_of_addr apart (mem_of_lookup q1) (mem_of_lookup q1')
  subst this;exact (getElem?_inj (List.getElem?_eq_some_iff.mp qk).1 F.nodup).mp (qk.trans qj.symm)
 apart:=fun k j b x c e1 e2=>by
  have e1:kE nms fd.scope.names L (cellsFrom (L+1) fd.scope.names []) k=.ns b x:=e1;have e2:kE nms fd.scope.names L (cellsFrom (L+1) fd.scope.names []) j=.cell c:=e2;rcases pl_cases F L (L+1) k with ⟨_,q⟩ | ⟨y,_,⟨_,q⟩ | ⟨_,_,_,q⟩⟩ <;> rw [q] at e1 <;> cases e1
  rcases pl_cases F L (L+1) j with ⟨_,q⟩ | ⟨y,_,⟨_,q⟩ | ⟨_,c',q1,q⟩⟩ <;> rw [q] at e2 <;> cases e2
  exact ne_of_lt (above y _ q1)
 offs:=fun k hk=>by
  rcases pl_cases F L (L+1) k with ⟨_,q⟩ | ⟨y,q,_⟩
  ·exact q
  ·exact absurd (List.getElem?_eq_some_iff.mp q).1 (not_lt.mpr hk)
 nfs:=F.nslots
 room:=by refine (?_:A.depth+1+2 * d < 990); rw [add_assoc]; exact EW
 units:=by refine (?_:A.units+3+4 * d+100 < cLine); rw [add_assoc A.units]; exact EZ
 call:=ih
 mo0:=IQ
end
section
variable {g:Gl} {a:Addr} {fn:Fn} {fd:FuncData} {body:List Stmt} {nms:List Str}
def wt {bad:Addr->Prop} {oa0:Nat->Option Addr} {K:Option V->Gs->Prop} {R:Result->Shared->Prop} (F:FnAt g a fn fd body nms) (gr:Ground g) (ih:ft g (ao g.P d) d)
  (hand:nX hm A) (LH:fD g A s.heap) (EW:A.depth+(1+2 * d) < 990) (EZ:A.units+(3+4 * d)+100 < cLine) (B:Base g s) (Gb:∀ b,bad b->aW s.heap b) (IQ:∀ b,bad b->g.h0.get? b=none) (EB:vals.length=fn.npar) (hG:G0.length=fn.nslots)
  (Gz:∀ k b,oa0 k=some b->k=0/\aW s.heap b/\g.h0.get? b=none/\¬ bad b)
  (Jz:∀ k,k < fn.npar->d4 g (fun b=>bad b\/∃ k,oa0 k=some b) s.heap (oa0 k) vals[k]? (getSlot G0 k)) (hun:∀ k,¬ k < fn.npar->getSlot G0 k=.unset/\oa0 k=none) (HQ:∀ L,ExB (wU g A fd nms fn.nslots a L bad d hm nw) (execs body (callEnvC fd L a)) (exs g.P.sup (ao g.P d) fn.body)) (hb:exs g.P.sup (ao g.P d) fn.body G0 K)
  (hR:∀ s' (Φ':Ct) f fl,(fl=none->Inv Φ' s')->Base g s'->Φ'.fx.g=g->Φ'.fx.Mo=bad->Φ'.fx.nw=nw->(∀ b o,s.heap.get? b=some o->(∀ k,oa0 k≠some b)->bF s'.heap b o)->(∀ k b,Φ'.oa k=some b->isI (getSlot Φ'.G k)->oa0 k=some b)->yZ Φ' s s'.heap f fl->K fl Φ'.G ->
   R (.ok (.ret (match f with | .ret v=>v | _=>.none))) s')
  (hX:∀ s' c e G',c < g.nc->Base g s'->(∀ b o,s.heap.get? b=some o->(∀ k,oa0 k≠some b)->bF s'.heap b o)->ExcAt s'.heap s.heap e (.ref (g.cls c)) .none->K (some (fK c)) G'->R (.error (.ref e)) s'):codeAny (model g.prog g.w) A (.call (.ref a) ⟨vals,[]⟩) R s:=by
 obtain ⟨o,ho,hd⟩:=F.at';have Kp:∀ a,s.heap.objs.size<=a->s.heap.get? a=none:=fun a ha=>by
  cases e:s.heap.get? a with
  | none=>rfl
  | some o=>exact absurd (lt_size e) (not_lt.mpr ha)
 have Ml:=cellsFrom_ok fd.scope.names (s.heap.push { cls:=.type "frame",data:=.dict #[] }) (s.heap.objs.size+1) [] ⟨fun U U hm=>(nM hm),Pairwise.nil⟩ (by rw [size_push]; exact le_refl _);rw [size_push] at Ml;have above:∀ x c,(cellsFrom (s.heap.objs.size+1) fd.scope.names []).lookup x=some c->s.heap.objs.size < c:=fun x c hx=>(Ml.empty x c (mem_of_lookup hx)).2;have ok:=Cv (bad:=bad) (hm:=hm) (nw:=nw) F gr ih hand EW EZ above Ml.apart IQ;have LB:∀ x∈nms,fd.scope.names.lookup x=some .local\/(fd.scope.names.lookup x=some .cell/\((cellsFrom (s.heap.objs.size+1) fd.scope.names []).lookup x).isSome=true):=fun x hx=>(F.kinds x hx).imp id fun h=>⟨h,dM _ _ _ _ (.inl (mem_of_lookup h))⟩;refine Dd (o:=o) (fd:=fd) (body:=body) (binds:=(nms.take fn.npar).zip vals) (show A.depth < 1000 from lt_trans (Q1 (Q3 _ _) EW) (by decide)) (B.stays _ _ ho) hd (gr.nolim.keeps fun b o e=>B.stays b o e) (F.code.keeps fun b o e=>B.stays b o e) F.bd (F.bind vals EB) F.clo
  (fun x hx=>LB x.1 (mem_of_mem_take (List.of_mem_zip hx).1)) F.co F.gen F.kind (fun s₁ ic fcl=>?_)
 let fx:Fx:=wU g A fd nms fn.nslots a s.heap.objs.size bad d hm nw
 have HQ:ExB fx (execs body fx.env) (exs g.P.sup (ao g.P d) fn.body):=HQ s.heap.objs.size;have FQ:∀ k b,(fx.pl k).addr=some b->s.heap.get? b=none:=fun k b e=>by
  have e:(kE nms fd.scope.names s.heap.objs.size (cellsFrom (s.heap.objs.size+1) fd.scope.names []) k).addr=some b:=e;rcases pl_cases F s.heap.objs.size (s.heap.objs.size+1) k with ⟨_,q⟩ | ⟨y,_,⟨_,q⟩ | ⟨_,c,q1,q⟩⟩ <;> rw [q] at e <;> (first | (injection e; done) | (injection e with e; subst e))
  ·exact Kp _ (le_refl _)
  ·exact Kp _ (le_of_lt (above y _ q1))
 have kp:aL s.heap s₁.heap:=ic.toInCall.keep;obtain ⟨Ey,IV,HI⟩:=ic.toInCall.same;have FR:∀ b,aW s.heap b->(∀ k,oa0 k≠some b)->¬ (Ct.mk fx oa0 G0).own b:=fun b l n q=>by
  rcases q with ⟨k,q⟩ | ⟨k,q⟩
  ·obtain ⟨o,e⟩:=l; rw [FQ k b q] at e; (injection e; done)
  ·exact n k q
 have mk:cR (fun b=>bad b\/∃ k,oa0 k=some b) (Ct.mk fx oa0 G0).bad s.heap s₁.heap:=fun b o e U n=>⟨fun q=>q.elim (fun q=>n (.inl q)) (FR b ⟨o,e⟩ fun k q=>n (.inr ⟨k,q⟩)),kp b o e⟩;have JG:(nms.take fn.npar).length=vals.length:=by rw [length_take,EB]; exact min_eq_left F.npar
 have JE:(nms.take fn.npar).Nodup:=F.nodup.sublist (take_sublist _ _);have Hk:∀ k x,nms[k]?=some x->k < fn.npar->(nms.take fn.npar)[k]?=some x:=fun k x hk Et=>by rw [getElem?_take_of_lt Et]; exact hk
 have Gq:∀ k x,nms[k]?=some x->¬ k < fn.npar->x∉nms.take fn.npar:=fun k x hk JY hm=>by
  obtain ⟨j,hj⟩:=getElem?_of_mem hm;have hjl:j < fn.npar:=Q0 (List.getElem?_eq_some_iff.mp hj).1 (length_take_le _ _);rw [getElem?_take_of_lt hjl] at hj;exact JY ((getElem?_inj (List.getElem?_eq_some_iff.mp hj).1 F.nodup).mp (hj.trans hk.symm)▸hjl)
 have slot:∀ k,∃ v,bf s₁.heap (fx.pl k) v/\(k < fn.npar->v=vals[k]?)/\(¬ k < fn.npar->v=none):=fun k=>by
  rcases pl_cases F s.heap.objs.size (s.heap.objs.size+1) k with ⟨e,q⟩ | ⟨x,hk,⟨h1,q⟩ | ⟨h1,c,h2,q⟩⟩
  ·exact ⟨none,by refine (?_:bf _ (kE _ _ _ _ _) _); rw [q]; rfl,fun Et=>absurd Et (not_lt.mpr (zB1 F.npar (List.getElem?_eq_none_iff.mp e))),fun U=>rfl⟩
  ·have bl:=lO (kindOf:=(callEnvC fd s.heap.objs.size a).kindOf) (x:=x) h1 (nms.take fn.npar) vals (fun U=>none) JE JG;exact ⟨_,by refine (?_:bf _ (kE _ _ _ _ _) _); rw [q]; exact ⟨_,ic.toInCall.ns,rfl⟩,fun Et=>bl.1 k (Hk k x hk Et),fun JY=>bl.2 (Gq k x hk JY)⟩
  ·have bc:=lP (kindOf:=(callEnvC fd s.heap.objs.size a).kindOf) (x:=x) (fun z=>by have z:fd.scope.names.lookup x=some .local:=z; rw [h1] at z; cases z) (nms.take fn.npar) vals (fun U=>none) JE JG;exact ⟨_,by refine (?_:bf _ (kE _ _ _ _ _) _); rw [q]; exact ic.cell x c h2,fun Et=>bc.1 k (Hk k x hk Et),fun JY=>bc.2 (Gq k x hk JY)⟩
 obtain ⟨l,hl,fl⟩:=LH;have Ij:gR g.h0 s₁.heap (callEnvC fd s.heap.objs.size a :: l):=fun env m=>by
  cases m with
  | head=>
   obtain ⟨o',e',c'⟩:=fcl;obtain ⟨on,_,_,en,dn,_⟩:=ic.toInCall.ns;(injection e'.symm.trans en with Xq; subst Xq);exact ⟨by refine (?_:fd.scope.kind≠_); rw [F.kind]; exact nofun,_,o',rfl,aR (fun l=>B.stays.live l) (ak _),e',c',fun vs q=>nomatch dn.symm.trans q⟩
  | tail _ m=>exact (fl.keep kp.keeps) env m
 have L6:fx.A.frames=some (callEnvC fd s.heap.objs.size a :: l):=by refine (?_:(A.deeper (callEnvC fd s.heap.objs.size a)).frames=_); unfold Around.deeper; rw [hl]; rfl
 have Ki:fD g fx.A s₁.heap:=⟨_,L6,Ij⟩;have C':Inv ⟨fx,oa0,G0⟩ s₁:=by
  refine ⟨ok,⟨fun b o e=>kp b o (B.stays b o e),by rw [HI]; exact B.os,by rw [HI]; exact B.gens⟩,fun k=>?_,fun b q=>?_,fun k j b e1 e2=>(Gz k b e1).1.trans (Gz j b e2).1.symm,fun k b e j q=>?_,hG,fun b q=>kp.live (Gb b q),Ki⟩
  ·obtain ⟨v,r,h1,h2⟩:=slot k;refine ⟨v,r,?_⟩;by_cases Et:k < fn.npar
   ·rw [h1 Et]; exact (Jz k Et).map mk fun b U o e U=>kp b o e
   ·rw [h2 Et,(hun k Et).1]; exact ⟨(hun k Et).2,rfl⟩
  ·rcases q with ⟨k,q⟩ | ⟨k,q⟩
   ·have hn:=FQ k b q;refine ⟨?_,aR (fun l=>B.stays.live l) hn,fun z=>by obtain ⟨o,e⟩:=Gb b z; rw [hn] at e; (injection e; done)⟩;obtain ⟨v,r,_⟩:=slot k;have q:(fx.pl k).addr=some b:=q;generalize fx.pl k=pl at r q;cases pl with
    | ns a' x=>(injection q with q; subst q); obtain ⟨m,⟨o',_,_,ED,_⟩,_⟩:=r; exact ⟨o',ED⟩
    | cell c=>(injection q with q; subst q); obtain ⟨o',ED,_⟩:=r; exact ⟨o',ED⟩
    | off=>(injection q; done)
   ·obtain ⟨_,l,h0,nb⟩:=Gz k b q;exact ⟨kp.live l,h0,nb⟩
  ·obtain ⟨o,e⟩:=(Gz k b e).2.1;rw [FQ j b q] at e; (injection e; done)
 refine wpAny_mono (HQ oa0 G0 K s₁ hb C') (fun f s' ⟨oa',G',fl,I',B',t,hf,hk⟩=>hR s' ⟨fx,oa',G'⟩ f fl (fun q=>I' (.inl q)) B' rfl rfl rfl (fun b o e n=>t.keep b o (kp b o e) (FR b ⟨o,e⟩ n)) (fun k b e q=>(t.inst k b e q).1) (hf.lift fun b l=>kp.live l) hk) fun v s' ⟨oa',G',c,e,hv,hc,I',t,xa,hk⟩=>?_;subst hv;have Ik:=I'.fr.of L6;exact qA (lo:=s.heap) L6 Ik.funs rfl (fun b l=>t.live b (kp.live l)) (xa.le fun b l=>kp.live l) fun h' n x=>hX { s' with heap:=h' } c e G' hc (dI (s:=s) (s₁:=s') B I'.base Ik n) (fun b o e nn=>oY (s:=s) (s₁:=s') (t.keep b o (kp b o e) (FR b ⟨o,e⟩ nn)) ⟨o,e⟩ Ik n) x hk
end
section
variable {g:Gl}
def pn {α:Type} {l r:List α} {k:Nat} {x:α} (h:l[k]?=some x) (d:α):(l++r).getD k d=x:=by
 rw [getD_eq_getElem?_getD,getElem?_append_left (List.getElem?_eq_some_iff.mp h).1,h]; rfl
def pj {α:Type} {l:List α} {k n:Nat} {d:α} (h:l.length<=k):(l++replicate n d).getD k d=d:=by
 rw [getD_eq_getElem?_getD,getElem?_append_right h,List.getElem?_replicate]; split <;> rfl
def kN (g:Gl) (d:Nat) (a:Addr) (fn:Fn) (fd:FuncData) (body:List Stmt) (nms:List Str) (safe nw:Bool):Prop:=∀ hm A L bad,(hm=true->safe=true)->ExB (wU g A fd nms fn.nslots a L bad d hm nw) (execs body (callEnvC fd L a)) (exs g.P.sup (ao g.P d) fn.body)
structure InitAt (g:Gl) (d:Nat) (fn:Fn):Prop where
 it:∃ fI fd body nms,findIn g.K (.ref g.C) "__init__"=some (some (.ref fI))/\typeIn g.K (.ref fI)=some (.type "function")/\FnAt g fI fn fd body nms/\kN g d fI fn fd body nms false false
def AA {a d:Nat} (h:a+2 * (d+1) < 990):a+(1+2 * d) < 990:=add_comm (2 * d) 1▸lt_of_succ_lt h
def Az {a d:Nat} (h:a+2 * (d+1) < 990):a+1+(1+2 * d) < 990:=add_comm (2 * d) 1▸(add_right_comm a (2 * d) 1▸h:a+1+2 * d+1 < 990)
def Ay {a d c:Nat} (h:a+4 * (d+1)+100 < c):a+(3+4 * d)+100 < c:=add_comm (4 * d) 3▸lt_of_succ_lt (h:a+4 * d+103+1 < c)
def Ax {a d c:Nat} (h:a+4 * (d+1)+100 < c):a+1+(3+4 * d)+100 < c:=add_comm (4 * d) 3▸(add_right_comm a (4 * d) 1▸h:a+1+4 * d+3+100 < c)
def cQ {D b:Addr} {k:Nat} (e:(if k=0 then some D else none)=some b):k=0/\b=D:=by
 by_cases q:k=0
 ·exact ⟨q,(Option.some.inj ((if_pos q).symm.trans e)).symm⟩
 ·exact nomatch (if_neg q).symm.trans e
def x1 {l:List V} (h:l.length=5):noX (qI l)=true:=by
 cases l with
 | nil=>exact nomatch h
 | cons x l=>cases l with
  | nil=>exact nomatch h
  | cons=>rfl
def vL {l:List V} (h:l.length=5):qG (l.map fun x=>(PyData.none,x))=true:=by
 cases l with
 | nil=>exact nomatch h
 | cons=>rfl
def Bd (l:List V):(l.map fun x=>(PyData.none,x)).map (·.2)=l:=map_map.trans (List.map_id l)
def oC {d:Nat} (gr:Ground g) (Fw:∀ f fn,g.P.fns[f]?=some fn->fn.init=false->∃ fd body nms,FnAt g (g.fn f) fn fd body nms/\kN g d (g.fn f) fn fd body nms (g.safe f) (g.newf f)) (KG:∀ f fn,g.P.fns[f]?=some fn->fn.init=true->g.fn f=g.C/\g.safe f=false/\InitAt g d fn) (ih:ft g (ao g.P d) d) :
  ft g (ao g.P (d+1)) (d+1):=fun hm f args K A s bad vals hc hand Ht EW EZ B FW Gb IQ Gv=>by
 refine ah hc fun fn hf FA=>FA.elim fun EB hb=>?_;have hva:=Gv.length;cases hi:fn.init with
 | false=>
  rw [hi,if_neg Bool.false_ne_true,add_zero] at EB;obtain ⟨fd,body,nms,F,HQ⟩:=Fw f fn hf hi;have e0:c6 fn args=args.map .v++replicate (fn.nslots - fn.npar) .unset:=by unfold c6; rw [hi]; rfl
  have JQ:(args.map Slot.v).length=fn.npar:=by rw [zA4,EB]
  refine wpAny_call (wt (oa0:=fun U=>none) (nw:=g.newf f) F gr ih hand FW (AA EW) (Ay EZ) B Gb IQ (hva.trans EB) ?_ (fun k b e=>nN e.symm) (fun k hk=>?_) (fun k hk=>⟨?_,rfl⟩) (fun L=>HQ hm A L bad Ht) hb (fun s' Φ' f' fl I' B' hg hm Fi kk ki Fy hk=>?_) fun s' c e G' hc B' kk x hk=>?_)
  ·rw [e0,zB5,JQ,List.length_replicate]; exact Q5 (zB1 F.npar F.nslots)
  ·have Gi:k < args.length:=EB▸hk;obtain ⟨v,hv,rv⟩:=Gv.get (Q9 Gi);rw [show getSlot (c6 fn args) k=.v args[k] by rw [e0]; exact pn (by rw [getElem?_map,Q9 Gi]; rfl) _,hv];exact ⟨rfl,v,rfl,rv.map fun b o e U n=>⟨fun q=>q.elim n fun FM=>FM.elim fun U q=>(nN q.symm),e⟩⟩
  ·rw [e0]; exact pj (JQ▸not_lt.mp hk)
  ·rw [hi,if_neg Bool.false_ne_true] at hk;cases fl with
   | none=>subst Fy; exact ⟨B',fun b o e=>kk b o e fun k q=>(nomatch q),_,hk,rfl,.none,fun U a b q=>nomatch q⟩
   | some y=>obtain ⟨nx,v,rfl,r,nv⟩:=Fy; subst hg; exact ⟨B',fun b o e=>kk b o e fun k q=>(nN q.symm),_,hk,nx,r.map fun b o e U n=>⟨fun q=>n (.inl (hm▸q)),e⟩,fun q=>nv (Fi▸q)⟩
  ·rw [hi,if_neg Bool.false_ne_true] at hk;exact ⟨B',fun b o e=>kk b o e fun k q=>(nN q.symm),c,e,rfl,hc,hk,x⟩
 | true=>
  rw [hi,if_pos rfl] at EB;obtain ⟨hC,Fe,⟨fI,fd,body,nms,h1,h2,F,HQ⟩⟩:=KG f fn hf hi;have hm0:hm=false:=by cases hm with | false=>rfl | true=>exact absurd (Ht rfl) (by rw [Fe]; exact Bool.false_ne_true)
  subst hm0;rw [hC];have X:=gr.frag.keeps B.stays;have e0:c6 fn args=(.ownI [] :: args.map .v)++replicate (fn.nslots - fn.npar) .unset:=by unfold c6; rw [hi]; rfl
  have JQ:(Slot.ownI [] :: args.map Slot.v).length=fn.npar:=by rw [zB4,zA4,EB]
  have kp:aL s.heap ((s.heap.push emptyDict).push (instObj g.C s.heap.objs.size)):=(az _ _).trans (az _ _);have hD:((s.heap.push emptyDict).push (instObj g.C s.heap.objs.size)).get? s.heap.objs.size=some emptyDict:=Q4 _ (Q7 _ rfl);have hX:((s.heap.push emptyDict).push (instObj g.C s.heap.objs.size)).get? (s.heap.objs.size+1)=some (instObj g.C s.heap.objs.size):=by rw [<- size_push s.heap emptyDict]; exact Q7 _ rfl
  have nb:∀ b,bad b->b < s.heap.objs.size:=fun b q=>(Gb b q).elim fun o e=>lt_size e;have nd:¬ bad s.heap.objs.size:=fun q=>lt_irrefl _ (nb _ q);have nx:¬ bad (s.heap.objs.size+1):=fun q=>not_lt.mpr (le_succ _) (nb _ q);refine wpAny_call (make_core (makes_of X gr.cls.makes) (looks_findIn X h1) (fun self=>bind_fn X self h2) (.inl rfl) ?_);refine wt (oa0:=fun k=>if k=0 then some s.heap.objs.size else none) (nw:=false) F gr ih hand (FW.keep kp.keeps) (Az EW) (Ax EZ) ⟨B.stays.trans kp,B.os,B.gens⟩ (fun b q=>kp.live (Gb b q)) IQ (by rw [zB4,hva]; exact EB) ?_ (fun k b e=>?_) (fun k hk=>?_) (fun k hk=>⟨?_,?_⟩) (fun L=>HQ false _ L bad nofun) hb (fun s' Φ' f' fl I' B' hg hm Fi kk ki Fy hk=>?_) fun s' c e G' hc B' kk x hk=>?_
  ·rw [e0,zB5,JQ,List.length_replicate]; exact Q5 (zB1 F.npar F.nslots)
  ·obtain rfl:=(cQ e).2;exact ⟨(cQ e).1,⟨_,hD⟩,aR (fun l=>B.stays.live l) (ak s.heap),nd⟩
  ·cases k with
   | zero=>
    rw [show getSlot (c6 fn args) 0=.ownI [] by rw [e0]; rfl,if_pos rfl];exact ⟨_,.ref (s.heap.objs.size+1),rfl,rfl,_,_,[],rfl,rfl,(fun q=>q.elim nx fun FL=>FL.elim fun k q=>succ_ne_self _ (cQ q).2),hX,hD,⟨⟨rfl,rfl,rfl⟩,#[],0,rfl,rfl,fun j e h=>by simp at h⟩,(fun j b m e=>by simp at e),.nil⟩
   | succ k=>
    have Gi:k < args.length:=Nat.lt_of_succ_lt_succ (show k+1 < args.length+1 by rw [EB]; exact hk);obtain ⟨v,hv,rv⟩:=Gv.get (Q9 Gi);rw [show getSlot (c6 fn args) (k+1)=.v args[k] by rw [e0]; exact pn (by refine (?_:(args.map Slot.v)[k]?=_); rw [getElem?_map,Q9 Gi]; rfl) _,if_neg (succ_ne_zero k)];exact ⟨rfl,v,hv,rv.map fun b o e U n=>⟨fun q=>q.elim n fun F0=>F0.elim fun j q=>ne_of_lt (lt_size e) (cQ q).2,kp b o e⟩⟩
  ·rw [e0]; exact pj (JQ▸not_lt.mp hk)
  ·exact if_neg fun q=>hk (by rw [q,<- EB]; exact succ_pos _)
  ·rw [hi,if_pos rfl] at hk;have no:∀ b,b≠s.heap.objs.size->∀ k,(if k=0 then some s.heap.objs.size else none)≠some b:=fun b n k q=>n (cQ q).2;cases fl with
   | some y=>exact absurd hk.1 (by rw [Fy.1]; exact fun q=>nB q.symm)
   | none=>
    subst Fy;have I':=I' rfl;refine ⟨rfl,ah hk fun l el Gf=>Gf.elim fun hl5 kl=>?_⟩;have sl:=gU el;obtain ⟨a',u,ha,pr,b,o,ws,hu,hba,hnb,hbo,ho,hF,FH,hl⟩:=dW I' sl id;obtain rfl:=(cQ (ki 0 a' ha (by rw [sl]; trivial))).2;subst hba hg;exact ⟨B',fun b o e=>kk b o (kp b o e) (no b fun q=>lt_irrefl _ (q▸lt_size e)),_,kl,x1 hl5,
     .inst (l:=l) nx nd ((kk _ _ hX (no _ (succ_ne_self _))).get fb) ho hF FH (vL hl5) (Bd l) (hl.map fun b o e U n=>⟨fun q=>n (.inl (hm▸q)),e⟩),fun U=>eQ (le_succ _)⟩
  ·rw [hi,if_pos rfl] at hk;exact ⟨B',fun b o eb=>kk b o (kp b o eb) fun k q=>ne_of_lt (lt_size eb) (cQ q).2,c,e,rfl,hc,hk.2,x.le fun b l=>kp.live l⟩
end
section
variable {prog:Program} {w:World} {A:Around} {E:Value->Shared->Prop} {s:Shared} {K:Frag} {x C D:Addr} {ox:Obj} {name:Str}
structure XCls (K:Frag) (D:Addr):Prop where
 ga:findIn K (.ref D) "__getattribute__"=some (some (.builtin "BaseException.__getattribute__"))
 gh:findIn K (.ref D) "__getattr__"=some none
 exc:mroIn K D (.type "BaseException")=some true
 dct:hasDictIn K D=true
 att:findIn K (.ref D) "__class__"=some (some (.builtin "object.__class__"))
 obj:mroIn K D (.type "object")=some true
set_option tactic.hygienic true in
def gA (X:K.In h) (hdct:hasDictIn K D=true):Looks M h (isType (.ref D)) true:=by
 obtain ⟨cdD,LP,_⟩:=any_some hdct;unfold clsIn at LP;split at LP
 ·rename_i c' d' cd' II ho;intro A' Q' E' s' k q
  skip
  exact zC1 (wpAny_loadPart (k _ _ (X _ _ ho)) (wpAny_pure q))
 ·(injection LP; done)
def vx (X:K.In s.heap) (I:InstAt s.heap x ox D none) (c:XCls K D) (hn:specialIn K (.builtin "object.__class__") "__get__"=some (some (.builtin "getset_descriptor.__get__"))) (IJ:takesIn K (.builtin "object.__class__")=some true)
  (h:Q (some (.ref D)) { s with toks:=s.toks+1 }):wpAny (model prog w) A (getAttr? (.ref x) "__class__") Q E s:=by
 have hf:findObj K D none "__class__"=some (.bind (.builtin "getset_descriptor.__get__") (.builtin "object.__class__")):=by
  obtain ⟨cd,hc,_⟩:=any_some c.dct;unfold findObj;rw [hc,bind_some,c.att,bind_some];refine (?_:(specialIn K (.builtin "object.__class__") "__get__").bind _=_);rw [hn,bind_some];refine (?_:(takesIn K (.builtin "object.__class__")).bind _=_);rw [IJ]; rfl
 have Hc:∀ (tk:Tok) (R:Result->Shared->Prop) (A:Around) (s:Shared),K.In s.heap->InstAt s.heap x ox D none->R (.ok (.ret (.ref D))) s->codeAny (model prog w) A (.call (.builtin "BaseException.__getattribute__") ⟨[.ref x,.str "__class__" tk],[]⟩) R s:=fun tk R A s X I hR=>by
  have hk:builtinKind "BaseException.__getattribute__"=some .slot:=by decide +kernel
  have H5:splitId "BaseException.__getattribute__"=some ("BaseException", "__getattribute__"):=by decide +kernel
  have ha:=F.args_bexc_ga (.ref x) (.str "__class__" tk);obtain ⟨hh,g,dr,t,os⟩:=s;have L0:=I.type (M:=model prog w);have L1:=looks_mroIn (M:=model prog w) X c.exc;have L2:=looks_find (M:=model prog w) X I hf;have LI:Looks (model prog w) hh (isInstance (.ref x) (.type "BaseException")) true:=L0.andThen L1;refine codeAny_call_builtin F.attr_ValueError.ga.plain F.entry_bexc_ga ?_;simp only [checkBuiltinCall,hk,H5];refine zC1 (LI.at ?_);simp only [Bool.not_true,false_eq_true,if_false];unfold argsOk at ha;have rest:wpAny (model prog w) A.in1 (Builtin.«object.__getattribute__» { pos:=[Value.ref x,Value.str (ofString "__class__") tk] })
    (fun fin s'=>match fin with | .done f=>R (.ok f) s' | .again c'=>c'.quiet=true/\codeAny (model prog w) A c' R s') (fun e s'=>R (.error e) s') { heap:=hh,gens:=g,drawn:=dr,toks:=t,os:=os }:=by
   unfold Builtin.«object.__getattribute__»;refine wpAny_bind (m:=slotArgs "__getattribute__" 1 _) (zC2 ?_);refine wpAny_bind (m:=Builtin.ObjectAttr.attrName _) (zC2 ?_);refine zC1 (L0.at (zC1 (L2.at ?_)));refine zC1 (wpAny_holding (wpAny_call (class_get (ox:=ox) (od:=none) X I c.obj ?_)));exact wpAny_pure hR
  generalize Manifest.signature? "BaseException.__getattribute__"=sgn at ha ⊢;cases sgn with
  | none=>exact wpAny_pure rest
  | some sig=>
   simp only at ha ⊢;rw [ha];exact wpAny_pure rest
 obtain ⟨hh,g,dr,t,os⟩:=s;have L0:=I.type (M:=model prog w);have L1:=looks_findIn (M:=model prog w) X c.ga;have L2:=looks_findIn (M:=model prog w) X c.gh;unfold getAttr? getAttrBy?;refine zC1 (wpAny_mkText (zC1 (wpAny_attempt ?_)))
 skip
 refine wpAny_holding (zC1 (L0.at (zC1 (L1.at ?_))));have H0:(onTheHeap (Value.ref D)&&Value.builtin "BaseException.__getattribute__"==Value.builtin "object.__getattribute__")=false:=by
  have:(Value.builtin "BaseException.__getattribute__"==Value.builtin "object.__getattribute__")=false:=by decide +kernel
  rw [this]; rfl
 simp only [H0,false_eq_true,if_false];unfold getAttrByItsOwn hookBefore;refine zC1 ?_;refine dO (rfl:onTheHeap (Value.ref D)=true) ?_;refine L2.at ?_;refine zC1 (wpAny_attempt (wpAny_holding ?_));refine (?_:wpAny _ _ (boundAndCalled _ _ _) _ _ _);unfold boundAndCalled;rw [F.attr_ValueError.ga.bind];simp only [pure_bind];refine wpAny_call (Hc _ _ _ _ X I ?_);exact handed_on rfl (wpAny_pure h)
theorem wH (X:K.In s.heap) (I:InstAt s.heap x ox D none) (co:XCls K D) (hn:specialIn K (.builtin "object.__class__") "__get__"=some (some (.builtin "getset_descriptor.__get__"))) (IJ:takesIn K (.builtin "object.__class__")=some true)
  (Gh:∀ (M:Model) h',K.In h'->Looks M h' (typeOf c) (.type "type")) (IM:∀ (M:Model) h',K.In h'->Looks M h' (isType c) true)
  (EA:(Value.ref D==c)=false) (FD:∀ (M:Model) h',K.In h'->Looks M h' (isSubtype (.ref D) c) false) (h:Q (.bool false) { s with toks:=s.toks+1 }):wpAny (model prog w) A (call (.builtin "isinstance") [.ref x,c]) Q E s:=by
 refine call_isinstance (S:=fun U R s=>(K.In s.heap/\InstAt s.heap x ox D none)/\R (.ok (.ret (.bool false))) { s with toks:=s.toks+1 }) (fun prog w A R s hs=>isinstance_outer ?_ (by intro q; (injection q; done))) ⟨⟨X,I⟩,h⟩;obtain ⟨⟨X,I⟩,h⟩:=hs;have LF:=gA (M:=model prog w) X co.dct;have L1:=Gh (model prog w) _ X;have L2:=IM (model prog w) _ X;have L3:=FD (model prog w) _ X;obtain ⟨h0,g,d,tt,os⟩:=s;have L0:=I.type (M:=model prog w);have LI:Looks (model prog w) h0 (isInstance (.ref x) c) false:=L0.andThen L3
 skip
 refine zC1 (L0.at ?_);refine bu (fun q=>by rw [EA] at q; exact Bool.noConfusion q) ?_;refine zC1 (L1.at ?_);refine dO (by decide) ?_
 k_delta "plainIsInstance"
 refine zC1 (zC1 (L2.at ?_));simp only [Bool.not_true,false_eq_true,if_false];refine zC1 (LI.at ?_);simp only [false_eq_true,if_false];refine zC1 (vx X I co hn IJ ?_);refine zC1 (LF.at ?_);simp only [Bool.not_true,false_eq_true,if_false];refine (bRu ?_);refine L3.at ?_;first
  | exact wpAny_pure h
  | exact zC2 (wpAny_pure h)
  | exact (bPu (wpAny_pure h))
def zv (X:K.In s.heap) (I:InstAt s.heap x ox D none)
  (Gh:∀ (M:Model) h',K.In h'->Looks M h' (typeOf c) (.type "type")) (IM:∀ (M:Model) h',K.In h'->Looks M h' (isType c) true)
  (FD:∀ (M:Model) h',K.In h'->Looks M h' (isSubtype (.ref D) c) true) (h:Q (.bool true) s):wpAny (model prog w) A (call (.builtin "isinstance") [.ref x,c]) Q E s:=by
 refine call_isinstance (S:=fun U R s=>(K.In s.heap/\InstAt s.heap x ox D none)/\R (.ok (.ret (.bool true))) s) (fun prog w A R s hs=>isinstance_outer ?_ (by intro q; (injection q; done))) ⟨⟨X,I⟩,h⟩;refine av fun Z7 kZ7=>?_;obtain ⟨⟨X,I⟩,h⟩:=hs;refine kZ7 ?_;have L1:=Gh (model prog w) _ X;have L2:=IM (model prog w) _ X;have L3:=FD (model prog w) _ X;refine av fun Z8 HW=>?_;obtain ⟨h0,g,d,tt,os⟩:=s;refine HW ?_;have L0:=I.type (M:=model prog w);have LI:Looks (model prog w) h0 (isInstance (.ref x) c) true:=L0.andThen L3;unfold Builtin.«isinstance.nested»;refine zC1 (L0.at ?_);by_cases q:(Value.ref D==c)=true
 ·rw [if_pos q];refine (bRu ?_);first
   | exact wpAny_pure h
   | exact zC2 (wpAny_pure h)
   | (refine zC1 ?_; exact zC2 (wpAny_pure h))
 ·rw [if_neg q];refine zC1 (L1.at ?_);refine dO (by decide) ?_
  k_delta "plainIsInstance"
  refine zC1 (zC1 (L2.at ?_));simp only [Bool.not_true,false_eq_true,if_false];refine zC1 (LI.at ?_);refine dO rfl ?_;exact zC2 (wpAny_pure h)
def qx (X:K.In s.heap) (he:s.heap.get? e=some oe) (Ic:oe.cls=.ref D)
  (Gh:∀ (M:Model) h',K.In h'->Looks M h' (typeOf (.ref C)) (.type "type")) (Ff:∀ (M:Model) h',K.In h'->Looks M h' (isExcClass (.ref C)) true) (FD:∀ (M:Model) h',K.In h'->Looks M h' (isSubtype (.ref D) (.ref C)) b) (hq:Q b s) :
  wpAny (model prog w) A (excMatches (.ref e) (.ref C)) Q E s:=by
 have L1:=Gh (model prog w) _ X;have L2:=Ff (model prog w) _ X;have L3:=FD (model prog w) _ X;have LT:Looks (model prog w) s.heap (isInstance (.ref C) (.type "tuple")) false:=L1.andThen (.of_pure tc_notTuple);have L0:Looks (model prog w) s.heap (typeOf (.ref e)) (.ref D):=Ic▸(Looks.ld he).andThen .now;unfold excMatches;refine zC1 (LT.here ?_);simp only [false_eq_true,if_false,pure_bind,forIn_cons,forIn_nil,bind_assoc];refine zC1 (L2.here ?_);simp only [Bool.not_true,false_eq_true,if_false,pure_bind];refine zC1 (L0.here ?_);refine zC1 (L3.here ?_);cases b
 ·exact wpAny_pure hq
 ·exact wpAny_pure hq
end
structure XClss (g:Gl):Prop where
 raises:∀ c,c < g.nc->RaiseOk g c
 catches:∀ c c',c < g.nc->c' < g.nc->m6 g c c' (g.P.sup c c')
 isi:∀ c c',c < g.nc->c'<=g.nc->Ad g c (iJ g c') (g.P.sup c c')
def C2 (X:g.K.In g.h0) (hn:specialIn g.K (.builtin "object.__class__") "__get__"=some (some (.builtin "getset_descriptor.__get__"))) (IJ:takesIn g.K (.builtin "object.__class__")=some true)
  (Ic:∀ c,c < g.nc->l7 g.K g.P.sup g.nc g.cls c=true) (hr:∀ c,c < g.nc->RaiseOk g c):XClss g:=by
 have un:∀ c,c < g.nc->XCls g.K (g.cls c)/\mroIn g.K (g.cls c) (.type "BaseException")=some true/\typeIn g.K (.ref (g.cls c))=some (.type "type")/\mroIn g.K (g.cls c) (.type "ValueError")=some (g.P.sup c g.nc)/\g.P.sup c c=true/\∀ c',c' < g.nc->mroIn g.K (g.cls c) (.ref (g.cls c'))=some (g.P.sup c c'):=fun c hc=>by
  refine av fun Z9 kZ9=>?_;obtain ⟨h1,e⟩:=a2 (Ic c hc);obtain ⟨h0,e⟩:=a2 e;obtain ⟨h2,e⟩:=a2 e;obtain ⟨h3,e⟩:=a2 e;obtain ⟨h4,e⟩:=a2 e;obtain ⟨h5,e⟩:=a2 e;obtain ⟨h6,e⟩:=a2 e;obtain ⟨h7,e⟩:=a2 e;obtain ⟨h9,h8⟩:=a2 e;refine kZ9 ?_;exact ⟨⟨eq_of_beq h1,eq_of_beq h0,eq_of_beq h5,h2,eq_of_beq h3,eq_of_beq h4⟩,eq_of_beq h5,eq_of_beq h6,eq_of_beq h7,h9,fun c' q=>eq_of_beq (Qa.mp h8 c' (mem_range.mpr q))⟩
 refine ⟨hr,fun c c' hc ER=>?_,fun c c' hc ER=>?_⟩
 ·intro A E Q s e o st he FB hq;refine av fun Z12 Lo=>?_;obtain ⟨a1,a2,a3,a4,a6,a5⟩:=un c hc;obtain ⟨b1,b2,b3,b4,b6,b5⟩:=un c' ER;refine Lo ?_;refine qx (K:=g.K) (X.keeps st) he FB (fun M h' X'=>looks_typeIn X' b3) (fun M h' X'=>?_) (fun M h' X'=>looks_mroIn X' (a5 c' ER)) hq;exact (gA X' b1.dct).andThen (looks_mroIn X' b2)
 ·intro A E Q s e o st he FB Gj Fy hq;obtain ⟨a1,a2,a3,a4,a6,a5⟩:=un c hc;have I:InstAt s.heap e o (g.cls c) none:=⟨he,FB,by obtain ⟨vs,hv⟩:=Fy; unfold notCls; rw [hv],by rw [Gj]; trivial⟩;unfold iJ;by_cases hv:c'=g.nc
  ·rw [if_pos hv];have Gh:∀ (M:Model) h',g.K.In h'->Looks M h' (typeOf (.type "ValueError")) (.type "type"):=fun M h' U=>.of_pure rfl;have IM:∀ (M:Model) h',g.K.In h'->Looks M h' (isType (.type "ValueError")) true:=fun M h' U=>.of_pure rfl;cases hb:g.P.sup c c' with
   | true=>rw [hb] at hq; exact zv (K:=g.K) (X.keeps st) I Gh IM (fun M h' X'=>looks_mroIn X' (by rw [a4,<- hv,hb])) (hq s.toks)
   | false=>rw [hb] at hq; exact wH (K:=g.K) (X.keeps st) I a1 hn IJ Gh IM rfl (fun M h' X'=>looks_mroIn X' (by rw [a4,<- hv,hb])) (hq _)
  ·rw [if_neg hv];have G7:c' < g.nc:=lt_of_le_of_ne ER hv;obtain ⟨b1,b2,b3,b4,b6,b5⟩:=un c' G7;cases hb:g.P.sup c c' with
   | true=>rw [hb] at hq; exact zv (K:=g.K) (X.keeps st) I (fun M h' X'=>looks_typeIn X' b3) (fun M h' X'=>gA X' b1.dct) (fun M h' X'=>looks_mroIn X' (by rw [a5 c' G7,hb])) (hq s.toks)
   | false=>
    rw [hb] at hq;refine wH (K:=g.K) (X.keeps st) I a1 hn IJ (fun M h' X'=>looks_typeIn X' b3) (fun M h' X'=>gA X' b1.dct) ?_ (fun M h' X'=>looks_mroIn X' (by rw [a5 c' G7,hb])) (hq _);cases EA:(Value.ref (g.cls c)==Value.ref (g.cls c')) with
    | false=>rfl
    | true=>
     have:=Value.ref.inj (eq_of_beq EA);have q':=a5 c' G7;replace q':=hb▸a6▸(a5 c hc)▸this.symm▸q';(injection q'; done)
def Aq {g:Gl} {A:Around} {fx:Fx} {h:Heap} (e:fx.A=A.deeper fx.env) (f:fD g fx.A h):FxTop fx:=by
 obtain ⟨l,hl,q⟩:=f;replace hl:=e▸hl;have E4:A.frames.map (fx.env :: ·)=some l:=hl;cases ha:A.frames with
 | none=>replace E4:=ha▸E4; (injection E4; done)
 | some Ep=>
  replace E4:=ha▸E4;(injection E4 with E4; subst E4);obtain ⟨_,L,_,hf,_⟩:=q fx.env (.head _);exact ⟨Ep,L,by rw [e]; exact hl,hf⟩
set_option tactic.hygienic true in
def gM {K:Frag} {h:Heap} {a:Addr} {m:Str->Option Value} {x:Str} {r:Option Value} (X:K.In h) (n:h.Ns a m) (e:nsIn K a x=some r):m x=r:=by
 unfold nsIn at e;split at e
 ·rename_i c d es p sl ho;obtain ⟨o,Ge,ep,ED,hd,hs,hf⟩:=n;rw [X _ _ ho] at ED;(injection ED with ED; subst ED);(injection hd with hd; subst hd);refine (hf x)▸?_;unfold nsFind findBy;refine (Array.find?_toList)▸?_;split at e
  ·rename_i en he; (injection e with e; subst e); rw [he]; rfl
  ·rename_i he;split at e
   ·(injection e; done)
   ·(injection e with e; subst e); rw [he]; rfl
 ·(injection e; done)
def pS {ps:List Str}:∀ {vals:List Value},ps.length=vals.length->∀ n∈ps,((ps.zip vals).lookup n).isSome=true:=by
 induction ps with
 | nil=>intro vals _ n hn; cases hn
 | cons p ps ih=>
  intro vals h n hn;cases vals with
  | nil=>(injection h; done)
  | cons v vals=>
   rw [List.zip_cons_cons,lookup_cons];cases hb:n==p with
   | true=>rfl
   | false=>
    rcases mem_cons.mp hn with rfl | hn
    ·simp at hb
    ·exact ih (Nat.succ.inj h) n hn
theorem pq:∀ {l:List α},(∀ x∈l,f x=g x)->l.filterMap f=l.filterMap g
 | [],_=>rfl
 | a :: l,h=>by rw [filterMap_cons,filterMap_cons,h a (.head _),pq fun x hx=>h x (.tail _ hx)]
def pU {ps:List Str}:∀ {vals:List Value},ps.Nodup->ps.length=vals.length->ps.filterMap (fun n=>((ps.zip vals).lookup n).map (n,·))=ps.zip vals:=by
 induction ps with
 | nil=>intro vals _ _; rfl
 | cons p ps ih=>
  intro vals hn h;cases vals with
  | nil=>(injection h; done)
  | cons v vals=>
   obtain ⟨h1,h2⟩:=nodup_cons.mp hn;refine List.zip_cons_cons.symm▸filterMap_cons.symm▸?_;simp only [lookup_cons,beq_self_eq_true,map_some]
   congr 1
   refine Eq.trans (pq fun n F9=>?_) (ih h2 (Nat.succ.inj h));have:(n==p)=false:=beq_false_of_ne fun e=>h1 (e▸F9);rw [this]
def pM {α β γ:Type} {l:List α} {b:β} {f:α->β->Sem (ForInStep β)} {g:β->Sem γ} {r:Sem γ} (h:l=[]) (k:g b=r):(forIn l b f >>= g)=r:=by subst h; exact k
def oD {fd:FuncData} {ps:List Str} {vals:List Value} (h1:fd.params.posonlyargs=[]) (h2:fd.params.args.map (·.arg)=ps) (h3:fd.params.kwonlyargs=[]) (h4:fd.params.vararg=none) (h5:fd.params.kwarg=none)
  (h6:fd.defaults=.none) (hn:ps.Nodup) (hl:vals.length=ps.length):bindArgs fd ⟨vals,[]⟩=pure (ps.zip vals):=by
 have hm:(filter (fun n=>(lookup n (ps.zip vals)).isNone) ps)=[]:=by
  rw [List.filter_eq_nil_iff];intro n hn;rw [isNone_iff_eq_none];exact Option.isSome_iff_ne_none.mp (pS hl.symm n hn)
 obtain ⟨nm,qn,⟨po,as,va,ko,kd,kw,df⟩,body,sc,gl,cl,dfs,kdf,doc,pm,an,cd,ct,bl⟩:=fd;obtain rfl:po=[]:=h1;obtain rfl:ko=[]:=h3;obtain rfl:va=none:=h4;obtain rfl:kw=none:=h5;obtain rfl:dfs=.none:=h6;have h2:as.map Arg.arg=ps:=h2;have e1:(decide (vals.length > ([]++as.map Arg.arg).length)&&true)=false:=by rw [nil_append,h2,hl,Bool.and_true]; exact decide_eq_false (lt_irrefl _)
 have e2:(!(filter (fun n=>(lookup n (([]++as.map Arg.arg).zip vals)).isNone) (([]++as.map Arg.arg).take (([]++as.map Arg.arg).length - (([]:List Value).drop (([]:List Value).length - ([]++as.map Arg.arg).length)).length))).isEmpty)=false:=by
  rw [nil_append,h2,List.drop_nil,length_nil,sub_zero,take_length,hm]; rfl
 have e4:(([]++as.map Arg.arg).drop (([]++as.map Arg.arg).length - (([]:List Value).drop (([]:List Value).length - ([]++as.map Arg.arg).length)).length)).zip (([]:List Value).drop (([]:List Value).length - ([]++as.map Arg.arg).length))=[]:=by rw [List.drop_nil,List.zip_nil_right]
 have e3:(([]++as.map Arg.arg)++[]).filterMap (fun n=>(lookup n (([]++as.map Arg.arg).zip vals)).map (n,·))=ps.zip vals:=by
  rw [append_nil,nil_append,h2,pU hn hl.symm]
 exact (if_neg (eq_false_iff.mp e1)).trans ((if_neg (eq_false_iff.mp e2)).trans (pM e4 (pM rfl (congrArg pure e3))))
def yS {K:Frag} {h:Heap} {cd:Value} {q:Str} (X:K.In h) (e:mV K cd q=true):h.CodeRec cd q:=by
 unfold mV at e;split at e
 ·split at e
  ·rename_i ho;split at e
   ·rename_i hv;have:=eq_of_beq e;subst this;exact ⟨_,_,_,_,rfl,X _ _ ho,rfl,hv⟩
   ·(injection e; done)
  ·(injection e; done)
 ·(injection e; done)
def Au (H:GOk g Z) (h1:chkSs Z fn.body ⟨fd.scope.names,nms.zipIdx,nms.length,fn.nslots,false,nw⟩ body=true) (h2:(!safe||chkSs Z fn.body ⟨fd.scope.names,nms.zipIdx,nms.length,fn.nslots,true,nw⟩ body)=true) :
  kN g d a fn fd body nms safe nw:=fun hm A L bad hs oa G K s hd I=>by
 have top:FxTop (wU g A fd nms fn.nslots a L bad d hm nw):=Aq (A:=A) rfl I.fr;refine zg (n:=d) H fn.body (wU g A fd nms fn.nslots a L bad d hm nw) body rfl rfl top ?_ oa G K s hd I;cases hm with
 | false=>exact h1
 | true=>exact Ba h2 (hs rfl)
set_option tactic.hygienic true in
def sP {g:Gl} {K:Frag} {Z:Zx} {a:Addr} {fn:Fn} {nms:List Str} {safe nw:Bool} (H:GOk g Z) (X:K.In g.h0) (e0:rn K a=true) (e:jN Z fn nms safe nw (fm K a)=true):∃ fd body nms,FnAt g a fn fd body nms/\∀ d,kN g d a fn fd body nms safe nw:=by
 unfold rn at e0;unfold fm at e;split at e0
 ·rename_i c d fd sl ho;replace e:=ho▸e;dsimp only at e;split at e
  ·rename_i body hb;obtain ⟨h1,e0⟩:=a2 e0;obtain ⟨h2,e0⟩:=a2 e0;obtain ⟨h3,e0⟩:=a2 e0;obtain ⟨h4,KR⟩:=a2 e0;obtain ⟨h5,e⟩:=a2 e;obtain ⟨h6,e⟩:=a2 e;obtain ⟨h7,e⟩:=a2 e;obtain ⟨h8,e⟩:=a2 e;obtain ⟨h9,e⟩:=a2 e;obtain ⟨FP,e⟩:=a2 e;obtain ⟨KS,e⟩:=a2 e;obtain ⟨L7,e⟩:=a2 e;obtain ⟨HG,e⟩:=a2 e;obtain ⟨KQ,e⟩:=a2 e;obtain ⟨h16,e⟩:=a2 e;obtain ⟨h17,e⟩:=a2 e;obtain ⟨h18,h19⟩:=a2 e;have HG:=oZ HG;have KQ:=of_decide_eq_true KQ;refine ⟨fd,body,nms,⟨⟨_,X _ _ ho,rfl⟩,hb,yS X h1,eq_of_beq h2,eq_of_beq h3,isEmpty_iff.mp h4,not_eq_true' _▸h5,not_eq_true' _▸h6,eq_of_beq h7,fun vals hv=>?_,HG,KQ,of_decide_eq_true h16,fun x m=>((or_eq_true _ _).mp (Qa.mp h17 x m)).imp eq_of_beq eq_of_beq⟩,fun d=>Au H h18 h19⟩;refine oD (isEmpty_iff.mp h8) (eq_of_beq h9) (isEmpty_iff.mp FP) (isNone_iff_eq_none.mp KS) (isNone_iff_eq_none.mp L7) ?_ (HG.sublist (take_sublist _ _)) (by rw [length_take,hv]; exact (min_eq_left KQ).symm);cases hd:fd.defaults <;> rw [hd] at KR <;> first | rfl | (injection KR; done)
  ·(injection e; done)
 ·(injection e0; done)
def v4 (X:g.K.In g.h0) (e:pI g.K u v=true):∀ (bad:Addr->Prop) h,aL g.h0 h->(∀ a,bad a->g.h0.get? a=none)->Rp g bad h u v:=fun bad h st hb=>by
 cases v with
 | int j=>obtain ⟨t,rfl⟩:=Value.isInt_shape e; exact .int _ _
 | str l=>obtain ⟨t,rfl⟩:=Value.isStrOf_shape e; exact .str _ _
 | _=>(injection e; done)
def Df:bI.all (fun p=>bootBuiltins p.1==some p.2&&p.1 != ("__name__" : Str))=true:=by decide +kernel
def Bx (e:rE g.K g.C g.flds=true):ClsOk g:=by
 refine (a2 e).elim fun h1 e=>?_;obtain ⟨h2,e⟩:=a2 e;obtain ⟨h3,e⟩:=a2 e;obtain ⟨h4,e⟩:=a2 e;obtain ⟨h5,e⟩:=a2 e;obtain ⟨h6,e⟩:=a2 e;obtain ⟨h7,e⟩:=a2 e;exact ⟨eq_of_beq h1,eq_of_beq h2,eq_of_beq h3,h4,h5,fun x m=>eq_of_beq (Qa.mp h6 x m),h7,of_decide_eq_true (a2 e).1,of_decide_eq_true (a2 e).2⟩
def Bb (e1:g.fns=Z.fns) (e2:g.cons=Z.cons) (e3:g.flds=Z.flds) (e4:g.clss=Z.clss) (e5:g.nc=Z.nc) (e6:g.P.sup=Z.sup) (e7:g.safe=Z.safe) (e8:g.newf=Z.newf) (e9:g.fn Z.cf=g.C) (h1:Z.fns.all (fun p=>keepIn g.K (.ref (g.fn p.2)))=true) (h2:Z.meths.all (wM g.K g.C g.flds g.fn)=true):GOk g Z:=
 ⟨e1,e2,e3,e4,e5,e6,e7,e8,e9,fun x f e=>Qa.mp h1 _ (PySem.mem_of_lookup e),fun x f e=>by
  refine (a2 (Qa.mp h2 _ (PySem.mem_of_lookup e))).elim fun q1 q=>?_;obtain ⟨q2,q⟩:=a2 q;exact ⟨fun m=>by rw [elem_iff.mpr m] at q1; exact (nB q1),eq_of_beq q2,eq_of_beq (a2 q).1,(a2 q).2⟩⟩
set_option tactic.hygienic true in
def tT (X:g.K.In g.h0) (hm:g.h0.Ns mainGlobals g.mg) (hb:g.h0.Ns builtinsNs g.mb) (hl:g.h0.NoLimit) (LS:∀ x:Str,x≠"__name__"->g.mb x=bootBuiltins x) (h0:(g.K.lookup sysModules).isSome=true) (hc:rE g.K g.C g.flds=true)
  (h1:g.fns.all (fun p=>nsIn g.K mainGlobals p.1==some (some (.ref (g.fn p.2))))=true) (h3:g.cons.all (rC g.K)=true) (h4:bI.all (fun p=>nsIn g.K mainGlobals p.1==some none)=true)
  (h5:g.clss.all (fun p=>decide (p.2 < g.nc)&&nsIn g.K mainGlobals p.1==some (some (.ref (g.cls p.2))))=true) (hx:XClss g):Ground g where
 main:=hm
 blt:=hb
 nolim:=hl
 sysm:=(isSome_iff_exists.mp h0).elim fun o e=>⟨o,X _ _ e⟩
 frag:=X
 cls:=Bx hc
 fns:=fun x f e=>gM X hm (eq_of_beq (Qa.mp h1 _ (PySem.mem_of_lookup e)))
 cons:=fun x v e=>by
  have q:=Qa.mp h3 _ (PySem.mem_of_lookup e);unfold rC at q;split at q
  ·rename_i u hu; exact ⟨u,gM X hm ((wB ..).symm.trans hu),v4 X q⟩
  ·(injection q; done)
 blts:=fun x v e=>by
  have q:=a2 (Qa.mp Df _ (PySem.mem_of_lookup e));exact ⟨gM X hm (eq_of_beq (Qa.mp h4 _ (PySem.mem_of_lookup e))),(LS x (bne_iff_ne.mp q.2)).trans (eq_of_beq q.1)⟩
 clss:=fun x c e=>by
  have q:=a2 (Qa.mp h5 _ (PySem.mem_of_lookup e));exact ⟨of_decide_eq_true q.1,gM X hm (eq_of_beq q.2)⟩
 raises:=hx.raises
 catches:=hx.catches
 isi:=hx.isi
theorem jL (gr:Ground g) (Fw:∀ f fn,g.P.fns[f]?=some fn->fn.init=false->∃ fd body nms,FnAt g (g.fn f) fn fd body nms/\∀ d,kN g d (g.fn f) fn fd body nms (g.safe f) (g.newf f)) (KG:∀ f fn,g.P.fns[f]?=some fn->fn.init=true->g.fn f=g.C/\g.safe f=false/\∀ d,InitAt g d fn):∀ d,ft g (ao g.P d) d
 | 0=>fun hm f args K A s bad vals hc=>hc.elim
 | d+1=>oC gr (fun f fn h hi=>(Fw f fn h hi).elim fun fd q=>q.elim fun body q=>q.elim fun nms q=>⟨fd,body,nms,q.1,q.2 d⟩) (fun f fn h hi=>(KG f fn h hi).imp id fun q=>q.imp id fun q=>q d) (jL gr Fw KG d)
def qH (xs:List WData):WShape.hasItems [] xs .int=true->∃ is:List Int,xs=is.map .int:=by
 induction xs with
 | nil=>exact fun U=>⟨[],rfl⟩
 | cons x xs ih=>
  intro h;have h:=a2 (b:=WShape.hasItems [] xs .int) h;have h1:=h.1;cases x with
  | int i=>exact (ih h.2).elim fun is e=>⟨i :: is,congrArg _ e⟩
  | _=>(injection h1; done)
noncomputable def Bu (v:Option WData):Bool:=match (match (match v with | some (.bool b)=>some (WData.bool (!b)) | _=>none) with | some (.bool false)=>some (WData.bool false) | some (.bool true)=>some (WData.bool true) | _=>none) with | some (.bool true)=>true | _=>false
noncomputable def C7 (b:Bool):Bool:=match some (WData.bool b) with | some (.bool true)=>true | _=>false
def tE:same (.bool true) (.bool true)=true:=by simp only [same,beq_self_eq_true]
def A0 (h:(WTm.and (.not (.lt (.lit (.int (63:Nat))) (.len (.arg 0)))) (.lit (.bool true))).holds [] { args:=[.list xs] }=true):xs.length<=63:=by
 have h:Bu (some (.bool (decide (((63:Nat):Int) < (xs.length:Int)))))=true:=h;by_cases hq:((63:Nat):Int) < (xs.length:Int)
 ·rw [decide_eq_true hq] at h; (injection h; done)
 ·lia
def AC {l:OpenLaw} (hm:l.most=some 63) (hb:l.bound=none):l.pre=.and (.not (.lt (.lit (.int (63:Nat))) (.len (.arg 0)))) (.lit (.bool true)):=by
 unfold OpenLaw.pre; rw [hm,hb]
def tC {l:OpenLaw} (hm:l.most=some 63) (hb:l.bound=none) {args:List WData} (h:l.row.claim.pre args=true):∃ is:List Int,args=[.list (is.map .int)]/\is.length<=63:=by
 have h:=a2 (a:=WShape.hasAll [] args [.list .int]) (b:=l.pre.holds [] { args:=args }) h;rw [AC hm hb] at h;cases args with
 | nil=>(injection h.1; done)
 | cons x r=>
  have h1:=a2 (a:=WShape.has [] x (.list .int)) h.1;cases r with
  | cons y r=>(injection h1.2; done)
  | nil=>
   have h2:=h1.1;cases x with
   | list xs=>
    have h2:(WShape.hasItems [] xs .int||false)=true:=h2;rw [Bool.or_false] at h2;refine (qH xs h2).elim fun is e=>⟨is,congrArg (fun xs=>[WData.list xs]) e,?_⟩;have:=A0 h.2;rw [e,zA4] at this;exact this
   | _=>(injection h2; done)
set_option tactic.hygienic true in
def tF (is:List Int):∀ vs:List Value,WellAll P g.h0 vs (is.map .int)->RpAll g (fun U=>False) g.h0 vs (is.map .int):=by
 induction is with
 | nil=>intro vs w; cases w; exact .nil
 | cons i is ih=>
  intro vs w;cases w with
  | cons w ws=>cases w with
   | int _ t=>exact .cons (.int i t) (ih _ ws)
set_option tactic.hygienic true in
def vG {l:OpenLaw} (hm:l.most=some 63) (hb:l.bound=none) {g:Gl} {f d:Nat} {cl:Str->Option Addr} {Jh:ExcName->Option Value} {s₁:Shared} {args:List WData} {vals:List Value} {Pm:Params}
  (call:ft g (ao g.P d) d) (hg:g.prog=l.row.prog) (h0:g.h0=s₁.heap) (ho:g.os=s₁.os) (hgn:s₁.gens=#[]) (hd:d<=40)
  (H7:l.row.claim.pre args=true) (Lr:WellAll Pm s₁.heap vals args)
  (plain:∀ scr:List Int,scr.length<=63->ao g.P d f [.list (scr.map .int)] fun y=>y=.bool true) :
  wpAny (model l.row.prog g.w) callerA (PySem.call (.ref (g.fn f)) vals) (fun v s'=>GoodWG l.row.claim cl Jh args s₁ (.ok (.ret v)) s') (fun e s'=>GoodWG l.row.claim cl Jh args s₁ (.error e) s') s₁:=by
 obtain ⟨is,rfl,EB⟩:=tC hm hb H7;cases Lr with
 | cons w ws=>
 cases ws
 cases w with
 | list ha hws=>
 rename_i a vs;have rp:RpAll g (fun U=>False) s₁.heap [.ref a] [.list (is.map .int)]:=by
  rw [<- h0] at hws ha ⊢;exact .cons (.list id ha ⟨rfl,rfl⟩ rfl (by rw [List.toList_toArray]; exact tF _ _ hws)) .nil
 have B:Base g s₁:=⟨by rw [h0]; exact fun b o e=>e,ho.symm,hgn⟩;have w:=call false f [.list (is.map .int)] _ callerA s₁ (fun U=>False) [.ref a] (plain is EB) (fun U=>rfl) nofun (by refine (?_:1+claimMargin+2 * d < 990); exact Q1 (Q6 (mul_le_mul_left 2 hd) _) (by decide))
  (by refine (?_:4+4 * d+100 < cLine); have:(1000:Nat)<=cLine:=(by decide +kernel); exact Q0 (Q1 (add_le_add_right (Q6 (mul_le_mul_left 4 hd) 4) 100) (by decide)) this) B ⟨_,rfl,fun env m=>nM m⟩ (fun a q=>q.elim) (fun a q=>q.elim) rp
 rw [hg] at w;refine wpAny_mono w (fun v s' p=>?_) fun _ _ ⟨_,_,c,e,_,_,q,_⟩=>nomatch q;obtain ⟨B',_,y,rfl,_,r,_⟩:=p;refine r.bool_elim ?_;refine GoodW.toG ⟨.inl ⟨_,.bool true,[],rfl,fun cls=>rfl,ReadsW.bool true,(by
  refine (?_:(WShape.has [] (.bool true) .bool&&(WTm.eq .res (.lit (.bool true))).holds [] _)=true);refine zA3 ⟨rfl,?_⟩;exact congrArg C7 tE),fun U=>⟨nodup_nil,fun a ha=>(nM ha)⟩⟩,?_,B'.os.trans ho,B'.gens⟩
 have:=B'.stays;rw [h0] at this;exact fun b o e=>this b o e
end Mine
end
noncomputable section
namespace Mine.L08
open PySem PySem.Calls PyProof.Rows PySem.W
def ug:@jO mJ 0 fns nms xA=true:=by kernel_rfl
def DC:jO 0 fns nms xA=true:=sR▸ug
theorem rm {K:Frag}:∀ {i:Nat} {fns:List Fn} {n:List (List Str)} {A:List Addr} {b:List (Option gF)},jO i fns n b=true->A.map (fm K)=b->∀ {f:Nat} {fn:Fn},fns[f]?=some fn->A.getD f 0∈A/\∃ m,jN Z fn m (safe (i+f)) (newf (i+f)&&!fn.init) (fm K (A.getD f 0))=true
 | _,[],_,_,_,_,_,_,_,h=>nN h.symm
 | _,_ :: _,[],_,_,e,_,_,_,_=>nB e
 | _,_ :: _,_ :: _,_,[],e,_,_,_,_=>nB e
 | _,_ :: _,_ :: _,[],_ :: _,_,q,_,_,_=>nomatch q
 | i,fn :: r,n :: m,a :: A,b :: B,e,q,0,_,h=>by
  (injection h with h; subst h);obtain ⟨q1,q2⟩:=zA5 q;refine ⟨.head _,n,?_⟩;refine (?_:jN Z fn n _ _ (fm K a)=true);rw [q1]; exact (a2 e).1
 | i,fn :: r,n :: m,a :: A,b :: B,e,q,f+1,_,h=>by
  obtain ⟨q1,q2⟩:=zA5 q;rw [show i+(f+1)=i+1+f from (succ_add i f).symm];exact (rm (a2 e).2 q2 (f:=f) h).imp (.tail _) id
theorem te {K:Frag}:∀ {n:Nat},mW K n=true->∀ {c:Nat},c < n->l7 K sup 8 (fun c=>clsA.getD c 0) c=true
 | n+1,e,c,h=>by
  by_cases q:c=n
  ·subst q; exact (a2 e).1
  ·exact te (a2 e).2 (lt_of_le_of_ne (Q8 h) q)
def yu:(List.range 43).all (fun f=>(fns[f]?).all fun fn=>if fn.init=true then f==14 else fnB.getD f 0==fnA.getD f 0)=true:=rfl
def sK (h:fns[f]?=some fn):(if fn.init=true then f==14 else fnB.getD f 0==fnA.getD f 0)=true:=by
 have:=Qa.mp yu f (mem_range.mpr (List.getElem?_eq_some_iff.mp h).1);rw [h] at this;exact this
noncomputable def zn (p:Program) (x:Str):Bool:=(ownsOf p).any fun o=>o.name==x&&(o.bm==[.type "ValueError",.type "Exception",.type "BaseException",.type "object"]&&o.newId=="ValueError.__new__")
def u6 (own:∀ o∈ownsOf p,∃ C,OwnClsQ o.name C o.bm o.newId g.mg g.h0) (hx:zn p x=true) (hc:g.mg x=some (.ref (g.cls c))):RaiseOk g c:=by
 obtain ⟨o,ho,hq⟩:=any_eq_true.mp hx;have h1:=eq_of_beq (a2 hq).1;have h2:=eq_of_beq (a2 (a2 hq).2).1;have h3:=eq_of_beq (a2 (a2 hq).2).2;obtain ⟨C,O⟩:=own o ho;have hb:=O.bound;rw [h1,hc] at hb;cases hb
 obtain ⟨bm,N,nm,q,bs,hdct,sn,sub,ab,col,dd,k0,k1,k2,k3,k5,mN,hC,hN,hqn,T⟩:=O.obj;rw [h3] at hC;rw [h2] at T;exact ⟨nm,q,N,bs,bm,_,hdct,sn,sub,ab,col,dd,k0,k1,k2,k3,k5, "ValueError", "ValueError.__new__",_,mN,PySem.F.excBase_ValueError,T.tail.hasType PySem.F.excBase_ValueError.hasBase,hqn _ (.head _),hC,hN,T.tail⟩
def v5:∀ c,c < 8->clsN.any (fun p=>p.2==c&&clsN.lookup p.1==some c)=true:=by decide
def yV (KX:g.K.In g.h0) (e:chk g.K=true) (KN:fnB.map (fm g.K)=xA) (hf:g.fn=fun f=>fnA.getD f 0) (hC:g.C=mchA) (Fy:g.flds=fldN) (Fw:g.fns=fnN) (KM:g.cons=conN) (hP:g.P=prog) (FB:g.clss=clsN) (JP:g.nc=8) (HC:g.cls=fun c=>clsA.getD c 0) (Fe:g.safe=safe) (Fi:g.newf=newf) (hm:g.h0.Ns mainGlobals g.mg) (hb:g.h0.Ns builtinsNs g.mb) (hl:g.h0.NoLimit) (LS:∀ x:Str,x≠"__name__"->g.mb x=bootBuiltins x)
  (own:∀ o∈ownsOf q,∃ C,OwnClsQ o.name C o.bm o.newId g.mg g.h0) (hq:clsN.all (fun p=>zn q p.1)=true) (d:Nat):Ground g/\ft g (ao g.P d) d:=by
 obtain ⟨e1,e⟩:=a2 e;obtain ⟨e2,e⟩:=a2 e;obtain ⟨e3,e⟩:=a2 e;obtain ⟨e4,e⟩:=a2 e;obtain ⟨e5,e⟩:=a2 e;obtain ⟨e6,e⟩:=a2 e;obtain ⟨e7,e⟩:=a2 e;obtain ⟨e8,e⟩:=a2 e;obtain ⟨e9,e⟩:=a2 e;obtain ⟨e10,e⟩:=a2 e;obtain ⟨Mj,e⟩:=a2 e;obtain ⟨e12,e⟩:=a2 e;obtain ⟨e13,e14⟩:=a2 e;simp only [wB] at e3 e5 Mj;have Jv:g.P.sup=sup:=by rw [hP]; rfl
 have cn:∀ x c,clsN.lookup x=some c->g.mg x=some (.ref (g.cls c)):=fun x c h=>by
  rw [HC];exact gM KX hm (eq_of_beq (a2 (Qa.mp Mj _ (PySem.mem_of_lookup h))).2)
 have xc:XClss g:=C2 KX (eq_of_beq e12) (eq_of_beq e13) (fun c h=>by rw [Jv,JP,HC]; exact te e14 (JP▸h)) fun c h=>by
  obtain ⟨p,mp,hp⟩:=any_eq_true.mp (v5 c (JP▸h));obtain ⟨h1,h2⟩:=a2 hp;exact u6 own (Qa.mp hq _ mp) (cn _ _ (eq_of_beq h2))
 have gr:Mine.Ground g:=tT KX hm hb hl LS e1 (by rw [hC,Fy]; exact e2) (by rw [Fw,hf]; exact e3) (by rw [KM]; exact e4) e5 (by rw [FB,JP,HC]; exact Mj) xc;have ok:GOk g Z:=Bb Fw KM Fy FB JP Jv Fe Fi (by rw [hf,hC]; rfl) (by rw [hf]; exact e6) (by rw [hC,Fy,hf]; exact e7);refine ⟨gr,jL gr (fun f fn h hi=>?_) (fun f fn h hi=>?_) d⟩
 ·rw [hP] at h;obtain ⟨mb,m,q⟩:=rm DC KN h;have mb:=Qa.mp e10 _ mb;have i:=sK h;rw [hi,if_neg Bool.false_ne_true] at i;rw [eq_of_beq i,hi,zero_add,Bool.not_false,Bool.and_true] at q;rw [eq_of_beq i] at mb;rw [Fe,Fi];exact sP ok KX (by rw [hf]; exact mb) (by rw [hf]; exact q)
 ·rw [hP] at h;obtain ⟨mb,m,q⟩:=rm DC KN h;have mb:=Qa.mp e10 _ mb;have i:=sK h;rw [hi,if_pos rfl] at i;obtain rfl:=eq_of_beq i;rw [hi,zero_add,Bool.not_true,Bool.and_false] at q;obtain ⟨fd,body,nm,F,sm⟩:=sP (g:=g) ok KX mb q;exact ⟨by rw [hf,hC]; rfl,by rw [Fe]; rfl,fun d=>⟨195,fd,body,nm,by rw [hC]; exact eq_of_beq e8,eq_of_beq e9,F,sm d⟩⟩
end Mine.L08
end
noncomputable section
namespace Mine
open PySem
noncomputable def evs (cf:ai) (es:List E):List D:=E.rec_1 (motive_1:=fun U=>D) (motive_2:=fun U=>List D) (fun o U ih=>bC cf o ih) [] (fun U U i is=>i :: is) es
noncomputable def exi (sup:Nat->Nat->Bool) (cf:ai) (l:List S):B:=S.rec_1 (motive_1:=fun U=>B) (motive_2:=fun U=>B) (fun o es U U x y=>d7 sup cf o (es.map (ev cf)) x y) (fun G K=>K none G) (fun U U i is G K=>i G fun fl G'=>match fl with | none=>is G' K | some x=>K (some x) G') l
section
variable {sup:Nat->Nat->Bool} {cf:ai} {G:Gs} {K:Option V->Gs->Prop} {e a b c:E} {es:List E} {r:List S} {v x y z:V} {o:Op} {k:Nat} {t u:Bool}
def Val (cf:ai) (G:Gs) (e:E) (v:V):Prop:=∀ K,K v->ev cf e G K
def fN (cf:ai) (G:Gs) (es:List E) (vs:List V):Prop:=∀ K,K vs->bR (evs cf es) G K
def bk (cf:ai) (b:Bool) (G:Gs) (es:List E) (t:Bool):Prop:=∀ K,K t->cw b (evs cf es) G K
def ar {α:Type} {o:Option α} {z:α} {K:α->Prop} (e:o=some z) (h:K z):okK o K:=by rw [e]; exact h
def ix {α:Type} {v:α} (K:α->Prop) (h:K v):K v:=h
theorem fN.nil:fN cf G [] []:=ix
noncomputable def pO (o:Op):Bool:=match o with
 | .bin _ | .neg | .tuple | .list | .sub | .slice _ _ | .attr _ | .isinst _ | .len | .listOf | .lenSet | .isExc _ _ | .tupleOf | .range | .zip=>true
 | _=>false
def C4 (h:pO o=true) {K:V->Prop} (q:bR ds G fun xs=>okK (opN o xs) K):bC cf o ds G K:=by
 cases o <;> first | exact q | exact nB h
theorem fN.cons (h:Val cf G e v) (hs:fN cf G es vs):fN cf G (e :: es) (v :: vs):=fun K k=>h _ (hs _ k)
theorem fN.one (h:Val cf G e v):fN cf G [e] [v]:=.cons h .nil
theorem fN.two (h:Val cf G a x) (h':Val cf G b y):fN cf G [a,b] [x,y]:=.cons h (.cons h' .nil)
def aa {vs:List V} (hv:fN cf G es vs) (e:opN o vs=some z) (ho:pO o=true:=by exact rfl):Val cf G (.nd o es) z:=fun K k=>C4 ho (hv _ (ar e k))
def ae {o:CmpOp} (h:Val cf G a x) (h':Val cf G b y) (e:aX o x y=some t):Val cf G (.nd (.cmp o) [a,b]) (.bool t):=fun K k=>h _ (h' _ (ar e k))
def au (hv:fN cf G es vs) (h:∀ K,K v->cf f vs K) (hn:noX v=true:=by rfl):Val cf G (.nd (.call f) es) v:=fun K k=>hv _ (h _ ⟨hn,k⟩)
def bX (hv:Val cf G e x) (hi:iG x=true) (h:∀ K,K v->cf f [x] K) (hn:noX v=true:=by rfl):Val cf G (.nd (.meth f) [e]) v:=fun K k=>hv _ ⟨hi,h _ ⟨hn,k⟩⟩
def aH (h:Val cf G a (.bool t)):Val cf G (.nd .not [a]) (.bool (!t)):=fun K k=>h _ k
theorem bk.nil {b:Bool}:bk cf b G [] b:=fun U h=>h
theorem bk.go {b:Bool} (h:Val cf G a (.bool b)) (hs:bk cf b G es t):bk cf b G (a :: es) t:=fun K k=>h _ (by refine (?_:if b=b then _ else _); rw [if_pos rfl]; exact hs _ k)
theorem bk.stop {b:Bool} (h:Val cf G a (.bool (!b))):bk cf b G (a :: es) (!b):=fun K k=>h _ (by refine (?_:if (!b)=b then _ else _); rw [if_neg (by cases b <;> decide)]; exact k)
theorem bk.and {t u:Bool} (h:Val cf G a (.bool t)) (hs:t=true->bk cf true G es u):bk cf true G (a :: es) (t&&u):=by
 cases t
 ·exact .stop (b:=true) h
 ·exact .go h (hs rfl)
theorem bk.or {t u:Bool} (h:Val cf G a (.bool t)) (hs:t=false->bk cf false G es u):bk cf false G (a :: es) (t||u):=by
 cases t
 ·exact .go h (hs rfl)
 ·exact .stop (b:=false) h
theorem bk.one (h:Val cf G a (.bool t)):bk cf true G [a] t:=by
 have:=bk.and (es:=[]) h fun U=>.nil;rwa [Bool.and_true] at this
theorem bk.one' (h:Val cf G a (.bool t)):bk cf false G [a] t:=by
 have:=bk.or (es:=[]) h fun U=>.nil;rwa [Bool.or_false] at this
def aA (h:bk cf true G es t):Val cf G (.nd .and es) (.bool t):=fun K k=>h _ k
def bD (h:bk cf false G es t):Val cf G (.nd .or es) (.bool t):=fun K k=>h _ k
def pJ {α:Type} {e:E} {ts:List E} {b:Gs->V->Option Gs} {g:α->V} {H:α->Gs} {p:α->Bool} {f:α->V} {ws:List α}:∀ (ys:List V),(∀ w∈ws,b G (g w)=some (H w))->(∀ w∈ws,bk cf true (H w) ts (p w))->(∀ w∈ws,p w=true->Val cf (H w) e (f w))->∀ K:List V->Prop,K (ys++(ws.filter p).map f)->jH (ev cf e) (evs cf ts) b G (ws.map g) fun zs=>K (ys++zs):=by
 induction ws with
 | nil=>exact fun ys U U U K h=>h
 | cons x xs ih=>
  intro ys hb ht he K h;refine ar (hb x (.head _)) (ht x (.head _) _ ?_);have ih:=fun ys=>ih ys (fun x m=>hb x (.tail _ m)) (fun x m=>ht x (.tail _ m)) fun x m=>he x (.tail _ m);cases hp:p x with
  | false=>
   rw [List.filter_cons_of_neg (by rw [hp]; exact Bool.false_ne_true)] at h;exact ih ys K h
  | true=>
   rw [List.filter_cons_of_pos hp] at h;refine he x (.head _) hp _ ?_;have e1:(fun zs=>K (ys++(f x :: zs)))=fun zs=>K ((ys++[f x])++zs):=funext fun zs=>by rw [append_assoc]; rfl
   refine (?_:jH (ev cf e) (evs cf ts) b G (xs.map g) fun zs=>K (ys++(f x :: zs)));rw [e1];exact ih (ys++[f x]) K (by rw [append_assoc]; exact h)
def jU {α:Type} {s e:E} {ts:List E} {g:α->V} {p:α->Bool} {f:α->V} {ws:List α} (hs:Val cf G s x) (hq:bK x=some (ws.map g)) (ht:∀ w∈ws,bk cf true (G.set k (.v (g w))) ts (p w)) (he:∀ w∈ws,p w=true->Val cf (G.set k (.v (g w))) e (f w)) :
  Val cf G (.nd (.comp k) (s :: e :: ts)) (.list ((ws.filter p).map f)):=fun K h=>hs _ (ar hq (pJ [] (fun U U=>rfl) ht he (fun ys=>K (.list ys)) h))
def gI (h:Val cf G c (.bool t)) (h1:t=true->Val cf G a v) (h2:t=false->Val cf G b v):Val cf G (.nd .ite [c,a,b]) v:=fun K k=>h _ (by
 cases t
 ·exact h2 rfl K k
 ·exact h1 rfl K k)
def tr (h:Val cf G a x) (hi:iG x=true):Val cf G (.nd .isCls [a]) (.bool true):=fun K k=>h _ ⟨hi,k⟩
def uN {l:List V} (hl:bz G k=some l) (h:Val cf (G.set k (.v (.list l))) a (.bool t)):Val cf G (.nd (.lend k) [a]) (.bool t):=fun K n=>ar hl (h _ n)
def tu {α:Type} {s e:E} {ts:List E} {ks:List Nat} {g:α->V} {H:α->Gs} {p:α->Bool} {f:α->V} {ws:List α} (hs:Val cf G s x) (hq:bK x=some (ws.map g)) (hb:∀ w∈ws,aO ks G (g w)=some (H w)) (ht:∀ w∈ws,bk cf true (H w) ts (p w)) (he:∀ w∈ws,p w=true->Val cf (H w) e (f w)) :
  Val cf G (.nd (.compM ks) (s :: e :: ts)) (.list ((ws.filter p).map f)):=fun K h=>hs _ (ar hq (pJ [] hb ht he (fun ys=>K (.list ys)) h))
def BE (ws:List α):ws.filter (fun U=>true)=ws:=List.filter_eq_self.mpr fun U U=>rfl
def b9 {α:Type} {g f:α->V} {ws:List α} (hs:Val cf G s x) (hq:bK x=some (ws.map g)) (he:∀ w∈ws,Val cf (G.set k (.v (g w))) e (f w)) :
  Val cf G (.nd (.comp k) [s,e]) (.list (ws.map f)):=by
 have q:=jU (ts:=[]) (p:=fun U=>true) (f:=f) hs hq (fun U U=>.nil) fun x m U=>he x m;rw [BE] at q;exact q
theorem exi_eq:∀ l:List S,exi sup cf l=exs sup cf l
 | []=>rfl
 | s :: r=>funext fun G=>funext fun K=>by
  refine (?_:ex sup cf s G (fun fl G'=>match fl with | none=>exi sup cf r G' K | some x=>K (some x) G')=_);rw [exi_eq r]; rfl
theorem mK:∀ l:List S,exs sup cf (l++r)=fun G K=>exs sup cf l G (fun fl G'=>match fl with | none=>exs sup cf r G' K | some x=>K (some x) G')
 | []=>rfl
 | s :: l=>by
  funext G K
  refine (?_:ex sup cf s G (fun fl G'=>match fl with | none=>exs sup cf (l++r) G' K | some x=>K (some x) G')=_);rw [mK l]; rfl
def aE (h:K none G):exs sup cf [] G K:=h
def af (h:Val cf G e v) (n:exs sup cf r (G.set k (.v v)) K):exs sup cf (.mk (.assign k) [e] [] [] :: r) G K:=h _ n
def kU {ks:List Nat} {G':Gs} (h:Val cf G e v) (hs:aO ks G v=some G') (n:exs sup cf r G' K):exs sup cf (.mk (.assignM ks) [e] [] [] :: r) G K:=h _ (ar hs n)
def aB (h:Val cf G e v) (n:K (some v) G) (hn:noX v=true:=by rfl):exs sup cf (.mk .ret [e] [] [] :: r) G K:=h _ ⟨hn,n⟩
def cy {A B:List S} (h:Val cf G c (.bool t)) (h1:t=true->exs sup cf (A++r) G K) (h2:t=false->exs sup cf (B++r) G K):exs sup cf (.mk .ite [c] A B :: r) G K:=h _ (by
 refine (?_:if t=true then exi sup cf A G _ else exi sup cf B G _);rw [exi_eq,exi_eq];cases t
 ·have:=h2 rfl; rw [mK] at this; exact this
 ·have:=h1 rfl; rw [mK] at this; exact this)
def bQ {A B:List S} (h:Val cf G c (.bool true)) (h1:exs sup cf (A++r) G K):exs sup cf (.mk .ite [c] A B :: r) G K:=cy h (fun U=>h1) fun q=>nB q.symm
def aC (h:Val cf G c (.bool false)) (h1:exs sup cf r G K):exs sup cf (.mk .ite [c] A [] :: r) G K:=cy h (fun q=>nB q) fun U=>h1
def fP (n:exs sup cf r (G.set k (.ownL [])) K):exs sup cf (.mk (.ownL k) [] [] [] :: r) G K:=⟨zero_le _,n⟩
def bW {l:List V} (hl:bz G k=some l) (h:Val cf G e v) (hz:l.length < am) (n:exs sup cf r (G.set k (.ownL (l++[v]))) K):exs sup cf (.mk (.append k) [e] [] [] :: r) G K:=ar hl (h _ ⟨hz,n⟩)
def uG {l m:List V} (hl:bz G k=some l) (h:Val cf G e (.list m)) (hz:l.length+m.length<=am) (n:exs sup cf r (G.set k (.ownL (l++m))) K):exs sup cf (.mk (.extend k) [e] [] [] :: r) G K:=ar hl (h _ ⟨hz,n⟩)
def cN {l:List V} (hl:bz G k=some l) (n:exs sup cf r (G.set k (.v (.list l))) K):exs sup cf (.mk (.freeze k) [] [] [] :: r) G K:=ar hl n
theorem evs_map:∀ es:List E,es.map (ev cf)=evs cf es
 | []=>rfl
 | e :: es=>congrArg (ev cf e :: ·) (evs_map es)
def l8 (hv:fN cf G es vs) (h:cf f vs fun y=>if noX y=true then isNone y=true/\exs sup cf r G K else K (some y) G):exs sup cf (.mk (.call f) es [] [] :: r) G K:=by
 refine (?_:bR (es.map (ev cf)) G fun xs=>cf f xs fun y=>if noX y=true then isNone y=true/\exs sup cf r G K else K (some y) G);rw [evs_map];exact hv _ h
def m8 (n:exs sup cf r (G.set k (.ownD [])) K):exs sup cf (.mk (.ownD k) [] [] [] :: r) G K:=n
def m7 {l:List (V×V)} (hl:jg G k=some l) (h:Val cf G a v) (h':Val cf G b x) (hk:dJ x=true) (hz:l.length < am) (n:exs sup cf r (G.set k (.ownD (r9 l x v))) K):exs sup cf (.mk (.setD k) [a,b] [] [] :: r) G K:=
 ar hl (h _ (h' _ (ar (if_pos (zA3 ⟨hk,decide_eq_true hz⟩)) n)))
def eJ {l:List (V×V)} (hl:jg G k=some l) (n:exs sup cf r (G.set k (.v (.dict l))) K):exs sup cf (.mk (.freezeD k) [] [] [] :: r) G K:=ar hl n
def Ai {l:List V} {j f:Nat} (h:Val cf G a x) (hl:bz G k=some l) (hz:l.length<=am) (hy:l.getLast?=some y) (h':Val cf (G.set k (.ownL l.dropLast)) b z) (GK:Val cf (G.set k (.ownL l.dropLast)) c v)
  (n:cf f [x,y,z,v] fun w=>noX w=true/\exs sup cf r ((G.set k (.ownL l.dropLast)).set j (.v w)) K):exs sup cf (.mk (.popC j k f) [a,b,c] [] [] :: r) G K:=h _ (ar hl ⟨hz,ar hy (h' _ (GK _ n))⟩)
def wd {l:List V} {i:Int} (hl:bz G k=some l) (h:Val cf G a v) (h':Val cf G b (.int i)) (hi:0<=i/\i < l.length/\l.length<=am) (n:exs sup cf r (G.set k (.ownL (l.set i.toNat v))) K):exs sup cf (.mk (.setL k) [a,b] [] [] :: r) G K:=ar hl (h _ (h' _ (ar (if_pos hi) n)))
def Ah (hv:fN cf G es vs) (h:cf f vs fun y=>K (some y) G):exs sup cf (.mk (.retC f) es [] [] :: r) G K:=by
 refine (?_:bR (es.map (ev cf)) G fun xs=>cf f xs fun y=>K (some y) G);rw [evs_map];exact hv _ h
def Ag (hv:fN cf G es vs) (n:cf f vs fun y=>match mL y with
  | none=>K (some y) G
  | some e=>sup e d=true/\exs sup cf A (G.set k (.v y)) fun fl G'=>match fl with | some z=>noX z=true/\K (some z) (G'.set k .unset) | none=>False):exs sup cf (.mk (.tryC f d k) es A [] :: r) G K:=by
 refine (?_:bR (es.map (ev cf)) G fun xs=>cf f xs fun y=>match mL y with
  | none=>K (some y) G
  | some e=>sup e d=true/\exi sup cf A (G.set k (.v y)) fun fl G'=>(match fl with | some x=>noX x=true | none=>False)/\match fl with | none=>exs sup cf r (G'.set k .unset) K | some x=>K (some x) (G'.set k .unset))
 rw [evs_map,exi_eq];refine hv _ ?_;have e:(fun (fl:Option V) (G':Gs)=>(match fl with | some x=>noX x=true | none=>False)/\match fl with | none=>exs sup cf r (G'.set k .unset) K | some x=>K (some x) (G'.set k .unset))=fun fl G'=>match fl with | some z=>noX z=true/\K (some z) (G'.set k .unset) | none=>False:=funext fun fl=>funext fun G'=>by
  cases fl with
  | none=>exact propext ⟨fun h=>h.1,fun h=>h.elim⟩
  | some z=>rfl
 rw [e];exact n
theorem sO {b:Gs->V->Option Gs} {P:List V->Gs->Prop} (done:∀ G,P [] G->K none G) (turn:∀ x l G,P (x :: l) G->(∀ G',P l G'->eF b A l G' K)->okK (b G x) fun G'=>A G' fun fl HK=>match fl with | none=>eF b A l HK K | some y=>noX y=true/\K (some y) HK):∀ xs G,P xs G->eF b A xs G K
 | [],G,h=>done G h
 | x :: l,G,h=>turn x l G h (sO done turn l)
def qV {op:SOp} {b:Gs->V->Option Gs} {s:E} {body:List S} {xs:List V} {P:List V->Gs->Prop} (Gy:∀ ds X Y G K,(fz ds G fun x=>okK (bK x) fun xs=>eF b X xs G K)->d7 sup cf op ds X Y G K) (hs:Val cf G s v) (hq:bK v=some xs) (h0:P xs G) (done:∀ G,P [] G->exs sup cf r G K)
  (turn:∀ x l G Kt,P (x :: l) G->(∀ G',P l G'->Kt none G')->(∀ y G',noX y=true->K (some y) G'->Kt (some y) G')->okK (b G x) fun G'=>exs sup cf body G' Kt):exs sup cf (.mk op [s] body [] :: r) G K:=by
 have q:=Gy [ev cf s] (exi sup cf body) (exi sup cf []) G (fun fl G'=>match fl with | none=>exs sup cf r G' K | some x=>K (some x) G') (hs _ (ar hq (by
  rw [exi_eq];exact sO (P:=P) (K:=fun fl G'=>match fl with | none=>exs sup cf r G' K | some x=>K (some x) G') done (fun x l G h n=>turn x l G (fun fl HK=>match fl with | none=>eF b (exs sup cf body) l HK (fun fl G'=>match fl with | none=>exs sup cf r G' K | some x=>K (some x) G') | some y=>noX y=true/\K (some y) HK) h n fun U U h h'=>⟨h,h'⟩) xs G h0)))
 exact q
def im {P:List V->Gs->Prop} (hs:Val cf G s v) (hq:bK v=some xs) (h0:P xs G) (done:∀ G,P [] G->exs sup cf r G K)
  (turn:∀ x l G Kt,P (x :: l) G->(∀ G',P l G'->Kt none G')->(∀ y G',noX y=true->K (some y) G'->Kt (some y) G')->exs sup cf body (G.set k (.v x)) Kt):exs sup cf (.mk (.forS k) [s] body [] :: r) G K:=qV (P:=P) (fun U U U U U h=>h) hs hq h0 done turn
def Ak {P:List V->Gs->Prop} (hs:Val cf G s v) (hq:bK v=some xs) (h0:P xs G) (done:∀ G,P [] G->exs sup cf r G K)
  (turn:∀ x l G Kt,P (x :: l) G->(∀ G',P l G'->Kt none G')->(∀ y G',noX y=true->K (some y) G'->Kt (some y) G')->okK (aO ks G x) fun G'=>exs sup cf body G' Kt):exs sup cf (.mk (.forM ks) [s] body [] :: r) G K:=qV (P:=P) (fun U U U U U h=>h) hs hq h0 done turn
end
end Mine
end
noncomputable section
namespace Mine.L08
open PySem
noncomputable def step (cf:ai):ai:=fun f args K=>okK (fns[f]?) fun fn=>args.length+(if fn.init=true then 1 else 0)=fn.npar/\exs sup cf fn.body (c6 fn args) fun fl G=>
 if fn.init=true then (match fl with | none=>okK (dX G 0) fun l=>l.length=5/\K (qI l) | some y=>noX y=false/\K y) else K (fl.getD .none)
def run (hf:fns[f]?=some fn) (hi:fn.init=false) (hl:args.length=fn.npar) (h:exs sup cf fn.body (args.map .v++replicate (fn.nslots - fn.npar) .unset) fun fl U=>K (fl.getD .none)):step cf f args K:=by
 unfold step;refine hf.symm▸?_;refine ⟨by rw [hi,if_neg Bool.false_ne_true]; exact hl,?_⟩;exact hi.symm▸(show c6 fn args=args.map .v++replicate (fn.nslots - fn.npar) .unset by unfold c6; rw [hi]; rfl).symm▸h
def cx (h:n<=5000):n<=am:=zB1 h (by decide)
def aT (h:l.length<=5000):bK (.list l)=some l:=if_pos (cx h)
def gd (h:l.length<=5000):bK (text l)=some (bq l):=if_pos (cx h)
def qw (h:l.length<=5000):opN .len [.list l]=some (.int l.length):=by
 refine (?_:(bK (.list l)).map _=_); rw [aT h]; rfl
def AP (h:s.cps.toList.length<=5000):opN .len [.str s]=some (.int s.cps.toList.length):=by
 refine (?_:(dw s.cps.toList (bq s.cps.toList)).map _=_);rw [show dw s.cps.toList (bq s.cps.toList)=some (bq s.cps.toList) from if_pos (cx h)];refine (?_:some (PyData.int ((s.cps.toList.map _).length:Nat))=_); rw [zA4]
def Ec (h:a < b):aX .Lt (.int a) (.int b)=some true:=congrArg some (decide_eq_true h)
def xo (h:¬ a < b):aX .Lt (.int a) (.int b)=some false:=congrArg some (decide_eq_false h)
def Aa (h:b < a):aX .Gt (.int a) (.int b)=some true:=congrArg some (decide_eq_true h)
def nT (h:¬ b < a):aX .Gt (.int a) (.int b)=some false:=congrArg some (decide_eq_false h)
def pL:aX .Eq (.int a) (.int b)=some (a==b):=rfl
def tg:aX .NotEq (.int a) (.int b)=some (!(a==b)):=rfl
def mE (hz:l.length<=5000) (h0:0<=i) (e:l[i.toNat]?=some x):jy l f (.int i)=some (f x):=by
 refine (?_:(if l.length<=am then _ else none)=_);rw [if_pos (cx hz),if_pos h0,e]; rfl
def fS (hz:l.length<=5000) (h0:0<=i) (e:l[i.toNat]?=some x):opN .sub [.list l,.int i]=some x:=mE hz h0 e
def rc (hz:l.length<=5000) (h0:0<=i) (e:l[i.toNat]?=some c):opN .sub [text l,.int i]=some (text [c]):=mE (f:=fun c=>text [c]) hz h0 e
def a7 (a:Int) (h:0 < b):0<=a.fmod b:=Int.fmod_nonneg_of_pos a h
def cq (a:Int) (h:0 < b):a.fmod b < b:=Int.fmod_lt_of_pos a h
def cU (h:0 < b):opN (.bin .Mod) [.int a,.int b]=some (.int (a.fmod b)):=if_neg (Int.ne_of_gt h)
def nH (h:0 < b) (h':b<=1000000):opN (.bin .FloorDiv) [.int a,.int b]=some (.int (a.fdiv b)):=if_neg fun z=>z.elim (fun e=>absurd h (e▸Int.lt_irrefl 0)) fun e=>absurd e (not_lt.mpr (ofNat_le.mp ((natAbs_of_nonneg (Int.le_of_lt h)).symm▸h')))
def cT (h:b.natAbs<=1000000\/a.natAbs<=1000000):opN (.bin .Mult) [.int a,.int b]=some (.int (a * b)):=if_pos h
noncomputable def qr (scr:List Int):V:=.list (scr.map .int)
noncomputable def bB (scr:List Int) (k:Int):Int:=if k < scr.length then scr.getD k.toNat 0 else 0
def S20 (cf:ai):Prop:=∀ scr k K,scr.length<=63->0<=k->K (.int (bB scr k))->cf 20 [qr scr,.int k] K
def p20 (cf:ai):S20 (step cf):=fun scr k K hs h0 h=>by
 refine run (fn:=f20) rfl rfl rfl ?_;have hl:(scr.map PyData.int).length<=5000:=by exact zB1 (zB2 (length_map _)) (zB1 hs (by decide))
 have hv:Val cf [.v (qr scr),.v (.int k)] (lnE (vv 0)) (.int scr.length):=aa (.one ix) (by exact (length_map (f:=PyData.int) (as:=scr))▸qw hl);by_cases hk:k < scr.length
 ·refine bQ (ae ix hv (Ec hk)) (aB (aa (.two ix ix) (fS (x:=.int (bB scr k)) hl h0 ?_)) h);have E5:k.toNat < scr.length:=by exact (toNat_lt ‹_›).mpr hk
  rw [getElem?_map,Q9 E5];unfold bB;rw [if_pos hk,getD_eq_getElem?_getD,Q9 E5]; rfl
 ·refine aC (ae ix hv (xo hk)) (aB (v:=.int (bB scr k)) ?_ h);unfold bB;exact (if_neg hk).symm▸ix
noncomputable def wK (c k:Int):Int:=(c * 48271+7919 * k).fmod 1000003
def S21 (cf:ai):Prop:=∀ c k K,K (.int (wK c k))->cf 21 [.int c,.int k] K
def p21 (cf:ai):S21 (step cf):=fun c k K h=>run (fn:=f21) rfl rfl rfl (aB (aa (.two (aa (.two (aa (.two ix ix) (cT (.inl (by decide)))) (aa (.two ix ix) (cT (.inr (by decide))))) rfl) ix) (cU (by decide))) h)
noncomputable def low (c:Nat):Bool:=abc.cps.toList.elem c
def kF (h:l.length<=5000):opN .len [text l]=some (.int l.length):=AP (s:=⟨l.toArray⟩) h
def Ab (h:a=b):aX .Eq (.int a) (.int b)=some true:=h▸congrArg some (beq_self_eq_true a)
def nh {K:Option V->Gs->Prop} {I:Gs->Prop} (hs:Val cf G s v) (hq:bK v=some xs) (h0:I G) (hI:∀ G x,I G->I (G.set k (.v x))) (hc:∀ x∈xs,∀ G,I G->Val cf (G.set k (.v x)) c (.bool false)) (n:∀ G,I G->exs sup cf r G K):exs sup cf (.mk (.forS k) [s] [.mk .ite [c] A []] [] :: r) G K:=
 im (P:=fun l G=>I G/\∀ x∈l,x∈xs) hs hq ⟨h0,fun U m=>m⟩ (fun G h=>n G h.1) fun x l G Kt h nx rt=>aC (hc x (h.2 x (.head _)) G h.1) (aE (nx _ ⟨hI G x h.1,fun y z=>h.2 y (.tail _ z)⟩))
structure SgOk (a b c:List Nat):Prop where
 la:a.length<=4
 lb:b.length<=4
 lc:c.length<=4
 lows:∀ x∈a++b++c,low x=true
 nodup:(a++b++c).Nodup
section
variable {a b c:List Nat} {x:Nat} (ok:SgOk a b c)
include ok
theorem SgOk.inC (h:x∈c):x∉a/\x∉b:=by
 have:=(nodup_append.mp ok.nodup).2.2;exact ⟨fun q=>this x (mem_append_left _ q) x h rfl,fun q=>this x (mem_append_right _ q) x h rfl⟩
theorem SgOk.inB (h:x∈b):x∉a:=fun q=>(nodup_append.mp (nodup_append.mp ok.nodup).1).2.2 x q x h rfl
theorem SgOk.lowA (h:x∈a):low x=true:=ok.lows x (mem_append_left _ (mem_append_left _ h))
theorem SgOk.lowB (h:x∈b):low x=true:=ok.lows x (mem_append_left _ (mem_append_right _ h))
theorem SgOk.lowC (h:x∈c):low x=true:=ok.lows x (mem_append_right _ h)
end
noncomputable def sg (a b c:List Nat):V:=.tuple [text a,text b,text c]
def S0 (cf:ai):Prop:=∀ l K,l.length<=4->(∀ c∈l,low c=true)->K (.bool true)->cf 0 [text l] K
def p0 (cf:ai):S0 (step cf):=fun l K hl lo h=>run (fn:=f0) rfl rfl rfl (aC (bD (.go (b:=false) (aH (t:=true) ix) (.one' (ae (aa (.one ix) (kF (zB1 hl (by decide)))) ix (nT (Int.not_lt.mpr (ofNat_le.mpr hl))))))) (nh (xs:=bq l) (v:=text l) (I:=fun G=>∃ t,G=[.v (text l),t]) ix (gd (zB1 hl (by decide))) ⟨_,rfl⟩ (fun G x h=>h.elim fun U e=>⟨.v x,e▸rfl⟩) (fun x m G h=>by
 obtain ⟨t,rfl⟩:=h;obtain ⟨c,mc,rfl⟩:=zA7 m;exact ae ix ix (congrArg (fun b=>some (!b)) (lo c mc))) fun G U=>aB (v:=.bool true) ix h))
def AO (nd:l.Nodup) (hz:l.length<=1000):opN .lenSet [text l]=some (.int l.length):=by
 refine (?_:(if l.Nodup/\l.toArray.size < 4000 then some l.toArray.size else none).map _=_);rw [if_pos ⟨nd,Q1 hz (by decide)⟩]; rfl
def AU (h:(a.cps.toList++b.cps.toList).length<=5000):opN (.bin .Add) [.str a,.str b]=some (text (a.cps.toList++b.cps.toList)):=if_pos (cx h)
def nJ (h:(l++m).length<=5000):opN (.bin .Add) [text l,text m]=some (text (l++m)):=AU (a:=⟨l.toArray⟩) (b:=⟨m.toArray⟩) h
def S1 (cf:ai):Prop:=∀ a b c K,SgOk a b c->K (.bool true)->cf 1 [sg a b c] K
def p1 (cf:ai) (h0:S0 cf):S1 (step cf):=fun a b c K sk h=>by
 refine run (fn:=f1) rfl rfl rfl (aC (bD (.go (b:=false) (aH (t:=true) ix) (.one' (ae (x:=.int 3) ix ix rfl)))) ?_);have go:∀ {l:List Nat},l.length<=4->(∀ c∈l,low c=true)->∀ G,(∃ t,G=[.v (sg a b c),t,.unset])->Val cf (G.set 1 (.v (text l))) (.nd .not [.nd (.call 0) [vv 1]]) (.bool false):=fun hl lo G h=>by
  obtain ⟨t,rfl⟩:=h;exact aH (t:=true) (au (.one ix) fun K h=>h0 _ K hl lo h)
 refine nh (xs:=[text a,text b,text c]) (v:=sg a b c) (I:=fun G=>∃ t,G=[.v (sg a b c),t,.unset]) ix rfl ⟨_,rfl⟩ (fun G x h=>h.elim fun U e=>⟨.v x,e▸rfl⟩) (zA1 ⟨go sk.la fun U m=>sk.lowA m,zA1 ⟨go sk.lb fun U m=>sk.lowB m,forall_mem_singleton.mpr (go sk.lc fun U m=>sk.lowC m)⟩⟩) fun G hG=>?_;obtain ⟨t,rfl⟩:=hG;have e1:(a++b).length<=8:=by rw [zB5]; exact add_le_add sk.la sk.lb
 have e2:(a++b++c).length<=12:=by rw [zB5]; exact add_le_add e1 sk.lc
 refine af (v:=text (a++b++c)) (aa (vs:=[text (a++b),text c]) (.two (aa (vs:=[text a,text b]) (.two ix ix) (nJ (zB1 e1 (by decide)))) ix) (nJ (zB1 e2 (by decide)))) ?_;exact aB (ae (aa (.one ix) (AO sk.nodup (zB1 e2 (by decide)))) (aa (.one ix) (kF (zB1 e2 (by decide)))) (Ab rfl)) h
def iQ (h:K (some (fK c)) G):exs sup cf (.mk (.raise c) [] [] [] :: r) G K:=h
def S2 (cf:ai):Prop:=∀ a b c K,SgOk a b c->K .none->cf 2 [sg a b c] K
def p2 (cf:ai) (h1:S1 cf):S2 (step cf):=fun a b c K sk h=>run (fn:=f2) rfl rfl rfl (aC (aH (t:=true) (au (.one ix) fun K h=>h1 a b c K sk h)) (aE h))
def dz (x:Str):strOk x=x.cps.toList.all (· < 0x110000):=by unfold strOk; rw [all_toList]
def okS (h:strOk s=true):dH (.str s)=true:=by
 refine (?_:(strOk s&&_)=true);rw [h]; rfl
def bS (hs:strOk s=true) (ht:strOk t=true):aX .Eq (.str s) (.str t)=some (s==t):=if_pos (by rw [okS hs,okS ht]; rfl)
def zZ (hs:strOk s=true) (ht:strOk t=true):aX .NotEq (.str s) (.str t)=some (!(s==t)):=congrArg (Option.map (!·)) (bS hs ht)
def ok_on:strOk kOn=true:=by rw [dz]; rfl
def ok_open:strOk aZ=true:=by rw [dz]; rfl
def ok_close:strOk aP=true:=by rw [dz]; rfl
def Dl:strOk k0=true:=by rw [dz]; rfl
def AX (h:low c=true):c < 0x110000:=by
 have:∀ x∈abc.cps.toList,x < 0x110000:=by decide
 exact this c (elem_iff.mp h)
def dQ {l:List Nat} (h:∀ c∈l,low c=true):strOk ⟨l.toArray⟩=true:=by
 rw [dz];exact Qa.mpr fun c m=>decide_eq_true (AX (h c m))
def jk (h:(!b)=false):b=true:=by cases b with | true=>rfl | false=>(injection h; done)
noncomputable def dZ (a b c:List Nat) (x:Nat):Str:=if a.elem x=true then aZ else if b.elem x=true then aP else if c.elem x=true then kOn else k0
section
variable {a b c:List Nat} {x:Nat} (ok:SgOk a b c)
include ok
theorem yn (h:x∈a):dZ a b c x=aZ:=if_pos (elem_iff.mpr h)
theorem yp (h:x∈b):dZ a b c x=aP:=(if_neg fun q=>ok.inB h (elem_iff.mp q)).trans (if_pos (elem_iff.mpr h))
theorem yo (h:x∈c):dZ a b c x=kOn:=(if_neg fun q=>(ok.inC h).1 (elem_iff.mp q)).trans ((if_neg fun q=>(ok.inC h).2 (elem_iff.mp q)).trans (if_pos (elem_iff.mpr h)))
end
def Ed:aX .In (text [c]) (text l)=some (l.elem c):=rfl
def aY (h:Val cf G e (.str s)) (hs:strOk s=true) (ht:strOk t=true) (hu:(s==t)=u):Val cf G (eqE e (ss t)) (.bool u):=ae h ix ((bS hs ht).trans (congrArg some hu))
def S3 (cf:ai):Prop:=∀ a b c x K,K (.str (dZ a b c x))->cf 3 [sg a b c,text [x]] K
def w6 (h1:l.elem x=true->∀ G,K (some (.str k)) G) (h2:l.elem x=false->∀ s t,eF (aO [2,3]) (exs sup cf yB) xs [.v v,.v (text [x]),s,t] K):eF (aO [2,3]) (exs sup cf yB) (.tuple [text l,.str k] :: xs) [.v v,.v (text [x]),s,t] K:=by
 refine (?_:exs sup cf yB [.v v,.v (text [x]),.v (text l),.v (.str k)] fun fl G=>match fl with | none=>eF (aO [2,3]) (exs sup cf yB) xs G K | some y=>noX y=true/\K (some y) G);exact cy (ae (x:=text [x]) ix ix Ed) (fun q=>aB (v:=.str k) ix ⟨rfl,h1 q _⟩) fun q=>aE (h2 q _ _)
def ng (hs:Val cf G s v) (hq:bK v=some xs) (h:eF (aO ks) (exs sup cf body) xs G fun fl G'=>match fl with | none=>exs sup cf r G' K | some x=>K (some x) G'):exs sup cf (.mk (.forM ks) [s] body [] :: r) G K:=by
 rw [<- exi_eq] at h;exact hs _ (ar hq h)
def p3 (cf:ai):S3 (step cf):=fun a b c x K h=>by
 refine run (fn:=f3) rfl rfl rfl (aC (bD (.go (b:=false) (aH (t:=true) ix) (.one' (ae (x:=.int 1) ix ix rfl)))) (ng (v:=.list [.tuple [text a,.str aZ],.tuple [text b,.str aP],.tuple [text c,.str kOn]]) ix rfl ?_));unfold dZ at h;refine w6 (fun q U=>?_) fun q U U=>w6 (fun q' U=>?_) fun q' U U=>w6 (fun Gg U=>?_) fun Gg s t=>(?_:exs sup cf [.mk .ret [ss k0] [] []] [.v (sg a b c),.v (text [x]),s,t] fun fl U=>K (fl.getD .none))
 ·rw [if_pos q] at h; exact h
 ·rw [q,if_neg Bool.false_ne_true,if_pos q'] at h; exact h
 ·replace h:=(if_pos Gg)▸(if_neg Bool.false_ne_true)▸q'▸(if_neg Bool.false_ne_true)▸q▸h; exact h
 ·rw [q,if_neg Bool.false_ne_true,q',if_neg Bool.false_ne_true,Gg,if_neg Bool.false_ne_true] at h;exact aB (v:=.str k0) ix h
def In (R i:Int):Prop:=0<=i/\i < R
def S10 (cf:ai):Prop:=∀ i R K,In R i->K (.bool true)->cf 10 [.int i,.int R] K
def p10 (cf:ai):S10 (step cf):=fun i R K hi h=>run (fn:=f10) rfl rfl rfl (aB (v:=.bool true) (aA (.go (b:=true) ix (.go (b:=true) (aH (t:=false) ix) (.one fun K h=>by
 refine (?_:if decide (0<=i)=true then K (.bool (decide (i < R))) else K (.bool false));exact (decide_eq_true hi.1).symm▸(decide_eq_true hi.2).symm▸h)))) h)
def gv (FP:S10 cf) (ha:Val cf G a (.int i)) (hb:Val cf G b (.int R)) (hi:In R i):Val cf G (.nd (.call 10) [a,b]) (.bool true):=au (.two ha hb) fun K h=>FP i R K hi h
noncomputable def ag (is:List Int):V:=.list (is.map .int)
structure RoomsOk (R:Int) (is:List Int):Prop where
 len:is.length<=40
 nodup:is.Nodup
 rooms:∀ i∈is,In R i
theorem mF:∀ is:List Int,eS (is.map .int)=some is
 | []=>rfl
 | i :: r=>by unfold eS; rw [map_cons,mapM_cons]; refine (?_:(eS (r.map .int)).bind _=_); rw [mF r]; rfl
open Classical in
def len_list (l:List V):fQ (.list l)=if l.all fv=true then (if l.Nodup/\l.length < 4500 then some l.length else none) else (eS l).bind fun is=>if is.Nodup/\is.length < 4000 then some is.length else none:=rfl
def o7 (h:l.all fv=true) (nd:l.Nodup) (hz:l.length < 4500):fQ (.list l)=some l.length:=by rw [len_list,if_pos h,if_pos ⟨nd,hz⟩]
def vF (h:l.all fv=false) (e:eS l=some is) (nd:is.Nodup) (hz:is.length < 4000):fQ (.list l)=some is.length:=by rw [len_list,h,if_neg Bool.false_ne_true,e,bind_some,if_pos ⟨nd,hz⟩]
def S11 (cf:ai):Prop:=∀ is R K,RoomsOk R is->K (.bool true)->cf 11 [ag is,.int R] K
def p11 (cf:ai) (FP:S10 cf):S11 (step cf):=fun is R K ok h=>by
 have hl:(is.map PyData.int).length<=5000:=by rw [zA4]; exact zB1 ok.len (by decide)
 refine run (fn:=f11) rfl rfl rfl (aC (aH (t:=true) ix) (nh (xs:=is.map .int) (v:=ag is) (I:=fun G=>∃ t,G=[.v (ag is),.v (.int R),t]) ix (aT hl) ⟨_,rfl⟩ (fun G x h=>h.elim fun U e=>⟨.v x,e▸rfl⟩) (fun x m G h=>?_) fun G h'=>?_))
 ·obtain ⟨t,rfl⟩:=h;obtain ⟨i,mi,rfl⟩:=zA7 m;exact aH (t:=true) (gv FP ix ix (ok.rooms i mi))
 ·obtain ⟨t,rfl⟩:=h';have e:opN .lenSet [ag is]=some (.int is.length):=by
   have q:fQ (ag is)=some is.length:=by
    cases is with
    | nil=>exact o7 rfl nodup_nil (Nat.zero_lt_succ _)
    | cons i r=>exact vF rfl (mF _) ok.nodup (Q1 ok.len (by decide))
   exact congrArg (Option.map fun (n:Nat)=>PyData.int n) q
  exact aB (ae (aa (.one ix) e) (aa (.one ix) (qw hl)) (Ab (by rw [zA4]))) h
inductive W where
 | on (a:Int) (c:Nat) (b:Int)
 | op (a:Int) (c:Nat) (b t:Int)
 | cl (a b:Int) (c:Nat) (t:Int)
noncomputable def W.l:W->List V
 | .on a c b=>[.str kOn,.int a,text [c],.int b]
 | .op a c b t=>[.str aZ,.int a,text [c],.int b,.int t]
 | .cl a b c t=>[.str aP,.int a,.int b,text [c],.int t]
noncomputable def W.v (w:W):V:=.tuple w.l
noncomputable def W.ok (s0 s1 s2:List Nat) (R:Int):W->Prop
 | .on a c b=>In R a/\c∈s2/\In R b
 | .op a c b t=>In R a/\c∈s0/\In R b/\In R t
 | .cl a b c t=>In R a/\In R b/\c∈s1/\In R t
def S12 (cf:ai):Prop:=∀ s0 s1 s2 R w K,SgOk s0 s1 s2->W.ok s0 s1 s2 R w->K (.bool true)->cf 12 [w.v,sg s0 s1 s2,.int R] K
def xh (h3:S3 cf) (ha:Val cf G a (sg s0 s1 s2)) (hb:Val cf G b (text [x])) (e:dZ s0 s1 s2 x=k) (hk:strOk k=true):Val cf G (eqE (.nd (.call 3) [a,b]) (ss k)) (.bool true):=aY (s:=k) (au (.two ha hb) fun K h=>h3 s0 s1 s2 x K (e▸h)) hk hk (beq_self_eq_true k)
def p12 (cf:ai) (h3:S3 cf) (FP:S10 cf):S12 (step cf):=fun s0 s1 s2 R w K sk ok h=>by
 refine run (fn:=f12) rfl rfl rfl ?_;cases w with
 | on a c b=>exact aC (bD (.go (b:=false) (aH (t:=true) ix) (.go (b:=false) (ae (x:=.int 4) ix ix rfl) (.one' (aH (t:=true) (gv FP ix ix ok.1)))))) (aC (aH (t:=true) ix) (bQ (aY (s:=kOn) ix ok_on ok_on rfl) (aB (v:=.bool true) (aA (.go (b:=true) (ae (x:=.int 4) ix ix rfl) (.go (b:=true) (xh h3 ix ix (yo sk ok.2.1) ok_on) (.one (gv FP ix ix ok.2.2))))) h)))
 | op a c b t=>exact aC (bD (.go (b:=false) (aH (t:=true) ix) (.go (b:=false) (ae (x:=.int 5) ix ix rfl) (.one' (aH (t:=true) (gv FP ix ix ok.1)))))) (aC (aH (t:=true) ix) (aC (aY (s:=aZ) ix ok_open ok_on rfl) (aC (bD (.go (b:=false) (ae (x:=.int 5) ix ix rfl) (.one' (aH (t:=true) (gv FP ix ix ok.2.2.2))))) (bQ (aY (s:=aZ) ix ok_open ok_open rfl) (aB (v:=.bool true) (aA (.go (b:=true) (xh h3 ix ix (yn sk ok.2.1) ok_open) (.one (gv FP ix ix ok.2.2.1)))) h)))))
 | cl a b c t=>exact aC (bD (.go (b:=false) (aH (t:=true) ix) (.go (b:=false) (ae (x:=.int 5) ix ix rfl) (.one' (aH (t:=true) (gv FP ix ix ok.1)))))) (aC (aH (t:=true) ix) (aC (aY (s:=aP) ix ok_close ok_on rfl) (aC (bD (.go (b:=false) (ae (x:=.int 5) ix ix rfl) (.one' (aH (t:=true) (gv FP ix ix ok.2.2.2))))) (aC (aY (s:=aP) ix ok_close ok_open rfl) (aB (v:=.bool true) (aA (.go (b:=true) (aY (s:=aP) ix ok_close ok_close rfl) (.go (b:=true) (gv FP ix ix ok.2.1) (.one (xh h3 ix ix (yp sk ok.2.2.1) ok_close))))) h)))))
noncomputable def aN (ws:List W):V:=.list (ws.map W.v)
def S13 (cf:ai):Prop:=∀ s0 s1 s2 R ws K,SgOk s0 s1 s2->ws.length<=4000->(∀ w∈ws,W.ok s0 s1 s2 R w)->K (.bool true)->cf 13 [aN ws,sg s0 s1 s2,.int R] K
def p13 (cf:ai) (L7:S12 cf):S13 (step cf):=fun s0 s1 s2 R ws K sk hl ok h=>by
 have E4:(ws.map W.v).length<=4000:=by rw [zA4]; exact hl
 refine run (fn:=f13) rfl rfl rfl (aC (bD (.go (b:=false) (aH (t:=true) ix) (.one' (ae (aa (.one ix) (qw (zB1 E4 (by decide)))) ix (nT (Int.not_lt.mpr (ofNat_le.mpr E4))))))) (nh (xs:=ws.map W.v) (v:=aN ws) (I:=fun G=>∃ t,G=[.v (aN ws),.v (sg s0 s1 s2),.v (.int R),t]) ix (aT (zB1 E4 (by decide))) ⟨_,rfl⟩ (fun G x h=>h.elim fun U e=>⟨.v x,e▸rfl⟩) (fun x m G h=>?_) fun G U=>aB (v:=.bool true) ix h));obtain ⟨t,rfl⟩:=h;obtain ⟨w,mw,rfl⟩:=zA7 m;exact aH (t:=true) (au (.cons ix (.two ix ix)) fun K h=>L7 s0 s1 s2 R w K sk (ok w mw) h)
def cO (sk:SgOk s0 s1 s2) (ok:W.ok s0 s1 s2 R w):∀ x∈w.l,aS x=true:=by
 have t:∀ {c:Nat},low c=true->aS (text [c])=true:=fun {c} h=>dQ (l:=[c]) fun x m=>by obtain rfl:=zA6 m; exact h
 have i:∀ {i:Int},aS (.int i)=true:=rfl;have n:∀ x∈([]:List V),aS x=true:=fun U m=>nM m;cases w with
 | on a c b=>exact zA1 ⟨ok_on,zA1 ⟨i,zA1 ⟨t (sk.lowC ok.2.1),zA1 ⟨i,n⟩⟩⟩⟩
 | op a c b t'=>exact zA1 ⟨ok_open,zA1 ⟨i,zA1 ⟨t (sk.lowA ok.2.1),zA1 ⟨i,zA1 ⟨i,n⟩⟩⟩⟩⟩
 | cl a b c t'=>exact zA1 ⟨ok_close,zA1 ⟨i,zA1 ⟨i,zA1 ⟨t (sk.lowB ok.2.2.1),zA1 ⟨i,n⟩⟩⟩⟩⟩
section
variable {cf:ai} {G:Gs} {e:E} {k j:Nat} {l:List V} {r:List S} {K:Option V->Gs->Prop}
def kT (hl:dX G k=some l) (h:Val cf G e v) (hv:kK v=false) (hj:l.length=j) (n:exs sup cf r (G.set k (.ownI (l++[v]))) K):exs sup cf (.mk (.setAttr k j) [e] [] [] :: r) G K:=h _ ⟨hv,ar hl ⟨hj,n⟩⟩
def fu (hl:dX G k=some l) (h:ev cf e G fun v=>l.length=j/\exs sup cf r (G.set k (.ownI (l++[v]))) K):exs sup cf (.mk (.setAttrN k j) [e] [] [] :: r) G K:=by
 refine (?_:ev cf e G fun x=>okK (dX G k) fun l=>l.length=j/\exs sup cf r (G.set k (.ownI (l++[x]))) K);exact hl.symm▸h
end
noncomputable def aK (sv:V) (R:Int) (st en:List Int) (r:List V):V:=qI [sv,.int R,ag st,ag en,.list r]
def mM (h:Val cf G a (ag is)) (hz:is.length<=40) (k:∀ r:List Int,r.Perm is->r.Pairwise (·<=·)->K (ag r)):ev cf (.nd .sorted [a]) G K:=h _ (ar (z:=is) (mF is) ⟨by exact Q1 hz (by decide),k⟩)
def jD (h:Val cf G a (.list l)) (k:(l.all fv&&decide (l.length<=am))=true/\(∀ x∈l,∀ y∈l,ltK (aU x) (aU y)=true)/\(∃ m:List V,m.length < 4500/\∀ x∈l,x∈m)/\∀ r:List V,r.Nodup->(∀ y,y∈r ↔ y∈l)->gD r->K (.list r)):ev cf (.nd .sortedSet [a]) G K:=h _ (ar rfl k)
def qW (sk:SgOk s0 s1 s2) (ok:W.ok s0 s1 s2 R w):fv w.v=true:=by
 have h:=Qa.mpr fun x m=>cO sk ok x m;cases w <;> exact h
def bn (h:k.isLeft=m.isLeft) (h':k=m->ltK ks ms=true):ltK (k :: ks) (m :: ms)=true:=by
 refine (?_:(if k=m then ltK ks ms else k.isLeft==m.isLeft)=true);by_cases e:k=m
 ·rw [if_pos e]; exact h' e
 ·rw [if_neg e,h]; exact beq_self_eq_true _
def we (w u:W):ltK (aU w.v) (aU u.v)=true:=by
 have ne:∀ {s t:Str} {ks ms:List Sc},s≠t->ltK (.inr s :: ks) (.inr t :: ms)=true:=fun h=>bn rfl fun e=>absurd (Sum.inr.inj e) h;cases w with
 | on a c b=>cases u with
  | on a' c' b'=>exact bn rfl fun U=>bn rfl fun U=>bn rfl fun U=>bn rfl fun U=>rfl
  | op a' c' b' t'=>exact ne (by decide)
  | cl a' b' c' t'=>exact ne (by decide)
 | op a c b t=>cases u with
  | on a' c' b'=>exact ne (by decide)
  | op a' c' b' t'=>exact bn rfl fun U=>bn rfl fun U=>bn rfl fun U=>bn rfl fun U=>bn rfl fun U=>rfl
  | cl a' b' c' t'=>exact ne (by decide)
 | cl a b c t=>cases u with
  | on a' c' b'=>exact ne (by decide)
  | op a' c' b' t'=>exact ne (by decide)
  | cl a' b' c' t'=>exact bn rfl fun U=>bn rfl fun U=>bn rfl fun U=>bn rfl fun U=>bn rfl fun U=>rfl
structure Held (st:List Int) (en:List Int) (ws:List V) (st' en':List Int) (r:List V):Prop where
 p1:st'.Perm st
 o1:st'.Pairwise (·<=·)
 p2:en'.Perm en
 o2:en'.Pairwise (·<=·)
 nd:r.Nodup
 mem:∀ y,y∈r ↔ y∈ws
 up:gD r
structure aj (s0 s1 s2:List Nat) (R:Int) (st en:List Int) (ws:List W):Prop where
 sk:SgOk s0 s1 s2
 r1:1<=R
 r2:R<=40
 st:RoomsOk R st
 en:RoomsOk R en
 len:ws.length<=4000
 ok:∀ w∈ws,W.ok s0 s1 s2 R w
def S14 (cf:ai):Prop:=∀ s0 s1 s2 R st en ws K,aj s0 s1 s2 R st en ws->(∀ st' en' r,Held st en (ws.map W.v) st' en' r->K (aK (sg s0 s1 s2) R st' en' r))->cf 14 [sg s0 s1 s2,.int R,ag st,ag en,aN ws] K
def p14 (cf:ai) (h2:S2 cf) (FP:S10 cf) (KS:S11 cf) (KR:S13 cf):S14 (step cf):=fun s0 s1 s2 R st en ws K g h=>by
 refine (?_:_/\exs sup cf f14.body [.ownI [],.v (sg s0 s1 s2),.v (.int R),.v (ag st),.v (ag en),.v (aN ws)] fun fl G=>(match fl with | none=>okK (dX G 0) fun l=>l.length=5/\K (qI l) | some y=>noX y=false/\K y));refine ⟨rfl,l8 (.one ix) (h2 _ _ _ _ g.sk ⟨rfl,?_⟩)⟩;refine aC (bD (.go (b:=false) (aH (t:=true) (gv FP ix (aa (.two ix ix) rfl) ⟨le_trans (by decide) g.r1,Int.lt_of_le_of_lt g.r2 (by decide)⟩)) (.one' (ae ix ix (xo (Int.not_lt.mpr g.r1)))))) ?_;refine aC (bD (.go (b:=false) (aH (t:=true) (au (.two ix ix) fun K h=>KS _ _ K g.st h)) (.go (b:=false) (aH (t:=true) (au (.two ix ix) fun K h=>KS _ _ K g.en h)) (.one' (aH (t:=true) (au (.cons ix (.two ix ix)) fun K h=>KR _ _ _ _ _ K g.sk g.len g.ok h)))))) ?_;refine kT (l:=[]) rfl (v:=sg s0 s1 s2) ix rfl rfl (kT (l:=[_]) rfl (v:=.int R) ix rfl rfl (fu (l:=[_,_]) rfl ?_));refine mM (show Val cf _ (vv 3) (ag st) from ix) g.st.len fun st' p3 o3=>⟨rfl,fu (l:=[_,_,_]) rfl ?_⟩;refine mM (show Val cf _ (vv 4) (ag en) from ix) g.en.len fun en' p10 o4=>⟨rfl,fu (l:=[_,_,_,_]) rfl ?_⟩;refine jD (l:=ws.map W.v) ix ⟨zA3 ⟨Qa.mpr fun x m=>?_,decide_eq_true (cx (by rw [zA4]; exact zB1 g.len (by decide)))⟩,fun x mx y my=>?_,⟨_,(by rw [zA4]; exact Q1 g.len (by decide)),fun U m=>m⟩,fun r hn hm hr=>⟨rfl,rfl,h st' en' r ⟨p3,o3,p10,o4,hn,hm,hr⟩⟩⟩
 ·obtain ⟨w,m',rfl⟩:=zA7 m;exact qW g.sk (g.ok w m')
 ·obtain ⟨w,_,rfl⟩:=zA7 mx;obtain ⟨u,_,rfl⟩:=zA7 my;exact we w u
section
variable {cf:ai} {sv:V} {R:Int} {st en:List Int} {r:List V} {K:V->Prop}
def fw (h:Val cf G e (.list l)) (hz:l.length<=5000):Val cf G (.nd .listOf [e]) (.list l):=aa (.one h) (show (dw l l).map _=_ by rw [show dw l l=some l from if_pos (cx hz)]; rfl)
def p15 (hn:noX sv=true) (h:K sv):step cf 15 [aK sv R st en r] K:=run (fn:=f15) rfl rfl rfl (aB ix h hn)
def p16 (h:K (.int R)):step cf 16 [aK sv R st en r] K:=run (fn:=f16) rfl rfl rfl (aB ix h)
def p17 (hz:st.length<=5000) (h:K (ag st)):step cf 17 [aK sv R st en r] K:=run (fn:=f17) rfl rfl rfl (aB (v:=ag st) (fw ix (by rw [zA4]; exact hz)) h)
def p18 (hz:en.length<=5000) (h:K (ag en)):step cf 18 [aK sv R st en r] K:=run (fn:=f18) rfl rfl rfl (aB (v:=ag en) (fw ix (by rw [zA4]; exact hz)) h)
def p19 (hz:r.length<=5000) (h:K (.list r)):step cf 19 [aK sv R st en r] K:=run (fn:=f19) rfl rfl rfl (aB (v:=.list r) (fw ix hz) h)
end
def c22 (hl:∀ K:V->Prop,K (.int 1)->okK (opN .count [.list [.bool (sup c 1),.bool (sup c 2),.bool (sup c 3),.bool (sup c 4),.bool (sup c 5),.bool (sup c 6),.bool (sup c 7)],.bool true]) K)
  (h1:∀ K:V->Prop,K (.list [.bool (sup c 1),.bool (sup c 2),.bool (sup c 3),.bool (sup c 4)])->ev cf (.nd .list [xx 1 (vv 0),xx 2 (vv 0),xx 3 (vv 0),xx 4 (vv 0)]) [.v (fK c),.v (.int i),.unset] K)
  (h2:∀ K:V->Prop,K (.list [.bool (sup c 1),.bool (sup c 2),.bool (sup c 3),.bool (sup c 4),.bool (sup c 5),.bool (sup c 6),.bool (sup c 7)])->ev cf (adE (vv 2) (.nd .list [xx 5 (vv 0),xx 6 (vv 0),xx 7 (vv 0)])) [.v (fK c),.v (.int i),.v (.list [.bool (sup c 1),.bool (sup c 2),.bool (sup c 3),.bool (sup c 4)])] K)
  (h3:bk cf true [.v (fK c),.v (.int i),.v (.list [.bool (sup c 1),.bool (sup c 2),.bool (sup c 3),.bool (sup c 4),.bool (sup c 5),.bool (sup c 6),.bool (sup c 7)])] [sbE (vv 2) (vv 1),xx 0 (vv 0),xx 8 (vv 0)] t) (h:K (.bool t)):step cf 22 [fK c,.int i] K:=
 run (fn:=f22) rfl rfl rfl (af h1 (af h2 (aB (aA (.go (ae (x:=.int 1) (fun K h=>⟨rfl,hl K h⟩) ix rfl) h3)) h)))
def S22 (cf:ai):Prop:=∀ K:V->Prop,K (.bool true)->cf 22 [fK 4,.int 3] K
def p22 (cf:ai):S22 (step cf):=fun K=>c22 ix ix ix ix
noncomputable def zC:Str:=⟨#[114,101,102,117,115,101,100]⟩
noncomputable def p5V (a b c d e:V):V:=.tuple [a,b,c,d,e]
section
variable {cf:ai} {sv a b c d:V} {K:V->Prop}
noncomputable def ba (sv:V) (R:Int) (st en:List Int) (ws:List W):V:=p5V sv (.int R) (ag st) (ag en) (aN ws)
end
def du {a b is:List Int} (ha:a.Perm is) (ha':a.Pairwise (·<=·)) (hb:b.Perm is) (Gc:b.Pairwise (·<=·)):a=b:=
 Perm.eq_of_pairwise (le:=(·<=·)) (fun x y U U h h'=>Int.le_antisymm h h') ha' Gc (ha.trans hb.symm)
def pY {is s:List Int} (h:Val cf G a (ag is)) (hz:is.length<=40) (hp:s.Perm is) (ho:s.Pairwise (·<=·)):Val cf G (.nd .sorted [a]) (ag s):=fun K k=>mM h hz fun r p o=>by rw [du p o hp ho]; exact k
def eI (n:Nat) (x:V):Prop:=x.canLay0=true/\x.depth<=n
def cr (h:eI n x) (hn:n<=64):dH x=true:=zA3 ⟨h.1,decide_eq_true (zB1 h.2 hn)⟩
theorem nR:∀ {n:Nat} {l:List V},(∀ x∈l,eI n x)->canLayAll0 l=true/\depthAll l<=n
 | n,[],_=>⟨rfl,zero_le _⟩
 | n,x :: l,h=>⟨zA3 ⟨(h x (.head _)).1,(nR fun y m=>h y (.tail _ m)).1⟩,max_le.mpr ⟨(h x (.head _)).2,(nR fun y m=>h y (.tail _ m)).2⟩⟩
def cD (h:∀ x∈l,eI n x):eI (n+1) (.list l):=⟨(nR h).1,succ_le_succ (nR h).2⟩
def cJ (h:∀ x∈l,eI n x):eI (n+1) (.tuple l):=⟨(nR h).1,succ_le_succ (nR h).2⟩
def cK (h:aS x=true):eI 0 x:=by
 cases x with
 | int i=>exact ⟨rfl,le_refl _⟩
 | str s=>exact ⟨h,le_refl _⟩
 | _=>(injection h; done)
def kg (sk:SgOk s0 s1 s2) (ok:W.ok s0 s1 s2 R w):eI 1 w.v:=cJ fun x m=>cK (cO sk ok x m)
def xq (h:dH x=true):aX .NotEq x x=some false:=by
 refine (?_:(eqO x x).map _=_);rw [show eqO x x=some (PyData.eqv x x) from if_pos (by rw [h]; rfl),PySem.SeqAt.eqv_refl x (zA2 h).1]; rfl
def xO (h:ib k m=false) (h':ib m k=false):k=m:=by
 cases k with
 | inl a=>cases m with
  | inl b=>have h:=of_decide_eq_false h; have h':=of_decide_eq_false h'; exact congrArg _ (by exact Int.le_antisymm (Int.not_lt.mp h') (Int.not_lt.mp h))
  | inr y=>(injection h; done)
 | inr x=>cases m with
  | inl b=>(injection h'; done)
  | inr y=>
   have h:=of_decide_eq_false h;have h':=of_decide_eq_false h';have e:x.cps.toList=y.cps.toList:=List.le_antisymm h' h;cases x; cases y
   exact congrArg _ (congrArg Str.mk (toList_inj.mp e))
theorem o6:∀ {a b:List Sc},bM a b=false->bM b a=false->a=b
 | [],[],_,_=>rfl
 | [],_ :: _,h,_=>nB h.symm
 | _ :: _,[],_,h=>nB h.symm
 | k :: ks,m :: ms,h,h'=>by
  have h:(if k=m then bM ks ms else ib k m)=false:=h;have h':(if m=k then bM ms ks else ib m k)=false:=h';by_cases e:k=m
  ·subst e;rw [if_pos rfl] at h h';rw [o6 h h']
  ·rw [if_neg e] at h;rw [if_neg fun q=>e q.symm] at h';exact absurd (xO h h') e
def kOf_inj (hx:aS x=true) (hy:aS y=true) (e:kOf x=kOf y):x=y:=by
 cases x with
 | int i=>cases y with
  | int j=>rw [Sum.inl.inj e]
  | str t=>exact nomatch (show (Sum.inl i:Sc)=.inr t from e)
  | _=>(injection hy; done)
 | str s=>cases y with
  | int j=>exact nomatch (show (Sum.inr s:Sc)=.inl j from e)
  | str t=>rw [Sum.inr.inj e]
  | _=>(injection hy; done)
 | _=>(injection hx; done)
theorem keys_inj:∀ {l m:List V},(∀ x∈l,aS x=true)->(∀ x∈m,aS x=true)->l.map kOf=m.map kOf->l=m
 | [],[],_,_,_=>rfl
 | [],_ :: _,_,_,e=>nomatch e
 | _ :: _,[],_,_,e=>nomatch e
 | x :: l,y :: m,h,h',e=>by
  have e:=zA5 e;rw [kOf_inj (h x (.head _)) (h' y (.head _)) e.1,keys_inj (fun x q=>h x (.tail _ q)) (fun x q=>h' x (.tail _ q)) e.2]
theorem mO:∀ {l m:List V},(∀ x∈l,aS x=true)->(∀ x∈m,aS x=true)->eqvAll l m=true->l=m
 | [],[],_,_,_=>rfl
 | [],_ :: _,_,_,e=>nB e
 | _ :: _,[],_,_,e=>nB e
 | x :: l,y :: m,h,h',e=>by
  obtain ⟨e1,e2⟩:=zA2 e;have e1:x=y:=by
   have hx:=h x (.head _);have hy:=h' y (.head _);cases x with
   | int i=>cases y with
    | int j=>rw [beq_iff_eq.mp (e1:(i==j)=true)]
    | str t=>exact nB e1
    | _=>(injection hy; done)
   | str s=>cases y with
    | int j=>exact nB e1
    | str t=>rw [beq_iff_eq.mp (e1:(s==t)=true)]
    | _=>(injection hy; done)
   | _=>(injection hx; done)
  rw [e1,mO (fun x q=>h x (.tail _ q)) (fun x q=>h' x (.tail _ q)) e2]
section
variable {s0 s1 s2:List Nat} {R:Int} {ws:List W} (sk:SgOk s0 s1 s2) (ok:∀ w∈ws,W.ok s0 s1 s2 R w)
include sk ok
theorem uK (hx:x∈ws.map W.v) (hy:y∈ws.map W.v) (h:bM (aU y) (aU x)=false) (h':bM (aU x) (aU y)=false):x=y:=by
 obtain ⟨w,mw,rfl⟩:=zA7 hx;obtain ⟨u,mu,rfl⟩:=zA7 hy;exact congrArg PyData.tuple (keys_inj (fun x m=>cO sk (ok w mw) x m) (fun x m=>cO sk (ok u mu) x m) (o6 h' h))
theorem gT (hn:r.Nodup) (hm:∀ y,y∈r ↔ y∈ws.map W.v) (hr:gD r) (GA:r'.Nodup) (Ib:∀ y,y∈r' ↔ y∈ws.map W.v) (hr':gD r'):r=r':=
 Perm.eq_of_pairwise (le:=fun x y=>bM (aU y) (aU x)=false) (fun x y mx my h h'=>uK sk ok ((hm x).mp mx) ((Ib y).mp my) h h') hr hr' ((perm_ext_iff_of_nodup hn GA).mpr fun y=>(hm y).trans (Ib y).symm)
theorem yR (hx:x∈ws.map W.v) (hy:y∈ws.map W.v) (h:PyData.eqv x y=true):x=y:=by
 obtain ⟨w,mw,rfl⟩:=zA7 hx;obtain ⟨u,mu,rfl⟩:=zA7 hy;exact congrArg PyData.tuple (mO (fun x m=>cO sk (ok w mw) x m) (fun x m=>cO sk (ok u mu) x m) h)
theorem tV {l:List V} (h:∀ x∈l,x∈ws.map W.v):∀ x∈l,eI 1 x:=fun x m=>by
 obtain ⟨w,mw,rfl⟩:=zA7 (h x m);exact kg sk (ok w mw)
end
def v6 (hx:dH x=true) (hl:dH (.list l)=true):aX .NotIn x (.list l)=some (!(l.any fun z=>PyData.eqv z x)):=congrArg (Option.map (!·)) (if_pos (by rw [hx,hl]; rfl))
def sQ (sk:SgOk s0 s1 s2):eI 1 (sg s0 s1 s2):=cJ fun x m=>by
 have t:∀ {l:List Nat},(∀ c∈l,low c=true)->eI 0 (text l):=fun h=>cK (x:=text _) (dQ h);rcases mem_cons.mp m with rfl | m
 ·exact t fun c q=>sk.lowA q
 rcases mem_cons.mp m with rfl | m
 ·exact t fun c q=>sk.lowB q
 ·obtain rfl:=zA6 m; exact t fun c q=>sk.lowC q
structure MethOk (cf:ai):Prop where
 m9:∀ sv R st en r (K:V->Prop),noX sv=true->K sv->cf 15 [aK sv R st en r] K
 m10:∀ sv R st en r (K:V->Prop),K (.int R)->cf 16 [aK sv R st en r] K
 m11:∀ sv R st en r (K:V->Prop),st.length<=5000->K (ag st)->cf 17 [aK sv R st en r] K
 m12:∀ sv R st en r (K:V->Prop),en.length<=5000->K (ag en)->cf 18 [aK sv R st en r] K
 m13:∀ sv R st en (r:List V) (K:V->Prop),r.length<=5000->K (.list r)->cf 19 [aK sv R st en r] K
open Classical in
theorem gg:∀ {l m:List V},l.Nodup->(∀ x∈l,x∈m)->l.length<=m.length
 | [],_,_,_=>zero_le _
 | x :: l,m,nd,h=>by
  have nd:=nodup_cons.mp nd;have mx:=h x (.head _);have q:=gg (m:=m.erase x) nd.2 fun y my=>(List.mem_erase_of_ne (a:=y) (b:=x) fun e=>nd.1 (by exact e▸my)).mpr (h y (.tail _ my));rw [List.length_erase_of_mem mx] at q;have:=List.length_pos_of_mem mx;exact zB1 (succ_le_succ q) (zB2 (sub_add_cancel this))
def gx (g:aj s0 s1 s2 R st en ws) (hd:Held st en (ws.map W.v) st' en' r):st'.length<=40/\en'.length<=40/\r.length<=4000:=by
 refine ⟨hd.p1.length_eq▸g.st.len,hd.p2.length_eq▸g.en.len,?_⟩;have h:=gg hd.nd fun y m=>(hd.mem y).mp m;rw [zA4] at h;exact zB1 h g.len
noncomputable def mOf (c s:Int) (i:Nat):Nat:=((c+s * (0+(i:Int))).fmod 26).toNat
noncomputable def qt (c s:Int) (n:Nat):List Nat:=(List.range n).map fun i=>97+mOf c s i
def wN (c s:Int) (i:Nat):mOf c s i < 26:=by
 have h1:=a7 (c+s * (0+(i:Int))) (b:=26) (by decide);have h2:=cq (c+s * (0+(i:Int))) (b:=26) (by decide);unfold mOf; exact (toNat_lt h1).mpr (Int.lt_of_lt_of_le h2 (by decide))
def w4:∀ m,m < 26->abc.cps.toList[m]?=some (97+m)/\low (97+m)=true:=by decide
noncomputable def eM (c:Int):Int:=1+2 * ((c.fdiv 26).fmod 5)
def xH:∀ q,q < 5->∀ d,d < 12->d≠0->((1+2 * q) * d) % 26≠0:=by decide
def uU (c:Int) (q i d:Nat):(c+(1+2 * (q:Int)) * (0+((i+d:Nat):Int))) - (c+(1+2 * (q:Int)) * (0+(i:Int)))=(((1+2 * q) * d:Nat):Int):=by
 rw [Int.zero_add,Int.zero_add,natCast_add,Int.mul_add,Int.natCast_mul,natCast_add,Int.natCast_mul];refine (?_:_=(1+2 * (q:Int)) * (d:Int));generalize (1+2 * (q:Int)) * (i:Int)=x;generalize (1+2 * (q:Int)) * (d:Int)=y;lia
def k9 (c:Int) (hn:n<=12):(qt c (eM c) n).Nodup:=by
 refine (eq_ofNat_of_zero_le (a7 (c.fdiv 26) (b:=5) (by decide))).elim fun q hq=>?_;have h2:=cq (c.fdiv 26) (b:=5) (by decide)
 skip
 refine pairwise_map.mpr (Pairwise.imp_of_mem (fun {i j} mi mj Et e=>?_) (List.pairwise_lt_range (n:=n)));obtain ⟨d,rfl⟩:=Nat.exists_eq_add_of_lt Et;have hj:=mem_range.mp mj;have e:mOf c (eM c) i=mOf c (eM c) (i+(d+1)):=Nat.add_left_cancel e;unfold mOf eM at e;rw [hq] at e h2;have e:(c+(1+2 * (q:Int)) * (0+((i+(d+1):Nat):Int))).fmod 26=(c+(1+2 * (q:Int)) * (0+(i:Int))).fmod 26:=by
  rw [<- toNat_of_nonneg (a7 (c+(1+2 * (q:Int)) * (0+((i+(d+1):Nat):Int))) (b:=26) (by decide)),<- e,toNat_of_nonneg (a7 _ (by decide))]
 rw [Int.fmod_eq_emod_of_nonneg _ (by decide),Int.fmod_eq_emod_of_nonneg _ (by decide),Int.emod_eq_emod_iff_emod_sub_eq_zero,uU] at e;exact xH q (ofNat_lt.mp h2) (d+1) (Q1 (le_add_left (d+1) i) (Q0 hj hn)) (succ_ne_zero d) (by exact_mod_cast e)
def r7 (c s:Int) (n:Nat):∀ x∈qt c s n,low x=true:=fun x m=>by
 obtain ⟨i,_,rfl⟩:=zA7 m;exact (w4 _ (wN c s i)).2
def Av {l:List Nat} {i j k:Nat} (hn:l.Nodup) (hl:∀ x∈l,low x=true) (h1:i<=4) (h2:i<=j) (h3:j<=k) (h4:j - i<=4) (h5:k - j<=4):SgOk (l.take i) ((l.drop i).take (j - i)) ((l.drop j).take (k - j)):=by
 have e:l.take i++(l.drop i).take (j - i)++(l.drop j).take (k - j)=l.take k:=by
  rw [<- take_add,show i+(j - i)=j by exact Q5 h2,<- take_add,show j+(k - j)=k by exact Q5 h3]
 refine ⟨zB1 (length_take_le _ _) h1,zB1 (length_take_le _ _) h4,zB1 (length_take_le _ _) h5,?_,?_⟩
 ·exact e.symm▸fun x m=>hl x (mem_of_mem_take m)
 ·rw [e]; exact hn.sublist (take_sublist _ _)
theorem rX:∀ l:List Nat,gb (l.map fun c=>text [c])=some (l.map fun c=>[c])
 | []=>rfl
 | c :: r=>by unfold gb; rw [map_cons,mapM_cons]; refine (?_:(gb (r.map fun c=>text [c])).bind _=_); rw [rX r]; rfl
theorem lG:∀ l:List Nat,iq [] (l.map fun c=>[c])=l
 | []=>rfl
 | [c]=>rfl
 | c :: d :: r=>congrArg (c :: ·) (lG (d :: r))
theorem oK:∀ l:List Nat,((l.map fun c=>[c]).map length).sum=l.length
 | []=>rfl
 | c :: r=>by rw [map_cons,map_cons,sum_cons,oK r,zB4]; exact add_comm _ _
def uO (ha:Val cf G a (.list (l.map fun c=>text [c]))) (hz:l.length<=5000):Val cf G (.nd .join [ss k0,a]) (text l):=fun K h=>by
 refine ⟨rfl,ha _ (ar (z:=text l) ?_ h)⟩;refine (?_:(gb (l.map fun c=>text [c])).bind _=_);rw [rX]
 show (if _ then some (text (iq [] (l.map fun c=>[c]))) else none)=_
 rw [lG];exact if_pos (by rw [oK]; exact cx (by refine (?_:l.length+_ * 0<=5000); rw [Nat.mul_zero]; exact hz))
def rA (h0:0<=i) (h1:i.toNat<=n):pF d n (some (.int i))=some i.toNat:=by
 refine (?_:some (if 0<=i then min i.toNat n else _)=_);rw [if_pos h0,min_eq_left h1]
def rB (hz:l.length<=5000) (h1:pF 0 l.length lo=some i) (h2:pF l.length l.length hi=some j) (h:i<=j):mT f l lo hi=some (f ((l.drop i).take (j - i))):=by
 unfold mT;rw [if_pos (cx hz),h1,h2];exact if_pos h
def wF {l:List Nat} {i j:Nat} (hz:l.length<=5000) (h:i<=j) (h1:j<=l.length):opN (.slice true true) [text l,.int i,.int j]=some (text ((l.drop i).take (j - i))):=rB (l:=l) (f:=text) hz (rA (i:=i) (natCast_nonneg i) (zB1 h h1)) (rA (i:=j) (natCast_nonneg j) h1) h
def yb {l:List Nat} {j:Nat} (hz:l.length<=5000) (h1:j<=l.length):opN (.slice false true) [text l,.int j]=some (text (l.take j)):=rB (l:=l) (f:=text) (lo:=none) hz rfl (rA (i:=j) (natCast_nonneg j) h1) (zero_le _)
def DB {l:List Nat} {i j k:Int} (hl:l.length<=12) (hn:l.Nodup) (lo:∀ x∈l,low x=true) (h0:0<=i) (h1:i<=4) (h2:0<=j) (h3:j<=4) (h4:0<=k) (h5:k<=4) (h6:i+j+k<=l.length):∃ a b c,SgOk a b c/\opN (.slice false true) [text l,.int i]=some (text a)/\opN (.slice true true) [text l,.int i,.int (i+j)]=some (text b)/\opN (.slice true true) [text l,.int (i+j),.int (i+j+k)]=some (text c):=by
 refine (eq_ofNat_of_zero_le h0).elim fun i F0=>?_;subst F0;obtain ⟨j,rfl⟩:=eq_ofNat_of_zero_le h2;obtain ⟨k,rfl⟩:=eq_ofNat_of_zero_le h4;have h6:i+j+k<=l.length:=ofNat_le.mp h6;have hz:l.length<=5000:=zB1 hl (by decide);have hj:i+j<=l.length:=zB1 (Q3 _ _) h6;refine ⟨_,_,_,Av (i:=i) (j:=i+j) (k:=i+j+k) hn lo (ofNat_le.mp h1) (Q3 _ _) (Q3 _ _) (by rw [add_sub_cancel_left]; exact ofNat_le.mp h3) (by rw [add_sub_cancel_left]; exact ofNat_le.mp h5),yb hz (zB1 (Q3 _ _) hj),?_,?_⟩
 ·exact wF (i:=i) (j:=i+j) hz (Q3 _ _) hj
 ·exact wF (i:=i+j) (j:=i+j+k) hz (Q3 _ _) h6
def rM {c s:Int} {n:Nat} (hn:n<=12) (hr:bK (.list (a9 0 n))=some ((List.range n).map fun i:Nat=>.int (0+(i:Int)))) (h0:∀ i:Nat,Val cf (G.set 6 (.v (.int (0+(i:Int))))) (vv 0) (.int c)) (h1:∀ i:Nat,Val cf (G.set 6 (.v (.int (0+(i:Int))))) (vv 1) (.str abc)) (h2:∀ i:Nat,Val cf (G.set 6 (.v (.int (0+(i:Int))))) (vv 2) (.int s)) (h6:∀ i:Nat,Val cf (G.set 6 (.v (.int (0+(i:Int))))) (vv 6) (.int (0+(i:Int))))
  (hs:s.natAbs<=1000000) (FG:Val cf G e (.list (a9 0 n))):Val cf G (.nd .join [ss k0,.nd (.comp 6) [e,xk]]) (text (qt c s n)):=by
 refine uO ?_ (by unfold qt; rw [zA4,length_range]; exact Nat.le_add_left_of_le hn);have q:=b9 (k:=6) (f:=fun i:Nat=>text [97+mOf c s i]) FG hr (e:=xk) fun i m=>aa (.two (h1 i) (aa (.two (aa (.two (h0 i) (aa (.two (h2 i) (h6 i)) (cT (.inr hs)))) rfl) ix) (cU (by decide)))) (mE (f:=fun c=>text [c]) (by decide) (a7 _ (by decide)) (w4 _ (wN c s i)).1);unfold qt;rw [map_map];exact q
def SgS (n:Nat) (cf:ai):Prop:=∀ c:Int,∃ s0 s1 s2,SgOk s0 s1 s2/\∀ K,K (sg s0 s1 s2)->cf n [.int c] K
def mz {l:List Int} {i:Int} (h0:0<=i) (h1:i < l.length):(l.map PyData.int)[i.toNat]?=some (.int (l.getD i.toNat 0)):=by
 have:i.toNat < l.length:=by exact (toNat_lt ‹_›).mpr h1
 rw [getElem?_map,getD_eq_getElem?_getD,Q9 this]; rfl
def se:(∀ i,i < 4->([1,1,2,0]:List Int).getD i 0<=2/\0<=([1,1,2,0]:List Int).getD i 0)/\∀ i,i < 5->([1,2,1,1,0]:List Int).getD i 0<=2/\0<=([1,2,1,1,0]:List Int).getD i 0:=by decide
def r5 (c:Int):(eM c).natAbs<=1000000:=by
 have h1:=a7 (c.fdiv 26) (b:=5) (by decide);have h2:=cq (c.fdiv 26) (b:=5) (by decide);unfold eM;refine ofNat_le.mp ?_;rw [natAbs_of_nonneg (add_nonneg (by decide) (mul_nonneg (by decide) h1))];exact le_trans (Int.add_le_add_left (Int.mul_le_mul_of_nonneg_left (Int.le_of_lt h2) (by decide)) 1) (by decide)
def i7 (c s:Int) (n:Nat):(qt c s n).length=n:=by unfold qt; rw [zA4,length_range]
def p23 (cf:ai):SgS 23 (step cf):=fun c=>by
 have a1:=a7 (c.fdiv 130) (b:=4) (by decide);have a2:=cq (c.fdiv 130) (b:=4) (by decide);have b1:=a7 (c.fdiv 520) (b:=5) (by decide);have b2:=cq (c.fdiv 520) (b:=5) (by decide);have o1:=se.1 _ ((toNat_lt a1).mpr a2);have o2:=se.2 _ ((toNat_lt b1).mpr b2);have e1:=fS (l:=[.int 1,.int 1,.int 2,.int 0]) (by decide) a1 (mz (l:=[1,1,2,0]) a1 a2);have e2:=fS (l:=[.int 1,.int 2,.int 1,.int 1,.int 0]) (by decide) b1 (mz (l:=[1,2,1,1,0]) b1 b2);clear a1 a2 b1 b2;generalize ([1,1,2,0]:List Int).getD ((c.fdiv 130).fmod 4).toNat 0=one at o1 e1;generalize ([1,2,1,1,0]:List Int).getD ((c.fdiv 520).fmod 5).toNat 0=two at o2 e2;have c2:=Int.le_of_lt_add_one (cq (c.fdiv 2600) (b:=2+1) (by decide));obtain ⟨x,y,z,ok,q1,q2,q3⟩:=DB (l:=qt c (eM c) 6) (i:=one) (j:=two) (k:=(c.fdiv 2600).fmod 3) (by rw [i7]; decide) (k9 c (by decide)) (r7 c _ 6) o1.2 (le_trans o1.1 (by decide)) o2.2 (le_trans o2.1 (by decide)) (a7 _ (by decide)) (le_trans c2 (by decide)) (by rw [i7]; exact Int.add_le_add (Int.add_le_add o1.1 o2.1) c2);refine ⟨x,y,z,ok,fun K h=>run (fn:=f23) rfl rfl rfl ?_⟩;refine af (v:=.str abc) ix (af (v:=.int (eM c)) (aa (.two ix (aa (.two ix ix) (cT (.inr (by decide))))) rfl) ?_);refine af (rM (c:=c) (s:=eM c) (n:=6) (by decide) rfl (fun i=>ix) (fun i=>ix) (fun i=>ix) (fun i=>ix) (r5 c) ix) ?_;refine af (v:=.int one) (aa (.two ix ix) e1) (af (v:=.int (one+two)) (aa (.two ix (aa (.two ix ix) e2)) rfl) ?_);exact aB (v:=sg x y z) (aa (.cons (aa (.two ix ix) q1) (.two (aa (.cons ix (.two ix ix)) q2) (aa (.cons ix (.two ix (aa (.two ix ix) rfl))) q3))) rfl) h
def nE (c:Int):0<=1+c.fmod 4/\1+c.fmod 4<=4:=by
 have a1:=a7 c (b:=4) (by decide);have a2:=cq c (b:=3+1) (by decide);exact ⟨add_nonneg (by decide) a1,Int.add_le_add_left (Int.le_of_lt_add_one a2) 1⟩
def p24 (cf:ai) (h20:SgS 23 cf):SgS 24 (step cf):=fun c=>by
 by_cases h3:(c.fdiv 7800).fmod 8=3
 ·have a:=nE (c.fdiv 130);have b:=nE (c.fdiv 520);have d:=nE (c.fdiv 2600);obtain ⟨x,y,z,ok,q1,q2,q3⟩:=DB (l:=qt c (eM c) 12) (by rw [i7]; decide) (k9 c (by decide)) (r7 c _ 12) a.1 a.2 b.1 b.2 d.1 d.2 (by rw [i7]; exact Int.add_le_add (Int.add_le_add a.2 b.2) d.2);rw [<- Int.add_assoc] at q2 q3;rw [<- Int.add_assoc] at q3;refine ⟨x,y,z,ok,fun K h=>run (fn:=f24) rfl rfl rfl ?_⟩;refine aC (ae (x:=.int ((c.fdiv 7800).fmod 8)) ix ix (tg.trans (by rw [h3]; rfl))) ?_;refine af (v:=.str abc) ix (af (v:=.int (eM c)) (aa (.two ix (aa (.two ix ix) (cT (.inr (by decide))))) rfl) ?_);refine af (rM (c:=c) (s:=eM c) (n:=12) (by decide) rfl (fun i=>ix) (fun i=>ix) (fun i=>ix) (fun i=>ix) (r5 c) ix) ?_;refine af (v:=.int (1+(c.fdiv 130).fmod 4)) ix (af (v:=.int (1+(c.fdiv 130).fmod 4+1+(c.fdiv 520).fmod 4)) ix ?_);exact aB (v:=sg x y z) (aa (.cons (aa (.two ix ix) q1) (.two (aa (.cons ix (.two ix ix)) q2) (aa (.cons ix (.two ix ix)) q3))) rfl) h
 ·refine (h20 c).elim fun s0 Iq=>Iq.elim fun s1 He=>He.elim fun s2 Hd=>Hd.elim fun ok h=>?_;refine ⟨s0,s1,s2,ok,fun K hk=>run (fn:=f24) rfl rfl rfl (bQ (ae (x:=.int ((c.fdiv 7800).fmod 8)) ix ix (tg.trans (congrArg some ?_))) (aB (au (.one ix) h) hk))⟩;rw [beq_eq_false_iff_ne.mpr h3]; rfl
def Ac {l:List V} (hl:dH (.list l)=true):aX .Eq (.list l) (.list [])=some l.isEmpty:=(if_pos (by rw [hl]; rfl)).trans (congrArg some (by cases l <;> rfl))
noncomputable def eO (cell:Int) (s:List Nat):Nat:=s.getD ((cell.fdiv 256).fmod s.length).toNat 0
def jd {cell:Int} {n:Nat} (h:0 < n):(cell.fmod n).toNat < n:=by
 have h1:=a7 cell (b:=n) (ofNat_lt.mpr h);have h2:=cq cell (b:=n) (ofNat_lt.mpr h);exact (toNat_lt ‹_›).mpr h2
def oV {cell:Int} {s:List Nat} (h:s≠[]):s[((cell.fdiv 256).fmod s.length).toNat]?=some (eO cell s):=by
 have:=jd (cell:=cell.fdiv 256) (length_pos_iff.mpr h);unfold eO;rw [getD_eq_getElem?_getD,Q9 this]; rfl
def cB {cell:Int} {s:List Nat} (h:s≠[]):eO cell s∈s:=mem_of_getElem? (oV h)
def jT {cf:ai} {G:Gs} {e:E} {cell:Int} {s:List Nat} (he:Val cf G e (text s)) (h0:Val cf G (vv 0) (.int cell)) (hs:s≠[]) (hl:s.length<=4):Val cf G (sbE e (mdE (fdE (vv 0) (ii 256)) (lnE e))) (text [eO cell s]):=
 have hp:=length_pos_iff.mpr hs;have hz:s.length<=5000:=zB1 hl (by decide)
 aa (.two he (aa (.two (aa (.two h0 ix) (nH (by decide) (by decide))) (aa (.one he) (kF hz))) (cU (ofNat_lt.mpr hp)))) (rc hz (a7 _ (ofNat_lt.mpr hp)) (oV hs))
def iV {l:List Nat} (h:strOk ⟨l.toArray⟩=true):aX .NotEq (text l) (.str k0)=some (!l.isEmpty):=(zZ h Dl).trans (congrArg (fun b=>some (!b)) (by
 cases l with
 | nil=>rfl
 | cons c r=>exact beq_eq_false_iff_ne.mpr fun e=>nomatch congrArg (fun s:Str=>s.cps.toList) e))
def sH {l:List V} (h:∀ x∈l,eI 1 x):aX .NotEq (.list l) (.list [])=some (!l.isEmpty):=congrArg (Option.map (!·)) (Ac (cr (n:=2) (cD h) (by decide)):eqO (.list l) (.list [])=some l.isEmpty)
def BI (s0 s1 s2:List Nat) (R:Int) (v:V):Prop:=v=.none\/∃ w,W.ok s0 s1 s2 R w/\v=w.v
noncomputable def BU:W->Prop
 | .op _ _ _ _=>True
 | _=>False
def S25 (cf:ai):Prop:=∀ cell s0 s1 s2 R (os:List W) (most:Int),SgOk s0 s1 s2->1<=R->os.length<=100->(∀ w∈os,BU w/\W.ok s0 s1 s2 R w)->∃ v,BI s0 s1 s2 R v/\∀ K,K v->cf 25 [.int cell,sg s0 s1 s2,.int R,aN os,.int most] K
section
variable {cf:ai} {cell R most:Int} {s0 s1 s2:List Nat} {os:List W}
noncomputable def g25 (cell:Int) (s0 s1 s2:List Nat) (R:Int) (os:List W) (most a b t:Int):Gs:=[.v (.int cell),.v (sg s0 s1 s2),.v (.int R),.v (aN os),.v (.int most),.v (.int a),.v (.int b),.v (.int t)]
def dR {K:Option V->Gs->Prop} (a b t:Int) (fl:∀ x∈os.map W.v,eI 1 x):Val cf (g25 cell s0 s1 s2 R os most a b t) (neE (vv 3) (.nd .list [])) (.bool (!(os.map W.v).isEmpty)):=ae (x:=.list (os.map W.v)) ix ix (sH fl)
def vf (sk:SgOk s0 s1 s2) (ok:∀ w∈os,BU w/\W.ok s0 s1 s2 R w) (hl:os.length<=100) (fl:∀ x∈os.map W.v,eI 1 x) (h0:s0≠[]) {a b t:Int} (ha:In R a) (hb:In R b) (ht:In R t):∃ v,BI s0 s1 s2 R v/\∀ (r:List S) (K:Option V->Gs->Prop),(∀ G,K (some v) G)->exs sup cf (zU++r) (g25 cell s0 s1 s2 R os most a b t) K:=by
 have q0:∀ {k:Int},Val cf (g25 cell s0 s1 s2 R os most a b t) (eqE (mdE (fdE (vv 0) (ii 1024)) (ii 3)) (ii k)) (.bool ((cell.fdiv 1024).fmod 3==k)):=fun K h=>h;have last:∀ (r:List S) (K:Option V->Gs->Prop),(∀ G,K (some (W.v (.op a (eO cell s0) b t))) G)->exs sup cf (.mk .ret [.nd .tuple [ss aZ,vv 5,sbE (sbE (vv 1) (ii 0)) (mdE (fdE (vv 0) (ii 256)) (lnE (sbE (vv 1) (ii 0)))),vv 6,vv 7]] [] [] :: r) (g25 cell s0 s1 s2 R os most a b t) K:=fun r K h=>
  aB (aa (.cons ix (.cons ix (.cons (jT ix ix h0 sk.la) (.two ix ix)))) rfl) (h _)
 cases os with
 | nil=>
  refine ⟨_,.inr ⟨.op a (eO cell s0) b t,⟨ha,cB h0,hb,ht⟩,rfl⟩,fun r K h=>?_⟩;exact aC (aA (.stop (b:=true) (dR (K:=K) a b t fl))) (aC (aA (.stop (b:=true) (dR (K:=K) a b t fl))) (last r K h))
 | cons w os=>
  obtain ⟨io,wo⟩:=ok w (.head _);cases w with
  | on=>cases io
  | cl=>cases io
  | op a' c' b' t'=>
   have hz:((W.op a' c' b' t' :: os).map W.v).length<=5000:=by exact zB1 (zB2 (length_map _)) (zB1 hl (by decide))
   have w0:Val cf (g25 cell s0 s1 s2 R (.op a' c' b' t' :: os) most a b t) (sbE (vv 3) (ii 0)) (W.v (.op a' c' b' t')):=aa (.two (x:=.list ((W.op a' c' b' t' :: os).map W.v)) ix ix) (fS hz (Int.le_refl _) rfl);by_cases c0:(cell.fdiv 1024).fmod 3=0
   ·refine ⟨_,.inr ⟨.op a' c' b t,⟨wo.1,wo.2.1,hb,ht⟩,rfl⟩,fun r K h=>?_⟩;exact bQ (aA (.go (dR (K:=K) a b t fl) (.go (by have:=q0 (k:=0); rw [c0] at this; exact this) .nil))) (aB (aa (.two (x:=.tuple [.str aZ,.int a',text [c']]) (aa (.two w0 ix) rfl) ix) rfl) (h _))
   ·have n0:=q0 (k:=0);rw [beq_eq_false_iff_ne.mpr c0] at n0;have s1:∀ {X:List S} {r K},exs sup cf r (g25 cell s0 s1 s2 R (.op a' c' b' t' :: os) most a b t) K->exs sup cf (.mk .ite [.nd .and [(neE (vv 3) (.nd .list [])),eqE (mdE (fdE (vv 0) (ii 1024)) (ii 3)) (ii 0)]] X [] :: r) (g25 cell s0 s1 s2 R (.op a' c' b' t' :: os) most a b t) K:=fun {X r K} h=>aC (aA (.go (dR (K:=K) a b t fl) (.stop (b:=true) n0))) h;by_cases c1:(cell.fdiv 1024).fmod 3=1
    ·refine ⟨_,.inr ⟨.op (R - 1 - a') c' b t,⟨⟨by have:=wo.1.2; lia,by have:=wo.1.1; lia⟩,wo.2.1,hb,ht⟩,rfl⟩,fun r K h=>s1 ?_⟩;refine bQ (aA (.go (dR (K:=K) a b t fl) (.go (by have:=q0 (k:=1); rw [c1] at this; exact this) .nil))) (aB (aa (.cons ix (.cons (aa (.two (x:=.int (R - 1)) ix (aa (.two w0 ix) rfl)) rfl) (.cons (aa (.two w0 ix) rfl) (.two ix ix)))) rfl) (h _))
    ·refine ⟨_,.inr ⟨.op a (eO cell s0) b t,⟨ha,cB h0,hb,ht⟩,rfl⟩,fun r K h=>s1 ?_⟩;have n1:=q0 (k:=1);rw [beq_eq_false_iff_ne.mpr c1] at n1;exact aC (aA (.go (dR (K:=K) a b t fl) (.stop (b:=true) n1))) (last r K h)
def tK (sk:SgOk s0 s1 s2) (ok:∀ w∈os,BU w/\W.ok s0 s1 s2 R w) (hl:os.length<=100) (fl:∀ x∈os.map W.v,eI 1 x) (h1:s1≠[]) {a b t:Int} (ha:In R a) (hb:In R b) (ht:In R t):∃ v,BI s0 s1 s2 R v/\∀ (r:List S) (K:Option V->Gs->Prop),(∀ G,K (some v) G)->exs sup cf (zT++r) (g25 cell s0 s1 s2 R os most a b t) K:=by
 have last:∀ (a b:Int) (r:List S) (K:Option V->Gs->Prop),(∀ G,K (some (W.v (.cl a b (eO cell s1) t))) G)->exs sup cf (.mk .ret [.nd .tuple [ss aP,vv 5,vv 6,sbE (sbE (vv 1) (ii 1)) (mdE (fdE (vv 0) (ii 256)) (lnE (sbE (vv 1) (ii 1)))),vv 7]] [] [] :: r) (g25 cell s0 s1 s2 R os most a b t) K:=fun a b r K h=>
  aB (aa (.cons ix (.cons ix (.cons ix (.two (jT ix ix h1 sk.lb) ix)))) rfl) (h _)
 have nn:=fun K=>dR (cf:=cf) (cell:=cell) (s0:=s0) (s1:=s1) (s2:=s2) (R:=R) (most:=most) (K:=K) a b t fl;by_cases he:os=[]
 ·refine ⟨_,.inr ⟨.cl a b (eO cell s1) t,⟨ha,hb,cB h1,ht⟩,rfl⟩,fun r K h=>?_⟩;subst he;exact aC (aA (.stop (b:=true) (nn K))) (last a b r K h)
 ·have ne:(!(os.map W.v).isEmpty)=true:=by cases os with | nil=>exact absurd rfl he | cons=>rfl
  by_cases c0:0 < (cell.fdiv 1024).fmod 4
  ·have Et:=jd (cell:=cell.fdiv 16) (length_pos_iff.mpr he);refine (ok _ (getElem_mem Et)).elim fun io wo=>?_;have hw:(os.map W.v)[((cell.fdiv 16).fmod os.length).toNat]?=some (W.v os[((cell.fdiv 16).fmod os.length).toNat]):=by rw [getElem?_map,Q9 Et]; rfl
   generalize os[((cell.fdiv 16).fmod os.length).toNat]=w at io wo hw;cases w with
   | on=>cases io
   | cl=>cases io
   | op a' c' b' t'=>
    refine ⟨_,.inr ⟨.cl b' t' (eO cell s1) t,⟨wo.2.2.1,wo.2.2.2,cB h1,ht⟩,rfl⟩,fun r K h=>?_⟩;have hz:(os.map W.v).length<=5000:=by exact zB1 (zB2 (length_map _)) (zB1 hl (by decide))
    refine bQ (aA (.go (ne▸nn K) (.go (ae (x:=.int ((cell.fdiv 1024).fmod 4)) ix ix (Aa c0)) .nil))) ?_;refine kU (v:=.tuple [.int b',.int t']) (aa (.two (aa (.two (x:=.list (os.map W.v)) ix (aa (.two (x:=.int (cell.fdiv 16)) ix (aa (.one (v:=.list (os.map W.v)) ix) (qw hz))) (cU (by rw [zA4]; have:=length_pos_iff.mpr he; exact ofNat_lt.mpr this)))) (fS hz (by rw [zA4]; exact a7 _ (by exact ofNat_lt.mpr (length_pos_iff.mpr he))) (by rw [zA4]; exact hw))) ix) rfl) rfl (last b' t' r K h)
  ·refine ⟨_,.inr ⟨.cl a b (eO cell s1) t,⟨ha,hb,cB h1,ht⟩,rfl⟩,fun r K h=>?_⟩;exact aC (aA (.go (ne▸nn K) (.stop (b:=true) (ae (x:=.int ((cell.fdiv 1024).fmod 4)) ix ix (nT c0))))) (last a b r K h)
end
def p25 (cf:ai):S25 (step cf):=fun cell s0 s1 s2 R os most sk hR hl ok=>by
 have Hl:∀ x:Int,In R (x.fmod R):=fun x=>⟨a7 x (by exact Int.lt_of_lt_of_le (by decide) hR),cq x (by exact Int.lt_of_lt_of_le (by decide) hR)⟩;have fl:∀ x∈os.map W.v,eI 1 x:=fun x m=>by
  obtain ⟨w,mw,rfl⟩:=zA7 m;exact kg sk (ok w mw).2
 have hz:(os.map W.v).length<=5000:=by exact zB1 (zB2 (length_map _)) (zB1 hl (by decide))
 have start:∀ (K:V->Prop),(exs sup cf (f25.body.drop 3) (g25 cell s0 s1 s2 R os most ((cell.fdiv 4).fmod R) ((cell.fdiv 16).fmod R) ((cell.fdiv 64).fmod R)) fun fl U=>K (fl.getD .none))->step cf 25 [.int cell,sg s0 s1 s2,.int R,aN os,.int most] K:=fun K h=>
  run (fn:=f25) rfl rfl rfl (af (aa (.two ix ix) (cU (by exact Int.lt_of_lt_of_le (by decide) hR))) (af (aa (.two ix ix) (cU (by exact Int.lt_of_lt_of_le (by decide) hR))) (af (aa (.two ix ix) (cU (by exact Int.lt_of_lt_of_le (by decide) hR))) h)))
 have c1:Val cf (g25 cell s0 s1 s2 R os most ((cell.fdiv 4).fmod R) ((cell.fdiv 16).fmod R) ((cell.fdiv 64).fmod R)) (.nd .and [(eqE (mdE (vv 0) (ii 4)) (ii 0)),.nd (.cmp .Lt) [(lnE (vv 3)),vv 4],neE (sbE (vv 1) (ii 0)) (ss k0)]) (.bool ((cell.fmod 4==0)&&(decide (((os.map W.v).length:Int) < most)&&(!s0.isEmpty&&true)))):=
  aA (.and ix fun U=>.and (ae (aa (.one (v:=.list (os.map W.v)) ix) (qw hz)) ix rfl) fun U=>.and (ae (x:=text s0) ix ix (iV (dQ fun c m=>sk.lowA m))) fun U=>.nil)
 have c2:Val cf (g25 cell s0 s1 s2 R os most ((cell.fdiv 4).fmod R) ((cell.fdiv 16).fmod R) ((cell.fdiv 64).fmod R)) (.nd .and [.nd (.cmp .Lt) [(mdE (vv 0) (ii 4)),ii 2],neE (sbE (vv 1) (ii 1)) (ss k0)]) (.bool (decide (cell.fmod 4 < 2)&&(!s1.isEmpty&&true))):=
  aA (.and ix fun U=>.and (ae (x:=text s1) ix ix (iV (dQ fun c m=>sk.lowB m))) fun U=>.nil)
 have c3:Val cf (g25 cell s0 s1 s2 R os most ((cell.fdiv 4).fmod R) ((cell.fdiv 16).fmod R) ((cell.fdiv 64).fmod R)) (neE (sbE (vv 1) (ii 2)) (ss k0)) (.bool (!s2.isEmpty)):=ae (x:=text s2) ix ix (iV (dQ fun c m=>sk.lowC m));have ne:∀ {s:List Nat},(!s.isEmpty)=true->s≠[]:=fun h e=>by replace h:=e▸h; (injection h; done)
 cases t1:(cell.fmod 4==0)&&(decide (((os.map W.v).length:Int) < most)&&(!s0.isEmpty&&true)) with
 | true=>
  rw [t1] at c1;have z:=zA2 (zA2 (zA2 t1).2).2;refine (vf (cf:=cf) (cell:=cell) (most:=most) sk ok hl fl (ne z.1) (Hl (cell.fdiv 4)) (Hl (cell.fdiv 16)) (Hl (cell.fdiv 64))).elim fun v FL=>FL.elim fun hv h=>?_;exact ⟨v,hv,fun K k=>start K (bQ c1 (h _ _ fun U=>k))⟩
 | false=>
  rw [t1] at c1;cases t2:decide (cell.fmod 4 < 2)&&(!s1.isEmpty&&true) with
  | true=>
   rw [t2] at c2;have z:=zA2 (zA2 t2).2;refine (tK (cf:=cf) (cell:=cell) (most:=most) sk ok hl fl (ne z.1) (Hl (cell.fdiv 4)) (Hl (cell.fdiv 16)) (Hl (cell.fdiv 64))).elim fun v F0=>F0.elim fun hv h=>?_;exact ⟨v,hv,fun K k=>start K (aC c1 (bQ c2 (h _ _ fun U=>k)))⟩
  | false=>
   rw [t2] at c2;cases t3:s2.isEmpty with
   | true=>
    replace c3:=t3▸c3;exact ⟨.none,.inl rfl,fun K k=>start K (aC c1 (aC c2 (aC c3 (aB ix k))))⟩
   | false=>
    rw [t3] at c3;have h2:s2≠[]:=ne (by rw [t3]; rfl);exact ⟨_,.inr ⟨.on ((cell.fdiv 4).fmod R) (eO cell s2) ((cell.fdiv 16).fmod R),⟨Hl _,cB h2,Hl _⟩,rfl⟩,fun K k=>start K (aC c1 (aC c2 (bQ c3 (aB (aa (.cons ix (.cons ix (.two (jT ix ix h2 sk.lc) ix))) rfl) k))))⟩
def rOk_of (h0:0<=n) (h:n<=1000):rOk n=true:=Nat.ble_eq_true_of_le (ofNat_le.mp (by rw [natAbs_of_nonneg h0]; exact le_trans h (by decide)))
def range_len:(a9 0 n).length=n.toNat:=by unfold a9; rw [zA4,length_range,Int.sub_zero]
def x4 (h0:0<=n) (h:n<=1000):opN .range [.int n]=some (.list (a9 0 n)):=(if_pos ⟨rfl,rOk_of h0 h⟩).trans (if_pos (cx (by rw [range_len]; exact toNat_le.mpr (le_trans h (by decide)))))
def eN (h:n<=1000):bK (.list (a9 0 n))=some (a9 0 n):=aT (by rw [range_len]; exact toNat_le.mpr (le_trans h (by decide)))
def range_eq (n:Int):a9 0 n=(List.range n.toNat).map fun i:Nat=>.int (0+(i:Int)):=by unfold a9; rw [Int.sub_zero]
def dj (h:Val cf G e (.int n)) (h0:0<=n) (hz:n<=1000):Val cf G (.nd .range [e]) (.list (a9 0 n)):=aa (.one h) (x4 h0 hz)
noncomputable def pickR (n:Nat) (p:Nat->Bool):List Int:=((List.range n).filter p).map fun i:Nat=>0+(i:Int)
def oU (h:R<=4):RoomsOk R (pickR R.toNat p) where
 len:=by
  unfold pickR;rw [zA4];have:=List.length_filter_le p (List.range R.toNat);rw [length_range] at this;exact zB1 this (toNat_le.mpr (le_trans h (by decide)))
 nodup:=pairwise_map.mpr ((List.nodup_range.filter p).imp fun h e=>h (by rw [Int.zero_add,Int.zero_add] at e; exact ofNat.inj e))
 rooms:=fun i m=>by
  obtain ⟨j,mj,rfl⟩:=zA7 m;have:=mem_range.mp (mem_filter.mp mj).1;exact ⟨add_nonneg (Int.le_refl _) (natCast_nonneg _),by rw [Int.zero_add]; exact Int.lt_toNat.mp this⟩
def kX (h:Val cf G e (.int R)) (h0:0<=R) (h1:R<=4) (ht:∀ i:Nat,(i:Int) < R->Val cf (G.set k (.v (.int (0+(i:Int))))) t (.bool (p i))) (hv:∀ i:Nat,Val cf (G.set k (.v (.int (0+(i:Int))))) (vv k) (.int (0+(i:Int)))) :
  Val cf G (.nd (.comp k) [.nd .range [e],vv k,t]) (ag (pickR R.toNat p)):=by
 have q:=jU (k:=k) (e:=vv k) (ts:=[t]) (p:=p) (f:=fun i:Nat=>.int (0+(i:Int))) (dj h h0 (by exact le_trans h1 (by decide))) ((eN (by exact le_trans h1 (by decide))).trans (congrArg some (range_eq R))) (fun i m=>bk.one (ht i (Int.lt_toNat.mp (mem_range.mp m)))) fun i m U=>hv i;unfold ag pickR;rw [map_map];exact q
def DA {i:Nat} {R:Int} (h:(i:Int) < R) (h4:R<=4):0 < 4 * (0+(i:Int))+1/\4 * (0+(i:Int))+1<=1000000:=by
 rw [Int.zero_add];exact ⟨Int.add_pos_of_nonneg_of_pos (mul_nonneg (by decide) (natCast_nonneg i)) (by decide),le_trans (Int.add_le_add_right (Int.mul_le_mul_of_nonneg_left (le_trans (Int.le_of_lt h) h4) (by decide)) 1) (by decide)⟩
def Dz {i:Nat} {R:Int} (h:(i:Int) < R) (h4:R<=4):0 < 5 * (0+(i:Int))+7/\5 * (0+(i:Int))+7<=1000000:=by
 rw [Int.zero_add];exact ⟨Int.add_pos_of_nonneg_of_pos (mul_nonneg (by decide) (natCast_nonneg i)) (by decide),le_trans (Int.add_le_add_right (Int.mul_le_mul_of_nonneg_left (le_trans (Int.le_of_lt h) h4) (by decide)) 7) (by decide)⟩
structure PartsOk (s0 s1 s2:List Nat) (R:Int) (st en:List Int) (ws:List W):Prop where
 r1:1<=R
 r4:R<=4
 st:RoomsOk R st
 en:RoomsOk R en
 len:ws.length<=10
 ok:∀ w∈ws,W.ok s0 s1 s2 R w
def S26 (cf:ai):Prop:=∀ scr (p:Int) s0 s1 s2 K,scr.length<=63->0<=p->SgOk s0 s1 s2->(∀ R st en ws,PartsOk s0 s1 s2 R st en ws->K (ba (sg s0 s1 s2) R st en ws))->cf 26 [qr scr,.int p,sg s0 s1 s2,.int 4] K
noncomputable def opB:W->Bool
 | .op _ _ _ _=>true
 | _=>false
noncomputable def g26 (scr:List Int) (p:Int) (s0 s1 s2:List Nat) (R FC:Int) (st en:List Int) (ws:List W) (s9 I8 IZ:Slot):Gs:=[.v (qr scr),.v (.int p),.v (sg s0 s1 s2),.v (.int 4),.v (.int R),.v (.int FC),.v (ag st),.v (ag en),.ownL (ws.map W.v),s9,I8,IZ,.unset,.unset]
inductive Ip26_1 (s0 s1 s2:List Nat) (R:Int) (scr:List Int) (p FC:Int) (st en:List Int) (xs:List V) (G:Gs):Prop
 | mk (ws:List W) (s9:Slot) (I8:Slot) (IZ:Slot) (Io:(∀ x∈xs,∃ i:Int,0<=i/\x=.int i)) (Ko:ws.length+xs.length<=10) (Kn:(∀ w∈ws,W.ok s0 s1 s2 R w)) (KV:G=g26 scr p s0 s1 s2 R FC st en ws s9 I8 IZ):Ip26_1 s0 s1 s2 R scr p FC st en xs G
def p26 (cf:ai) (hA:S20 cf) (hB:S21 cf) (hC:S25 cf):S26 (step cf):=fun scr p s0 s1 s2 K hs h0 sk h=>by
 have h1:0<=p+1:=add_nonneg h0 (by decide);have mR:=nE (bB scr p);have Ji:1<=1+(bB scr p).fmod 4:=Int.add_le_add_left (a7 (bB scr p) (b:=4) (by decide)) 1;have n1:0<=2+((bB scr p).fdiv 4).fmod 9:=Int.add_le_add (show 0<=(2:Int) by decide) (a7 _ (by decide));have n2:2+((bB scr p).fdiv 4).fmod 9<=10:=Int.add_le_add_left (Int.le_of_lt_add_one (cq _ (b:=8+1) (by decide))) 2;have cA:∀ {G a b} {i:Int},Val cf G a (qr scr)->Val cf G b (.int i)->0<=i->Val cf G (.nd (.call 20) [a,b]) (.int (bB scr i)):=fun ha hb hi=>au (.two ha hb) fun K h=>hA scr _ K hs hi h;have e1:=mz (l:=[4,2,1,1]) (i:=1+(bB scr p).fmod 4 - 1) (Int.sub_nonneg_of_le Ji) (Int.sub_lt_iff.mpr (Int.lt_add_one_of_le mR.2));refine run (fn:=f26) rfl rfl rfl ?_;have GU:=mR.2;have Ld:=mR.1;clear mR;generalize hR:1+(bB scr p).fmod 4=R at e1 Ld Ji GU;refine af (v:=.int R) (hR▸aa (.two ix (aa (.two (cA ix ix h0) ix) (cU (by decide)))) rfl) ?_;refine af (aa (.two (x:=.list [.int 4,.int 2,.int 1,.int 1]) ix ix) (fS (by decide) (Int.sub_nonneg_of_le Ji) e1)) ?_;generalize ([4,2,1,1]:List Int).getD (R - 1).toNat 0=FC;refine af (kX (p:=fun i=>decide (0 < ((bB scr (p+1)).fdiv (4 * (0+(i:Int))+1)).fmod 3)) ix Ld GU (fun i hi=>ae (aa (.two (aa (.two (cA (i:=p+1) ix ix h1) (aa (.two (aa (.two ix ix) (cT (.inr (by decide)))) ix) rfl)) (nH (DA hi GU).1 (DA hi GU).2)) ix) (cU (by decide))) ix rfl) fun i=>ix) ?_;refine af (kX (p:=fun i=>((bB scr (p+1)).fdiv (5 * (0+(i:Int))+7)).fmod 2==0) ix Ld GU (fun i hi=>ae (aa (.two (aa (.two (cA (i:=p+1) ix ix h1) (aa (.two (aa (.two ix ix) (cT (.inr (by decide)))) ix) rfl)) (nH (Dz hi GU).1 (Dz hi GU).2)) ix) (cU (by decide))) ix rfl) fun i=>ix) (fP ?_);have ost:=oU (R:=R) (p:=fun i=>decide (0 < ((bB scr (p+1)).fdiv (4 * (0+(i:Int))+1)).fmod 3)) GU;have oen:=oU (R:=R) (p:=fun i=>((bB scr (p+1)).fdiv (5 * (0+(i:Int))+7)).fmod 2==0) GU;generalize pickR R.toNat (fun i=>decide (0 < ((bB scr (p+1)).fdiv (4 * (0+(i:Int))+1)).fmod 3))=st at ost;generalize pickR R.toNat (fun i=>((bB scr (p+1)).fdiv (5 * (0+(i:Int))+7)).fmod 2==0)=en at oen;refine im (xs:=a9 0 (2+((bB scr p).fdiv 4).fmod 9)) (P:=Ip26_1 s0 s1 s2 R scr p FC st en)
  (dj (aa (.two ix (aa (.two (aa (.two (cA ix ix h0) ix) (nH (by decide) (by decide))) ix) (cU (by decide)))) rfl) n1 (le_trans n2 (by decide))) (eN (le_trans n2 (by decide))) ⟨[],_,_,_,fun x m=>?_,by rw [range_len,length_nil,zero_add]; exact toNat_le.mpr n2,fun w m=>(nM m),rfl⟩ (fun G hP=>?_) fun x xs' G Kt hP nx U=>?_
 ·rw [range_eq] at m;obtain ⟨i,_,rfl⟩:=zA7 m;exact ⟨_,add_nonneg (by decide) (natCast_nonneg i),rfl⟩
 ·obtain ⟨ws,s9,I8,IZ,_,hl,hw,rfl⟩:=hP;rw [length_nil] at hl;exact cN (l:=ws.map W.v) rfl (aB ix (h R st en ws ⟨Ji,GU,ost,oen,zB1 hl (by decide),hw⟩))
 ·obtain ⟨ws,s9,I8,IZ,hx,hl,hw,rfl⟩:=hP;rw [zB4,<- add_assoc] at hl;have E4:=le_of_succ_le hl;have Js:ws.length<=10:=zB1 (Q3 _ _) E4;obtain ⟨i,hi,rfl⟩:=hx x (.head _);have hz:(ws.map W.v).length<=5000:=by rw [zA4]; exact zB1 Js (by decide)
  refine af (v:=aN (ws.filter opB)) (jU (g:=W.v) (p:=opB) (f:=W.v) (x:=.list (ws.map W.v)) ix (aT hz) (fun w m=>bk.one ?_) fun w m U=>ix) ?_
  ·cases w with
   | on a c b=>exact ae (x:=.str kOn) ix ix ((bS ok_on ok_open).trans (congrArg some (by rfl)))
   | op a c b t=>exact ae (x:=.str aZ) ix ix ((bS ok_open ok_open).trans (congrArg some (by rfl)))
   | cl a b c t=>exact ae (x:=.str aP) ix ix ((bS ok_close ok_open).trans (congrArg some (by rfl)))
  obtain ⟨v,hv,hC⟩:=hC (wK (bB scr (p+2+i)) i) s0 s1 s2 R (ws.filter opB) FC sk Ji (zB1 (List.length_filter_le opB ws) (zB1 Js (by decide))) fun w m=>by
   have m:=mem_filter.mp m;exact ⟨(by cases w with | op=>trivial | _=>(injection m.2; done)),hw w m.1⟩
  refine af (v:=v) (au (vs:=[.int (wK (bB scr (p+2+i)) i),sg s0 s1 s2,.int R,aN (ws.filter opB),.int FC]) (.cons (au (.two (cA (i:=p+2+i) ix ix (add_nonneg (add_nonneg h0 (by decide)) hi)) ix) fun K h=>hB _ _ K h) (.cons ix (.cons ix (.two ix ix)))) hC (by rcases hv with rfl | ⟨w,_,rfl⟩ <;> rfl)) ?_;have Hq:∀ x∈xs',∃ i:Int,0<=i/\x=.int i:=fun x m=>hx x (.tail _ m);rcases hv with rfl | ⟨w,ow,rfl⟩
  ·exact aC ix (aE (nx _ ⟨ws,_,_,_,Hq,E4,hw,rfl⟩))
  ·refine bQ (by cases w <;> exact ix) (bW (l:=ws.map W.v) rfl (v:=w.v) ix (Q1 hz (by decide)) (aE (nx _ ⟨ws++[w],_,_,_,Hq,by rw [zB5,length_singleton,add_right_comm]; exact hl,fun u m=>?_,by unfold g26; rw [map_append]; rfl⟩)));rcases mem_append.mp m with m | m
   ·exact hw u m
   ·obtain rfl:=zA6 m; exact ow
noncomputable def iw (a b c:List Nat):Int->List Nat->Bool
 | d,[]=>d==0
 | d,x :: w=>if a.elem x=true then iw a b c (d+1) w else if b.elem x=true then decide (1<=d)&&iw a b c (d - 1) w else c.elem x&&iw a b c d w
def kind4 (a b c:List Nat) (x:Nat):(a.elem x=true/\dZ a b c x=aZ)\/(a.elem x=false/\b.elem x=true/\dZ a b c x=aP)\/(a.elem x=false/\b.elem x=false/\c.elem x=true/\dZ a b c x=kOn)\/(a.elem x=false/\b.elem x=false/\c.elem x=false/\dZ a b c x=k0):=by
 unfold dZ;cases a.elem x with
 | true=>exact .inl ⟨rfl,rfl⟩
 | false=>cases b.elem x with
  | true=>exact .inr (.inl ⟨rfl,rfl,rfl⟩)
  | false=>cases c.elem x with
   | true=>exact .inr (.inr (.inl ⟨rfl,rfl,rfl,rfl⟩))
   | false=>exact .inr (.inr (.inr ⟨rfl,rfl,rfl,rfl⟩))
def S4 (cf:ai):Prop:=∀ a b c t K,t.length<=1000->iw a b c 0 t=true->K (.bool true)->cf 4 [sg a b c,text t] K
inductive Ip4_1 (a b c:List Nat) (t:List Nat) (xs:List V) (G:Gs):Prop
 | mk (d:Int) (u:List Nat) (s3:Slot) (s4:Slot) (Io:0<=d) (Ko:xs=bq u) (KV:iw a b c d u=true) (e8_:G=[.v (sg a b c),.v (text t),.v (.int d),s3,s4]):Ip4_1 a b c t xs G
def p4 (cf:ai) (h3:S3 cf):S4 (step cf):=fun a b c t K hl hw h=>by
 refine run (fn:=f4) rfl rfl rfl ?_;refine aC (aH (t:=true) ix) (af ix (im (xs:=bq t) (v:=text t) (P:=Ip4_1 a b c t) ix (gd (zB1 hl (by decide))) ⟨0,_,_,_,Int.le_refl _,rfl,hw,rfl⟩ (fun G hP=>?_) fun x l G Kt hP nx rt=>?_))
 ·obtain ⟨d,u,s3,s4,_,e,hi,rfl⟩:=hP;cases u with
  | nil=>exact aB (v:=.bool (d==0)) (ae ix ix pL) (by exact (show (d==0)=true from hi).symm▸h)
  | cons=>(injection e; done)
 ·obtain ⟨d,u,s3,s4,hd,e,hi,rfl⟩:=hP;cases u with
  | nil=>(injection e; done)
  | cons y u=>
   obtain ⟨rfl,rfl⟩:=zA5 e;refine af (v:=.str (dZ a b c y)) (au (.two ix ix) fun K h=>h3 a b c y K h) ?_;have hi:(if a.elem y=true then iw a b c (d+1) u else if b.elem y=true then decide (1<=d)&&iw a b c (d - 1) u else c.elem y&&iw a b c d u)=true:=hi;have fin:∀ {s:Str} {d':Int},(s==k0)=false->strOk s=true->0<=d'->iw a b c d' u=true->exs sup cf [.mk .ite [.nd .or [(eqE (vv 4) (ss k0)),.nd (.cmp .Lt) [vv 2,ii 0]]] [.mk .ret [bb false] [] []] []] [.v (sg a b c),.v (text t),.v (.int d'),.v (text [y]),.v (.str s)] Kt:=fun {s d'} es os g1 g2=>
    aC (bD (.go (aY ix os Dl es) (.one' (ae ix ix (xo (Int.not_lt.mpr g1)))))) (aE (nx _ ⟨d',u,_,_,g1,rfl,g2,rfl⟩))
   rcases kind4 a b c y with ⟨q,e⟩ | ⟨q,q',e⟩ | ⟨q,q',Gg,e⟩ | ⟨q,q',Gg,e⟩ <;> refine e.symm▸?_
   ·rw [if_pos q] at hi;exact bQ (aY ix ok_open ok_open rfl) (af (v:=.int (d+1)) ix (fin rfl ok_open (add_nonneg hd (by decide)) hi))
   ·rw [if_neg (by rw [q]; exact Bool.false_ne_true),if_pos q'] at hi;obtain ⟨JW,IN⟩:=zA2 hi;exact cy (aY (u:=false) ix ok_close ok_open rfl) (fun z=>nB z) fun U=>bQ (aY ix ok_close ok_close rfl) (af (v:=.int (d - 1)) ix (fin rfl ok_close (Int.sub_nonneg_of_le (of_decide_eq_true JW)) IN))
   ·rw [if_neg (by rw [q]; exact Bool.false_ne_true),if_neg (by rw [q']; exact Bool.false_ne_true),Gg,Bool.true_and] at hi;exact cy (aY (u:=false) ix ok_on ok_open rfl) (fun z=>nB z) fun U=>aC (aY ix ok_on ok_close rfl) (fin rfl ok_on hd hi)
   ·rw [if_neg (by rw [q]; exact Bool.false_ne_true),if_neg (by rw [q']; exact Bool.false_ne_true),Gg,Bool.false_and] at hi;exact nB hi
def S5 (cf:ai):Prop:=∀ a b c t K,t.length<=1000->iw a b c 0 t=true->K .none->cf 5 [sg a b c,text t] K
def p5 (cf:ai) (h4:S4 cf):S5 (step cf):=fun a b c t K hl hw h=>run (fn:=f5) rfl rfl rfl (aC (aH (t:=true) (au (.two ix ix) fun K h=>h4 a b c t K hl hw h)) (aE h))
structure MOk (s0 s1 s2:List Nat) (R:Int) (ws:List W):Prop where
 sk:SgOk s0 s1 s2
 r:R<=40
 len:ws.length<=100
 ok:∀ w∈ws,W.ok s0 s1 s2 R w
noncomputable def pV (k:V×Int):V:=.tuple [k.1,.int k.2]
noncomputable def dK (ks:List (V×Int)):List (V×V):=ks.map fun k=>(pV k,.bool true)
def Bg (ws:List W) (v:V):Prop:=v=.none\/v∈ws.map W.v
structure KOk (R:Int) (ws:List W) (ks:List (V×Int)):Prop where
 nd:ks.Nodup
 ok:∀ k∈ks,Bg ws k.1/\In R k.2
noncomputable def rms:List Int:=(List.range 40).map fun n:Nat=>(n:Int)
def Dw (h:R<=40) (q:In R i):i∈rms:=by
 obtain ⟨n,rfl⟩:=eq_ofNat_of_zero_le q.1;exact mem_map.mpr ⟨n,mem_range.mpr (ofNat_lt.mp (Int.lt_of_lt_of_le q.2 h)),rfl⟩
section
variable {s0 s1 s2:List Nat} {R:Int} {ws:List W} (m:MOk s0 s1 s2 R ws)
include m
theorem Dg (h:Bg ws v):itV v=true:=by
 rcases h with rfl | h
 ·rfl
 ·obtain ⟨w,mw,rfl⟩:=zA7 h;exact Qa.mpr fun x q=>cO m.sk (m.ok w mw) x q
theorem nU (h:Bg ws k.1):dJ (pV k)=true:=zA3 ⟨Dg m h,rfl⟩
theorem BB (h:Bg ws v):v.canLay0=true:=by
 rcases h with rfl | h
 ·rfl
 ·obtain ⟨w,mw,rfl⟩:=zA7 h;exact (kg m.sk (m.ok w mw)).1
theorem Bt (hx:Bg ws x) (hy:Bg ws y) (e:PyData.eqv x y=true):x=y:=by
 rcases hx with rfl | hx
 ·rcases hy with rfl | hy
  ·rfl
  ·obtain ⟨w,mw,rfl⟩:=zA7 hy;exact nB e
 ·rcases hy with rfl | hy
  ·obtain ⟨w,mw,rfl⟩:=zA7 hx;exact nB e
  ·exact yR m.sk m.ok hx hy e
theorem C6 (hk:Bg ws k.1) (hj:Bg ws j.1) (e:PyData.eqv (pV k) (pV j)=true):k=j:=by
 obtain ⟨e1,e2⟩:=zA2 (show (PyData.eqv k.1 j.1&&((k.2==j.2)&&true))=true from e);exact Prod.ext (Bt m hk hj e1) (eq_of_beq (zA2 e2).1)
theorem nD (o:KOk R ws ks) (hb:Bg ws k.1) (hr:In R k.2):∃ EG,r9 (dK ks) (pV k) (.bool true)=dK EG/\KOk R ws EG/\∀ j,j∈EG ↔ j∈ks\/j=k:=by
 unfold r9;by_cases q:k∈ks
 ·refine ⟨ks,?_,o,fun j=>⟨.inl,fun h=>h.elim id fun e=>e▸q⟩⟩;rw [if_pos]
  ·unfold dK;rw [map_map];refine List.map_congr_left fun j mj=>?_;refine (?_:(if PyData.eqv (pV j) (pV k)=true then (pV j,PyData.bool true) else (pV j,PyData.bool true))=_);exact ite_self _
  ·refine any_eq_true.mpr ⟨_,mem_map.mpr ⟨k,q,rfl⟩,?_⟩;exact PySem.SeqAt.eqv_refl (pV k) (zA3 ⟨BB m hb,rfl⟩)
 ·refine ⟨ks++[k],?_,⟨?_,fun j mj=>?_⟩,fun j=>by rw [mem_append,mem_singleton]⟩
  ·rw [if_neg]
   ·unfold dK; rw [map_append]; rfl
   ·intro h;obtain ⟨p,mp,hp⟩:=any_eq_true.mp h;obtain ⟨j,mj,rfl⟩:=zA7 mp;exact q (C6 m (o.ok j mj).1 hb hp▸mj)
  ·exact nodup_append.mpr ⟨o.nd,pairwise_singleton _ k,fun a ha b hb e=>q (by obtain rfl:=zA6 hb; exact e▸ha)⟩
  ·rcases mem_append.mp mj with mj | mj
   ·exact o.ok j mj
   ·obtain rfl:=zA6 mj; exact ⟨hb,hr⟩
open Classical in
theorem zB (o:KOk R ws ks):ks.length<=4040:=by
 have h:ks.length<=((PyData.none :: ws.map W.v).flatMap fun v=>rms.map fun i=>(v,i)).length:=o.nd.length_le_of_subset fun k mk=>by
  refine (o.ok k mk).elim fun h1 h2=>?_;exact mem_flatMap.mpr ⟨k.1,h1.elim (fun e=>e▸.head _) fun e=>.tail _ e,mem_map.mpr ⟨k.2,Dw m.r h2,rfl⟩⟩
 rw [length_flatMap] at h;have e:((PyData.none :: ws.map W.v).map fun v=>(rms.map fun i=>(v,i)).length).sum=(ws.length+1) * 40:=by
  rw [show (fun v:V=>(rms.map fun i=>(v,i)).length)=fun U=>40 from rfl,map_const',sum_replicate_nat,zB4,zA4]
 rw [e] at h;exact zB1 h (Nat.mul_le_mul_right 40 (succ_le_succ m.len))
theorem kB (o:KOk R ws ks):bK (.dict (dK ks))=some (ks.map pV):=by
 refine (if_pos (Qa.mpr fun p mp=>?_)).trans ((if_pos ?_).trans (congrArg some ?_))
 ·obtain ⟨j,mj,rfl⟩:=zA7 mp;exact nU m (o.ok j mj).1
 ·refine cx ?_;unfold dK;rw [zA4]; exact zB1 (zB m o) (by decide)
 ·unfold dK;rw [map_map]; rfl
theorem uy (o:KOk R ws ks):(dK ks).length < am:=by
 unfold dK;rw [zA4]; exact Q1 (zB m o) (by decide)
end
def ex_cons (A:α->β->Prop):(∃ x,x∈y :: ys/\A x p) ↔ A y p\/∃ x,x∈ys/\A x p:=⟨fun h=>h.elim fun x q=>(mem_cons.mp q.1).elim (fun e=>.inl (e▸q.2)) fun m=>.inr ⟨x,m,q.2⟩,fun h=>h.elim (fun q=>⟨y,.head _,q⟩) fun h=>h.elim fun x q=>⟨x,.tail _ q.1,q.2⟩⟩
inductive AddI {α β:Type} (xs:List α) (g:α->V) (J:Gs->List β->Prop) (A:α->β->Prop) (fs:List β) (l:List V) (G:Gs):Prop
 | mk (ys:List α) (Fg:List β) (e:l=ys.map g) (my:∀ y∈ys,y∈xs) (j:J G Fg) (h:∀ p,(p∈Fg\/∃ x,x∈ys/\A x p) ↔ (p∈fs\/∃ x,x∈xs/\A x p)):AddI xs g J A fs l G
def fW {α β:Type} {K:Option V->Gs->Prop} {b:Gs->V->Option Gs} {body r:List S} {xs:List α} {g:α->V} {J:Gs->List β->Prop} {A:α->β->Prop} {fs:List β}
  (Gy:∀ ds X Y G K,(fz ds G fun x=>okK (bK x) fun xs=>eF b X xs G K)->d7 sup cf op ds X Y G K) (hs:Val cf G s v) (hq:bK v=some (xs.map g)) (h0:J G fs)
  (turn:∀ x∈xs,∀ G fs Kt,J G fs->(∀ G' Fg,J G' Fg->(∀ p,p∈Fg ↔ p∈fs\/A x p)->Kt none G')->okK (b G (g x)) fun G'=>exs sup cf body G' Kt)
  (n:∀ G Fg,J G Fg->(∀ p,p∈Fg ↔ p∈fs\/∃ x∈xs,A x p)->exs sup cf r G K):exs sup cf (.mk op [s] body [] :: r) G K:=by
 refine qV (P:=AddI xs g J A fs) Gy hs hq ⟨xs,fs,rfl,fun U m=>m,h0,fun U=>Iff.rfl⟩ (fun G hP=>?_) fun x l G Kt hP nx rt=>?_
 ·obtain ⟨ys,Fg,e,_,j,h⟩:=hP;obtain rfl:=map_eq_nil_iff.mp e.symm;exact n G Fg j fun p=>(or_iff_left fun q=>q.elim fun U q=>not_mem_nil q.1).symm.trans (h p)
 ·obtain ⟨ys,Fg,e,my,j,h⟩:=hP;cases ys with
  | nil=>(injection e; done)
  | cons y ys=>
   obtain ⟨rfl,rfl⟩:=zA5 e;exact turn y (my y (.head _)) G Fg Kt j fun G' L9 j' h'=>nx G' ⟨ys,L9,rfl,fun z q=>my z (.tail _ q),j',fun p=>((or_congr_left (h' p)).trans or_assoc).trans ((or_congr_right (ex_cons A).symm).trans (h p))⟩
def iB (h:((⟨[x].toArray⟩:Str)==⟨[y].toArray⟩)=true):x=y:=by
 have e:=congrArg (fun s:Str=>s.cps.toList) (eq_of_beq h);exact (zA5 e).1
def nk (h:low x=true):strOk ⟨[x].toArray⟩=true:=dQ (l:=[x]) fun y q=>by obtain rfl:=zA6 q; exact h
def uB (hx:low x=true) (hy:low y=true):aX .Eq (text [x]) (text [y])=some ((⟨[x].toArray⟩:Str)==⟨[y].toArray⟩):=bS (nk hx) (nk hy)
def iD (ks:List (V×Int)):noX (.dict (dK ks))=true:=by cases ks <;> rfl
section
variable {s0 s1 s2:List Nat} {R:Int} {ws:List W}
def nz (m:MOk s0 s1 s2 R ws):bK (aN ws)=some (ws.map W.v):=aT (by rw [zA4]; exact zB1 m.len (by decide))
def cY {β:Type} {fs:List β} {A:β->Prop} (h:∀ p,¬ A p):∀ p,p∈fs ↔ p∈fs\/A p:=fun p=>⟨.inl,fun q=>q.elim id fun q=>absurd q (h p)⟩
def b3 (h:(true&&(a&&b))=true):a=true/\b=true:=zA2 h
def OnK (ws:List W) (c:Nat) (ks EG:List (V×Int)):Prop:=∀ p,p∈EG ↔ ∃ k∈ks,p.1=k.1/\W.on k.2 c p.2∈ws
def OpK (ws:List W) (c:Nat) (ks EG:List (V×Int)):Prop:=∀ p,p∈EG ↔ ∃ k∈ks,∃ t,W.op k.2 c p.2 t∈ws/\p.1=(W.op k.2 c p.2 t).v
def S6 (cf:ai):Prop:=∀ s0 s1 s2 R ws ks c K,MOk s0 s1 s2 R ws->KOk R ws ks->low c=true->(∀ EG,KOk R ws EG->OnK ws c ks EG->K (.dict (dK EG)))->cf 6 [aN ws,.dict (dK ks),text [c]] K
noncomputable def uw (ws:List W) (ks:List (V×Int)) (c:Nat) (fs:List (V×Int)) (z4:Slot) (z5:Slot) (z6:Slot):Gs:=[.v (aN ws),.v (.dict (dK ks)),.v (text [c]),.ownD (dK fs),z4,z5,z6]
inductive Ip6_1 (R:Int) (ws:List W) (ks:List (V×Int)) (c:Nat) (G:Gs) (fs:List (V×Int)):Prop
 | mk (Hb:KOk R ws fs) (x:Slot) (y:Slot) (z:Slot) (Io:G=(uw ws ks c fs x y z)):Ip6_1 R ws ks c G fs
inductive Ip6_2 (R:Int) (ws:List W) (ks:List (V×Int)) (c:Nat) (k:V×Int) (G:Gs) (fs:List (V×Int)):Prop
 | mk (Hb:KOk R ws fs) (z:Slot) (e2_:G=(uw ws ks c fs (.v k.1) (.v (.int k.2)) z)):Ip6_2 R ws ks c k G fs
def p6 (cf:ai):S6 (step cf):=fun s0 s1 s2 R ws ks c K m o lc h=>by
 refine run (fn:=f6) rfl rfl rfl (m8 ?_);refine fW (op:=.forM [4,5]) (fs:=[]) (A:=fun k p=>p.1=k.1/\W.on k.2 c p.2∈ws) (J:=Ip6_1 R ws ks c) (fun U U U U U h=>h) ix (kB m o) ⟨⟨.nil,fun U q=>nM q⟩,_,_,_,rfl⟩ (fun k mk G fs Kt j nx=>?_) fun G fs j hf=>?_
 ·obtain ⟨jo,x,y,z,rfl⟩:=j;have hb:=(o.ok k mk).1;refine ar (z:=(uw ws ks c fs (.v k.1) (.v (.int k.2)) z)) rfl ?_;refine fW (op:=.forS 6) (fs:=fs) (A:=fun w p=>w=W.on k.2 c p.2/\p.1=k.1) (J:=Ip6_2 R ws ks c k) (fun U U U U U h=>h) ix (nz m) ⟨jo,_,rfl⟩ (fun w mw G fs Kt j nx=>?_) fun G Fg j hf=>aE (nx _ Fg ?_ fun p=>?_)
  ·obtain ⟨jo,z,rfl⟩:=j;refine ar (z:=(uw ws ks c fs (.v k.1) (.v (.int k.2)) (.v w.v))) rfl ?_;have ok:=m.ok w mw;cases w with
   | on a d b=>
    refine cy (aA (.and (ae (x:=.str kOn) ix ix ((bS ok_on ok_on).trans (congrArg some (by rfl)))) fun U=>.and (ae (x:=.int a) ix ix pL) fun U=>.one (ae (x:=text [d]) ix ix (uB (m.sk.lowC ok.2.1) lc)))) (fun q=>?_) fun q=>aE (nx _ fs ⟨jo,_,rfl⟩ (cY fun p FA=>FA.elim fun e U=>?_))
    ·obtain ⟨q1,q2⟩:=b3 q;obtain rfl:=eq_of_beq q1;obtain rfl:=iB q2;refine (nD m jo (k:=(k.1,b)) hb ok.2.2).elim fun EG IB=>IB.elim fun e Iz=>Iz.elim fun o' hm=>?_;refine m7 (l:=dK fs) rfl (v:=.bool true) ix (x:=pV (k.1,b)) ix (nU m (k:=(k.1,b)) hb) (uy m jo) (aE (nx _ EG ⟨o',_,by rw [e]; rfl⟩ fun p=>?_));rw [hm];refine or_congr_right ⟨fun q=>?_,fun FM=>FM.elim fun q q'=>?_⟩
     ·subst q; exact ⟨rfl,rfl⟩
     ·injection q with _ _ q
      exact Prod.ext q' q.symm
    ·injection e with e1 e2
     subst e1 e2;rw [beq_self_eq_true,beq_self_eq_true,beq_self_eq_true] at q;(injection q; done)
   | op a d b t=>exact aC (aA (.stop (b:=true) (ae (x:=.str aZ) ix ix ((bS ok_open ok_on).trans (congrArg some (by rfl)))))) (aE (nx _ fs ⟨jo,_,rfl⟩ (cY fun p FL=>FL.elim fun e U=>nomatch e)))
   | cl a b d t=>exact aC (aA (.stop (b:=true) (ae (x:=.str aP) ix ix ((bS ok_close ok_on).trans (congrArg some (by rfl)))))) (aE (nx _ fs ⟨jo,_,rfl⟩ (cY fun p F0=>F0.elim fun e U=>nomatch e)))
  ·obtain ⟨jo,z,rfl⟩:=j;exact ⟨jo,_,_,_,rfl⟩
  ·rw [hf];exact or_congr_right ⟨fun ⟨w,mw,e,q⟩=>⟨q,e▸mw⟩,fun He=>He.elim fun q mw=>⟨_,mw,rfl,q⟩⟩
 ·obtain ⟨jo,x,y,z,rfl⟩:=j;exact eJ (l:=dK fs) rfl (aB ix (h fs jo fun p=>(hf p).trans ⟨fun q=>q.elim (fun q=>nM q) id,.inr⟩) (iD fs))
def S7 (cf:ai):Prop:=∀ s0 s1 s2 R ws ks c K,MOk s0 s1 s2 R ws->KOk R ws ks->low c=true->(∀ EG,KOk R ws EG->OpK ws c ks EG->K (.dict (dK EG)))->cf 7 [aN ws,.dict (dK ks),text [c]] K
noncomputable def uv (ws:List W) (ks:List (V×Int)) (c:Nat) (fs:List (V×Int)) (z4:Slot) (z5:Slot) (z6:Slot):Gs:=[.v (aN ws),.v (.dict (dK ks)),.v (text [c]),.ownD (dK fs),z4,z5,z6]
inductive Ip7_1 (R:Int) (ws:List W) (ks:List (V×Int)) (c:Nat) (G:Gs) (fs:List (V×Int)):Prop
 | mk (Hb:KOk R ws fs) (x:Slot) (y:Slot) (z:Slot) (Io:G=(uv ws ks c fs x y z)):Ip7_1 R ws ks c G fs
inductive Ip7_2 (R:Int) (ws:List W) (ks:List (V×Int)) (c:Nat) (k:V×Int) (G:Gs) (fs:List (V×Int)):Prop
 | mk (Hb:KOk R ws fs) (z:Slot) (e2_:G=(uv ws ks c fs (.v k.1) (.v (.int k.2)) z)):Ip7_2 R ws ks c k G fs
def p7 (cf:ai):S7 (step cf):=fun s0 s1 s2 R ws ks c K m o lc h=>by
 refine run (fn:=f7) rfl rfl rfl (m8 ?_);refine fW (op:=.forM [4,5]) (fs:=[]) (A:=fun k p=>∃ t,W.op k.2 c p.2 t∈ws/\p.1=(W.op k.2 c p.2 t).v) (J:=Ip7_1 R ws ks c) (fun U U U U U h=>h) ix (kB m o) ⟨⟨.nil,fun U q=>nM q⟩,_,_,_,rfl⟩ (fun k mk G fs Kt j nx=>?_) fun G fs j hf=>?_
 ·obtain ⟨jo,x,y,z,rfl⟩:=j;refine ar (z:=(uv ws ks c fs (.v k.1) (.v (.int k.2)) z)) rfl ?_;refine fW (op:=.forS 6) (fs:=fs) (A:=fun w p=>∃ t,w=W.op k.2 c p.2 t/\p.1=w.v) (J:=Ip7_2 R ws ks c k) (fun U U U U U h=>h) ix (nz m) ⟨jo,_,rfl⟩ (fun w mw G fs Kt j nx=>?_) fun G Fg j hf=>aE (nx _ Fg ?_ fun p=>?_)
  ·obtain ⟨jo,z,rfl⟩:=j;refine ar (z:=(uv ws ks c fs (.v k.1) (.v (.int k.2)) (.v w.v))) rfl ?_;have ok:=m.ok w mw;cases w with
   | op a d b t=>
    refine cy (aA (.and (ae (x:=.str aZ) ix ix ((bS ok_open ok_open).trans (congrArg some (by rfl)))) fun U=>.and (ae (x:=.int a) ix ix pL) fun U=>.one (ae (x:=text [d]) ix ix (uB (m.sk.lowA ok.2.1) lc)))) (fun q=>?_) fun q=>aE (nx _ fs ⟨jo,_,rfl⟩ (cY fun p Hd=>Hd.elim fun t' GQ=>GQ.elim fun e U=>?_))
    ·obtain ⟨q1,q2⟩:=b3 q;obtain rfl:=eq_of_beq q1;obtain rfl:=iB q2;have hb:Bg ws (W.op k.2 d b t).v:=.inr (mem_map.mpr ⟨_,mw,rfl⟩);refine (nD m jo (k:=((W.op k.2 d b t).v,b)) hb ok.2.2.1).elim fun EG Mv=>Mv.elim fun e Mu=>Mu.elim fun o' hm=>?_;refine m7 (l:=dK fs) rfl (v:=.bool true) ix (x:=pV ((W.op k.2 d b t).v,b)) ix (nU m (k:=((W.op k.2 d b t).v,b)) hb) (uy m jo) (aE (nx _ EG ⟨o',_,by rw [e]; rfl⟩ fun p=>?_));rw [hm];refine or_congr_right ⟨fun q=>?_,fun IG=>IG.elim fun t' IF=>IF.elim fun q q'=>?_⟩
     ·subst q; exact ⟨t,rfl,rfl⟩
     ·injection q with _ _ q
      exact Prod.ext q' q.symm
    ·injection e with e1 e2
     subst e1 e2;rw [beq_self_eq_true,beq_self_eq_true,beq_self_eq_true] at q;(injection q; done)
   | on a d b=>exact aC (aA (.stop (b:=true) (ae (x:=.str kOn) ix ix ((bS ok_on ok_open).trans (congrArg some (by rfl)))))) (aE (nx _ fs ⟨jo,_,rfl⟩ (cY fun p MK=>MK.elim fun U MJ=>MJ.elim fun e U=>nomatch e)))
   | cl a b d t=>exact aC (aA (.stop (b:=true) (ae (x:=.str aP) ix ix ((bS ok_close ok_open).trans (congrArg some (by rfl)))))) (aE (nx _ fs ⟨jo,_,rfl⟩ (cY fun p MI=>MI.elim fun U MH=>MH.elim fun e U=>nomatch e)))
  ·obtain ⟨jo,z,rfl⟩:=j;exact ⟨jo,_,_,_,rfl⟩
  ·rw [hf];exact or_congr_right ⟨fun ⟨w,mw,t,e,q⟩=>⟨t,e▸mw,e▸q⟩,fun IE=>IE.elim fun t ID=>ID.elim fun mw q=>⟨_,mw,t,rfl,q⟩⟩
 ·obtain ⟨jo,x,y,z,rfl⟩:=j;exact eJ (l:=dK fs) rfl (aB ix (h fs jo fun p=>(hf p).trans ⟨fun q=>q.elim (fun q=>nM q) id,.inr⟩) (iD fs))
end
inductive ClA (ws:List W) (c:Nat) (ko:List (V×Int)) (k p:V×Int):Prop
 | mk (a:Int) (d:Nat) (e t:Int) (ek:k.1=(W.op a d e t).v) (w:W.cl k.2 t c p.2∈ws) (m:(p.1,a)∈ko):ClA ws c ko k p
def ClK (ws:List W) (c:Nat) (ko ki EG:List (V×Int)):Prop:=∀ p,p∈EG ↔ ∃ k∈ki,ClA ws c ko k p
inductive OpA (ws:List W) (v:V):Prop
 | mk (a:Int) (d:Nat) (e t:Int) (mo:W.op a d e t∈ws) (ek:v=(W.op a d e t).v):OpA ws v
def Ops (ws:List W) (ks:List (V×Int)):Prop:=∀ k∈ks,OpA ws k.1
def wx {a d e t a' d' e' t'} (h:(W.op a d e t).v=(W.op a' d' e' t').v):a=a'/\t=t':=by
 injection h with h
 injection h with _ h
 injection h with h1 h
 injection h with _ h
 injection h with _ h
 injection h with h2 h
 injection h1 with h1
 injection h2 with h2
 exact ⟨h1,h2⟩
def b4 (hu:u=true) (h:(u&&(a&&(b&&c)))=true):a=true/\b=true/\c=true:=by
 rw [hu] at h;obtain ⟨h1,h⟩:=zA2 h;exact ⟨zA2 h |>.1,zA2 (zA2 h).2⟩
def S8 (cf:ai):Prop:=∀ s0 s1 s2 R ws ko ki c K,MOk s0 s1 s2 R ws->KOk R ws ko->KOk R ws ki->Ops ws ki->low c=true->(∀ EG,KOk R ws EG->ClK ws c ko ki EG->K (.dict (dK EG)))->cf 8 [aN ws,.dict (dK ko),.dict (dK ki),text [c]] K
noncomputable def nQ (ws:List W) (ko ki fs:List (V×Int)) (y3:V) (z5:Slot) (z6:Slot) (z7:Slot) (z8:Slot) (z9:Slot):Gs:=[.v (aN ws),.v (.dict (dK ko)),.v (.dict (dK ki)),.v y3,.ownD (dK fs),z5,z6,z7,z8,z9]
inductive Ip8_1 (R:Int) (ws:List W) (ko ki:List (V×Int)) (c:Nat) (G:Gs) (fs:List (V×Int)):Prop
 | mk (Hb:KOk R ws fs) (x5:Slot) (x6:Slot) (x7:Slot) (x8:Slot) (x9:Slot) (Kn:G=(nQ ws ko ki fs (text [c]) x5 x6 x7 x8 x9)):Ip8_1 R ws ko ki c G fs
inductive Ip8_2 (R:Int) (ws:List W) (ko ki:List (V×Int)) (c:Nat) (a:Int) (d:Nat) (e t:Int) (k:V×Int) (G:Gs) (fs:List (V×Int)):Prop
 | mk (Hb:KOk R ws fs) (x7:Slot) (x8:Slot) (x9:Slot) (Io:G=(nQ ws ko ki fs (text [c]) (.v (W.op a d e t).v) (.v (.int k.2)) x7 x8 x9)):Ip8_2 R ws ko ki c a d e t k G fs
inductive Ip8_3 (R:Int) (ws:List W) (ko ki:List (V×Int)) (d':Nat) (a:Int) (d:Nat) (e b:Int) (k:V×Int) (t':Int) (G:Gs) (fs:List (V×Int)):Prop
 | mk (Hb:KOk R ws fs) (x8:Slot) (x9:Slot) (e3_:G=(nQ ws ko ki fs (text [d']) (.v (W.op a d e b).v) (.v (.int k.2)) (.v (W.cl k.2 b d' t').v) x8 x9)):Ip8_3 R ws ko ki d' a d e b k t' G fs
def p8 (cf:ai):S8 (step cf):=fun s0 s1 s2 R ws ko ki c K m oo oi Gy lc h=>by
 refine run (fn:=f8) rfl rfl rfl (m8 ?_);refine fW (op:=.forM [5,6]) (fs:=[]) (A:=ClA ws c ko) (J:=Ip8_1 R ws ko ki c) (fun U U U U U h=>h) ix (kB m oi) ⟨⟨.nil,fun U q=>nM q⟩,_,_,_,_,_,rfl⟩ (fun k mk G fs Kt j nx=>?_) fun G fs j hf=>?_
 ·obtain ⟨jo,x5,x6,x7,x8,x9,rfl⟩:=j;obtain ⟨a,d,e,t,mo,ek⟩:=Gy k mk;refine ar (z:=(nQ ws ko ki fs (text [c]) (.v k.1) (.v (.int k.2)) x7 x8 x9)) rfl ?_;rw [ek];refine fW (op:=.forS 7) (fs:=fs) (A:=fun w p=>w=W.cl k.2 t c p.2/\(p.1,a)∈ko) (J:=Ip8_2 R ws ko ki c a d e t k) (fun U U U U U h=>h) ix (nz m) ⟨jo,_,_,_,rfl⟩ (fun w mw G fs Kt j nx=>?_) fun G Fg j hf=>aE (nx _ Fg ?_ fun p=>?_)
  ·obtain ⟨jo,x7,x8,x9,rfl⟩:=j;refine ar (z:=(nQ ws ko ki fs (text [c]) (.v (W.op a d e t).v) (.v (.int k.2)) (.v w.v) x8 x9)) rfl ?_;have ok:=m.ok w mw;cases w with
   | cl a' b d' t'=>
    refine cy (aA (.and (ae (x:=.str aP) ix ix ((bS ok_close ok_close).trans (congrArg some (by rfl)))) fun U=>.and (ae (x:=.int a') ix ix pL) fun U=>.and (ae (x:=.int b) (y:=.int t) ix ix pL) fun U=>.one (ae (x:=text [d']) ix ix (uB (m.sk.lowB ok.2.2.1) lc)))) (fun q=>?_) fun q=>aE (nx _ fs ⟨jo,_,_,_,rfl⟩ (cY fun p z=>?_))
    ·obtain ⟨q1,q2,q3⟩:=b4 (beq_self_eq_true _) q;obtain rfl:=eq_of_beq q1;obtain rfl:=eq_of_beq q2;obtain rfl:=iB q3;refine fW (op:=.forM [8,9]) (fs:=fs) (A:=fun j p=>p=(j.1,t')/\j.2=a) (J:=Ip8_3 R ws ko ki d' a d e b k t') (fun U U U U U h=>h) ix (kB m oo) ⟨jo,_,_,rfl⟩ (fun j mj G fs Kt jj nx=>?_) fun G Fg j hf=>aE (nx _ Fg ?_ fun p=>?_)
     ·obtain ⟨jo,x8,x9,rfl⟩:=jj;refine ar (z:=(nQ ws ko ki fs (text [d']) (.v (W.op a d e b).v) (.v (.int k.2)) (.v (W.cl k.2 b d' t').v) (.v j.1) (.v (.int j.2)))) rfl ?_;refine cy (ae (x:=.int j.2) (y:=.int a) ix ix pL) (fun q=>?_) fun q=>aE (nx _ fs ⟨jo,_,_,rfl⟩ (cY fun p z=>?_))
      ·obtain rfl:=eq_of_beq q;have hb:=(oo.ok j mj).1;obtain ⟨EG,e,o',hm⟩:=nD m jo (k:=(j.1,t')) hb ok.2.2.2;refine m7 (l:=dK fs) rfl (v:=.bool true) ix (x:=pV (j.1,t')) ix (nU m (k:=(j.1,t')) hb) (uy m jo) (aE (nx _ EG ⟨o',_,_,by rw [e]; rfl⟩ fun p=>?_));rw [hm];exact or_congr_right ⟨fun q=>⟨q,rfl⟩,fun q=>q.1⟩
      ·rw [z.2,beq_self_eq_true] at q;(injection q; done)
     ·obtain ⟨jo,x8,x9,rfl⟩:=j;exact ⟨jo,_,_,_,rfl⟩
     ·rw [hf];refine or_congr_right ⟨fun ⟨j,mj,e1,e2⟩=>?_,fun z=>?_⟩
      ·subst e1 e2; exact ⟨rfl,mj⟩
      ·injection z.1 with _ _ _ q
       exact ⟨_,z.2,Prod.ext rfl q.symm,rfl⟩
    ·injection z.1 with e1 e2 e3
     subst e1 e2 e3;rw [beq_self_eq_true,beq_self_eq_true,beq_self_eq_true,beq_self_eq_true] at q;(injection q; done)
   | on a' d' b=>exact aC (aA (.stop (b:=true) (ae (x:=.str kOn) ix ix ((bS ok_on ok_close).trans (congrArg some (by rfl)))))) (aE (nx _ fs ⟨jo,_,_,_,rfl⟩ (cY fun p z=>nomatch z.1)))
   | op a' d' b t'=>exact aC (aA (.stop (b:=true) (ae (x:=.str aZ) ix ix ((bS ok_open ok_close).trans (congrArg some (by rfl)))))) (aE (nx _ fs ⟨jo,_,_,_,rfl⟩ (cY fun p z=>nomatch z.1)))
  ·obtain ⟨jo,x7,x8,x9,rfl⟩:=j;exact ⟨jo,_,_,_,_,_,rfl⟩
  ·rw [hf];refine or_congr_right ⟨fun ⟨w,mw,e',q⟩=>⟨a,d,e,t,ek,e'▸mw,q⟩,fun ⟨a',d',e',t',q1,q2,q3⟩=>?_⟩;obtain ⟨rfl,rfl⟩:=wx (ek.symm.trans q1);exact ⟨_,q2,rfl,q3⟩
 ·obtain ⟨jo,x5,x6,x7,x8,x9,rfl⟩:=j;exact eJ (l:=dK fs) rfl (aB ix (h fs jo fun p=>(hf p).trans ⟨fun q=>q.elim (fun q=>nM q) id,.inr⟩) (iD fs))
noncomputable abbrev Rel:=Int->List Int->Prop
inductive nx (ws:List W) (c:Nat) (X:Rel) (q:Int) (p:List Int):Prop
 | on (q0:Int) (x:X q0 p) (w:W.on q0 c q∈ws):nx ws c X q p
 | op (q0 t:Int) (p0:List Int) (e:p=t :: p0) (x:X q0 p0) (w:W.op q0 c q t∈ws):nx ws c X q p
 | cl (q0 t:Int) (x:X q0 (t :: p)) (w:W.cl q0 t c q∈ws):nx ws c X q p
noncomputable def i6 (ws:List W):List Nat->Rel->Rel
 | [],X=>X
 | c :: w,X=>i6 ws w (nx ws c X)
noncomputable def st0 (st:List Int):Rel:=fun q p=>q∈st/\p=[]
def Acc (ws:List W) (st en:List Int) (w:List Nat):Prop:=∃ q p,i6 ws w (st0 st) q p/\q∈en
theorem wA (h:∀ w,w∈ws->w∈Ek):nx ws c X q p->nx Ek c X q p
 | .on q0 x w=>.on q0 x (h _ w)
 | .op q0 t p0 e x w=>.op q0 t p0 e x (h _ w)
 | .cl q0 t x w=>.cl q0 t x (h _ w)
def xW (h:∀ w,w∈ws ↔ w∈Ek) (c:Nat) (X:Rel):nx ws c X=nx Ek c X:=funext fun U=>funext fun U=>propext ⟨wA fun w=>(h w).mp,wA fun w=>(h w).mpr⟩
theorem oO (h:∀ w,w∈ws ↔ w∈Ek):∀ (w:List Nat) (X:Rel),i6 ws w X=i6 Ek w X
 | [],_=>rfl
 | c :: w,X=>by unfold i6; rw [xW h]; exact oO h w _
inductive Link (X:Rel) (h:List (V×Int)) (q:Int) (p:List Int):Prop
 | mk (a:Int) (d:Nat) (e t:Int) (p':List Int) (e1:p=t :: p') (m:((W.op a d e t).v,q)∈h) (x:X a p'):Link X h q p
noncomputable def fE:List (List (V×Int))->Rel
 | []=>fun U U=>False
 | h :: r=>fun q p=>(r=[]/\p=[]/\(PyData.none,q)∈h)\/Link (fE r) h q p
noncomputable def Wf (ws:List W):List (List (V×Int))->Prop
 | []=>False
 | h :: r=>(r=[]/\∀ k∈h,k.1=.none)\/(Ops ws h/\Wf ws r)
section
variable {s0 s1 s2:List Nat} {R:Int} {ws:List W} {c:Nat} (m:MOk s0 s1 s2 R ws)
include m
theorem zt (h:W.on a c b∈ws):c∈s2:=(m.ok _ h).2.1
theorem zr (h:W.op a c b t∈ws):c∈s0:=(m.ok _ h).2.1
theorem zu (h:W.cl a b c t∈ws):c∈s1:=(m.ok _ h).2.2.1
theorem Db (hc:c∈s2) (o:OnK ws c h h'):fE (h' :: r)=nx ws c (fE (h :: r)):=by
 funext q p
 refine propext ⟨fun q=>?_,fun q=>?_⟩
 ·rcases q with ⟨e1,e2,q⟩ | ⟨a,d,e,t,p',e1,q,q'⟩
  ·obtain ⟨k,mk,ek,w⟩:=(o _).mp q;exact .on k.2 (.inl ⟨e1,e2,(show (PyData.none,k.2)=k from Prod.ext ek rfl)▸mk⟩) w
  ·obtain ⟨k,mk,ek,w⟩:=(o _).mp q;exact .on k.2 (.inr ⟨a,d,e,t,p',e1,(show ((W.op a d e t).v,k.2)=k from Prod.ext ek rfl)▸mk,q'⟩) w
 ·rcases q with ⟨q0,q,w⟩ | ⟨q0,t,p0,_,_,w⟩ | ⟨q0,t,_,w⟩
  ·rcases q with ⟨e1,e2,q⟩ | ⟨a,d,e,t,p',e1,q,q'⟩
   ·exact .inl ⟨e1,e2,(o _).mpr ⟨_,q,rfl,w⟩⟩
   ·exact .inr ⟨a,d,e,t,p',e1,(o _).mpr ⟨_,q,rfl,w⟩,q'⟩
  ·exact absurd (zr m w) (m.sk.inC hc).1
  ·exact absurd (zu m w) (m.sk.inC hc).2
theorem C9 (hc:c∈s0) (o:OpK ws c h h'):fE (h' :: h :: r)=nx ws c (fE (h :: r)):=by
 have G2:∀ {q p},fE (h :: r) q p->∃ k∈h,k.2=q:=fun {q p} z=>by
  rcases z with ⟨_,_,z⟩ | ⟨_,_,_,_,_,_,z,_⟩ <;> exact ⟨_,z,rfl⟩
 funext q p
 refine propext ⟨fun q=>?_,fun q=>?_⟩
 ·rcases q with ⟨e1,_⟩ | ⟨a,d,e,t,p',e1,q,q'⟩
  ·(injection e1; done)
  ·obtain ⟨k,mk,t',w,ek⟩:=(o _).mp q;obtain ⟨rfl,rfl⟩:=wx ek;exact .op k.2 t p' e1 q' w
 ·rcases q with ⟨q0,q,w⟩ | ⟨q0,t,p0,e,q,w⟩ | ⟨q0,t,_,w⟩
  ·exact absurd hc (m.sk.inC (zt m w)).1
  ·obtain ⟨k,mk,ek⟩:=G2 q;subst ek;exact .inr ⟨k.2,c,_,t,p0,e,(o _).mpr ⟨k,mk,t,w,rfl⟩,q⟩
  ·exact absurd hc (m.sk.inB (zu m w))
theorem Dc (hc:c∈s1) (o:ClK ws c ho h h'):fE (h' :: r)=nx ws c (fE (h :: ho :: r)):=by
 have mk':∀ {k:V×Int} {a d e t},k∈h->k.1=(W.op a d e t).v->((W.op a d e t).v,k.2)∈h:=fun {k a d e t} mk ek=>(show ((W.op a d e t).v,k.2)=k from Prod.ext ek.symm rfl)▸mk;funext q p
 refine propext ⟨fun q=>?_,fun q=>?_⟩
 ·rcases q with ⟨e1,e2,q⟩ | ⟨a2,d2,e2,t2,p',e1,q,q'⟩
  ·obtain ⟨k,mk,a,d,e,t,ek,w,q⟩:=(o _).mp q;exact .cl k.2 t (.inr ⟨a,d,e,t,p,rfl,mk' mk ek,.inl ⟨e1,e2,q⟩⟩) w
  ·obtain ⟨k,mk,a,d,e,t,ek,w,q⟩:=(o _).mp q;exact .cl k.2 t (.inr ⟨a,d,e,t,p,rfl,mk' mk ek,.inr ⟨a2,d2,e2,t2,p',e1,q,q'⟩⟩) w
 ·rcases q with ⟨q0,q,w⟩ | ⟨q0,t,p0,e,q,w⟩ | ⟨q0,t,q,w⟩
  ·exact absurd hc (m.sk.inC (zt m w)).2
  ·exact absurd (zr m w) (m.sk.inB hc)
  ·rcases q with ⟨_,e,_⟩ | ⟨a,d,e,t',p',e1,q,q'⟩
   ·(injection e; done)
   ·obtain ⟨rfl,rfl⟩:=zA5 e1;rcases q' with ⟨f1,f2,f⟩ | ⟨a2,d2,e2,t2,p',f1,f,f'⟩
    ·exact .inl ⟨f1,f2,(o _).mpr ⟨_,q,a,d,e,t,rfl,w,f⟩⟩
    ·exact .inr ⟨a2,d2,e2,t2,p',f1,(o _).mpr ⟨_,q,a,d,e,t,rfl,w,f⟩,f'⟩
omit m in
theorem B7 (o:OnK ws c h h') (q:Wf ws (h :: r)):Wf ws (h' :: r):=by
 rcases q with ⟨e,q⟩ | ⟨q,q'⟩
 ·exact .inl ⟨e,fun k mk=>by obtain ⟨j,mj,ej,_⟩:=(o k).mp mk; exact ej.trans (q j mj)⟩
 ·exact .inr ⟨fun k mk=>by obtain ⟨j,mj,ej,_⟩:=(o k).mp mk; rw [ej]; exact q j mj,q'⟩
omit m in
theorem B4 (o:OpK ws c h h') (q:Wf ws (h :: r)):Wf ws (h' :: h :: r):=
 .inr ⟨fun k mk=>by obtain ⟨j,mj,t,w,e⟩:=(o k).mp mk; exact ⟨_,_,_,_,w,e⟩,q⟩
omit m in
theorem B8 (o:ClK ws c ho h h') (q:Wf ws (h :: ho :: r)):Ops ws h/\Wf ws (h' :: r):=by
 rcases q with ⟨e,q⟩ | ⟨q,q' | q'⟩
 ·(injection e; done)
 ·exact ⟨q,.inl ⟨q'.1,fun k mk=>by obtain ⟨j,mj,a,d,e,t,_,_,z⟩:=(o k).mp mk; exact q'.2 (k.1,a) z⟩⟩
 ·exact ⟨q,.inr ⟨fun k mk=>by obtain ⟨j,mj,a,d,e,t,_,_,z⟩:=(o k).mp mk; exact q'.1 (k.1,a) z,q'.2⟩⟩
end
def eK (hv:fN cf G es vs) (h:cf f vs fun y=>noX y=true/\exs sup cf r (G.set k (.v y)) K):exs sup cf (.mk (.assign k) [.nd (.call f) es] [] [] :: r) G K:=hv _ h
def z0:∃ t,aX .In (.int q) (ag en)=some t/\(t=true ↔ q∈en):=by
 refine ⟨_,if_pos (by rw [cr (x:=.int q) (cK rfl) (by decide),cr (n:=1) (cD fun x mx=>by obtain ⟨i,_,rfl⟩:=zA7 mx; exact cK rfl) (by decide)]; rfl),?_⟩;rw [any_eq_true];constructor
 ·rintro ⟨x,mx,e⟩;obtain ⟨i,mi,rfl⟩:=zA7 mx;exact eq_of_beq (show (i==q)=true from e)▸mi
 ·exact fun h=>⟨_,mem_map.mpr ⟨q,h,rfl⟩,(beq_self_eq_true q:(q==q)=true)⟩
noncomputable def dV (ks:List (V×Int)):V:=.dict (dK ks)
def S9 (cf:ai):Prop:=∀ s0 s1 s2 R st en ws t K,MOk s0 s1 s2 R ws->st.length<=40->(∀ i∈st,In R i)->en.length<=40->t.length<=1000->iw s0 s1 s2 0 t=true->(∀ b,(b=true ↔ Acc ws st en t)->K (.bool b))->cf 9 [aK (sg s0 s1 s2) R st en (ws.map W.v),text t] K
noncomputable def g8 (s0 s1 s2:List Nat) (R:Int) (st en:List Int) (ws:List W) (x:V) (h:List (V×Int)) (z4:Slot) (z5:Slot) (z6:Slot) (z7:Slot) (z8:Slot) (z9:Slot):Gs:=[.v (aK (sg s0 s1 s2) R st en (ws.map W.v)),.v x,.v (aN ws),.v (dV h),z4,z5,z6,z7,z8,z9]
inductive Ip9_end_1 (h:List (V×Int)) (en:List Int) (s0 s1 s2:List Nat) (R:Int) (st:List Int) (ws:List W) (x:V) (s5 s6 s7:Slot) (xs:List V) (G:Gs):Prop
 | mk (ys:_) (zs:_) (s4:Slot) (s9:Slot) (Io:xs=ys.map pV) (Ko:h=zs++ys) (Kn:(∀ k∈zs,k.2∉en)) (KV:G=(g8 s0 s1 s2 R st en ws x h s4 s5 s6 s7 (.v (ag en)) s9)):Ip9_end_1 h en s0 s1 s2 R st ws x s5 s6 s7 xs G
def AG (m:MOk s0 s1 s2 R ws) (o:KOk R ws h) (hn:∀ k∈h,k.1=.none) (me:MethOk cf) (he:en.length<=40)
  (hK:∀ b G,(b=true ↔ ∃ q p,fE [h] q p/\q∈en)->K (some (.bool b)) G):exs sup cf [.mk (.assign 8) [.nd (.meth 18) [vv 0]] [] [],.mk (.forM [9,4]) [vv 3] Dy [],.mk .ret [bb false] [] []] (g8 s0 s1 s2 R st en ws x h s4 s5 s6 s7 .unset s9) K:=by
 refine af (v:=ag en) (bX ix rfl (me.m12 _ _ _ _ _ · (zB1 he (by decide)))) ?_;refine Ak (P:=Ip9_end_1 h en s0 s1 s2 R st ws x s5 s6 s7) ix (kB m o) ⟨h,[],_,_,rfl,rfl,fun U q=>(nM q),rfl⟩ (fun G hP=>?_) fun y l G Kt hP nx rt=>?_
 ·obtain ⟨ys,zs,s4,s9,e,eh,hz,rfl⟩:=hP;obtain rfl:=map_eq_nil_iff.mp e.symm;rw [append_nil] at eh;subst eh;refine aB (v:=.bool false) ix (hK false _ ⟨fun q=>(nB q),fun FA=>FA.elim fun q FM=>FM.elim fun p FL=>FL.elim fun hc hq=>?_⟩);rcases hc with ⟨_,_,z⟩ | ⟨_,_,_,_,_,_,z,_⟩ <;> exact absurd hq (hz _ z)
 ·obtain ⟨ys,zs,s4,s9,e,eh,hz,rfl⟩:=hP;cases ys with
  | nil=>(injection e; done)
  | cons k ys=>
   obtain ⟨rfl,rfl⟩:=zA5 e;have mk:k∈h:=by rw [eh]; exact mem_append_right _ (.head _)
   obtain ⟨t,ht,hq⟩:=z0 (q:=k.2) (en:=en);refine ar (z:=(g8 s0 s1 s2 R st en ws x h (.v (.int k.2)) s5 s6 s7 (.v (ag en)) (.v k.1))) rfl ?_;refine cy (ae (x:=.int k.2) (y:=ag en) ix ix ht) (fun q=>aB (v:=.bool true) ix (rt _ _ rfl (hK true _ ⟨fun U=>⟨k.2,[],.inl ⟨rfl,rfl,(show (PyData.none,k.2)=k from Prod.ext (hn k mk).symm rfl)▸mk⟩,hq.mp q⟩,fun U=>rfl⟩))) fun q=>aE (nx _ ⟨ys,zs++[k],_,_,rfl,by rw [eh,append_assoc]; rfl,fun j mj=>?_,rfl⟩);rcases mem_append.mp mj with mj | mj
   ·exact hz j mj
   ·obtain rfl:=zA6 mj;intro z;rw [hq.mpr z] at q;(injection q; done)
noncomputable def xi (s0 s1 s2:List Nat) (R:Int) (st en:List Int) (ws:List W) (t:List Nat) (z3:Slot) (z4:Slot) (z5:Slot) (z6:Slot) (z7:Slot):Gs:=[.v (aK (sg s0 s1 s2) R st en (ws.map W.v)),.v (text t),.v (aN ws),z3,z4,z5,z6,z7,.unset,.unset]
inductive Ip9_1 (R:Int) (ws:List W) (s0 s1 s2:List Nat) (st en:List Int) (t:List Nat) (G:Gs) (fs:List (V×Int)):Prop
 | mk (Hb:KOk R ws fs) (s4:Slot) (e2_:G=(xi s0 s1 s2 R st en ws t (.ownD (dK fs)) s4 .unset .unset .unset)):Ip9_1 R ws s0 s1 s2 st en t G fs
inductive Ip9_2 (s0 s1 s2:List Nat) (R:Int) (ws:List W) (t:List Nat) (st en:List Int) (xs:List V) (G:Gs):Prop
 | mk (h:List (V×Int)) (r:List (List (V×Int))) (w:List Nat) (s4:Slot) (s6:Slot) (s7:Slot) (Kn:xs=bq w) (e8_:r.length+w.length<=1000) (e9_:iw s0 s1 s2 (r.length:Int) w=true) (Mk:KOk R ws h) (Mi:(∀ k∈r,KOk R ws k)) (Mh:Wf ws (h :: r)) (Mg:i6 ws w (fE (h :: r))=i6 ws t (st0 st) /\
  G=(xi s0 s1 s2 R st en ws t (.v (dV h)) s4 (.ownL (r.reverse.map dV)) s6 s7)):Ip9_2 s0 s1 s2 R ws t st en xs G
def p9 (cf:ai) (h3:S3 cf) (h5:S5 cf) (h6:S6 cf) (h7:S7 cf) (h8:S8 cf) (me:MethOk cf):S9 (step cf):=fun s0 s1 s2 R st en ws t K m ls is le q2 hw hT=>by
 refine run (fn:=f9) rfl rfl rfl ?_;have sgm:∀ {G:Gs} {e:E},Val cf G e (aK (sg s0 s1 s2) R st en (ws.map W.v))->Val cf G (.nd (.meth 15) [e]) (sg s0 s1 s2):=fun h=>bX h rfl (me.m9 _ _ _ _ _ · rfl);refine l8 (.two (sgm ix) ix) (h5 s0 s1 s2 t _ q2 hw ⟨rfl,?_⟩);refine af (v:=aN ws) (bX ix rfl (me.m13 _ _ _ _ _ · (by rw [zA4]; exact zB1 m.len (by decide)))) (m8 ?_);refine fW (op:=.forS 4) (fs:=[]) (A:=fun i p=>p=(PyData.none,i)) (J:=Ip9_1 R ws s0 s1 s2 st en t) (v:=ag st) (xs:=st) (g:=.int) (fun U U U U U h=>h) (bX ix rfl (me.m11 _ _ _ _ _ · (zB1 ls (by decide)))) (aT (by rw [zA4]; exact zB1 ls (by decide))) ⟨⟨.nil,fun U q=>nM q⟩,_,rfl⟩ (fun i mi G fs Kt j nx=>?_) fun G fs j hf=>?_
 ·obtain ⟨jo,s4,rfl⟩:=j;refine ar (z:=(xi s0 s1 s2 R st en ws t (.ownD (dK fs)) (.v (.int i)) .unset .unset .unset)) rfl ?_;refine (nD m jo (k:=(PyData.none,i)) (.inl rfl) (is i mi)).elim fun EG GP=>GP.elim fun e IC=>IC.elim fun o' hm=>?_;exact m7 (l:=dK fs) rfl (v:=.bool true) ix (x:=pV (.none,i)) ix rfl (uy m jo) (aE (nx _ EG ⟨o',_,by rw [e]; rfl⟩ hm))
 obtain ⟨o,s4,rfl⟩:=j;have hf:∀ p,p∈fs ↔ ∃ i∈st,p=(PyData.none,i):=fun p=>(hf p).trans ⟨fun q=>q.elim (fun q=>nM q) id,.inr⟩;have c0:fE [fs]=st0 st:=by
  funext q p
  refine propext ⟨fun z=>?_,fun ⟨z1,z2⟩=>.inl ⟨rfl,z2,(hf _).mpr ⟨q,z1,rfl⟩⟩⟩;rcases z with ⟨_,z2,z⟩ | ⟨_,_,_,_,_,_,_,z'⟩
  ·obtain ⟨i,mi,e⟩:=(hf _).mp z;injection e with _ e
   exact ⟨e▸mi,z2⟩
  ·exact z'.elim
 have w0:Wf ws [fs]:=.inl ⟨rfl,fun k mk=>by obtain ⟨i,_,e⟩:=(hf k).mp mk; rw [e]⟩;refine fP (eJ (l:=dK fs) rfl ?_);refine im (xs:=bq t) (v:=text t) (P:=Ip9_2 s0 s1 s2 R ws t st en) ix (gd (zB1 q2 (by decide))) ⟨fs,[],_,_,_,_,rfl,by rw [length_nil,zero_add]; exact q2,hw,o,fun U q=>(nM q),w0,by rw [c0],rfl⟩ (fun G hP=>?_) fun y l G Kt hP nx rt=>?_
 ·obtain ⟨h,r,w,s4,s6,s7,e,_,hi,o,_,wf,hr,rfl⟩:=hP;cases w with
  | cons=>(injection e; done)
  | nil=>
   cases r with
   | cons a r=>exact absurd (eq_of_beq (show (((a :: r).length:Int)==0)=true from hi)) (by rw [zB4]; exact Int.ofNat_ne_zero.mpr (succ_ne_zero _))
   | nil=>
    have hn:∀ k∈h,k.1=.none:=by
     rcases wf with wf | wf
     ·exact wf.2
     ·exact wf.2.elim
    refine AG m o hn me le fun b G hb=>hT b (hb.trans ?_);unfold Acc;exact hr▸Iff.rfl
 ·obtain ⟨h,r,w,s4,s6,s7,e,hl,hi,o,or,wf,hr,rfl⟩:=hP;cases w with
  | nil=>(injection e; done)
  | cons c w=>
   obtain ⟨rfl,rfl⟩:=zA5 e;rw [zB4,<- add_assoc] at hl;refine af (v:=.str (dZ s0 s1 s2 c)) (au (.two (sgm ix) ix) fun K h=>h3 s0 s1 s2 c K h) ?_;have hi:(if s0.elem c=true then iw s0 s1 s2 ((r.length:Int)+1) w else if s1.elem c=true then decide (1<=(r.length:Int))&&iw s0 s1 s2 (r.length - 1) w else s2.elem c&&iw s0 s1 s2 r.length w)=true:=hi;rcases kind4 s0 s1 s2 c with ⟨q,e⟩ | ⟨q,q',e⟩ | ⟨q,q',Gg,e⟩ | ⟨q,q',Gg,e⟩ <;> refine e.symm▸?_
   ·rw [if_pos q] at hi;have mc:=elem_iff.mp q;refine cy (aY (u:=false) ix ok_open ok_on rfl) (fun z=>nB z) fun U=>bQ (aY ix ok_open ok_open rfl) ?_;refine bW (l:=r.reverse.map dV) rfl (v:=dV h) ix (by rw [zA4,length_reverse]; exact Q1 (zB1 (Q3 _ _) (le_of_succ_le hl)) (by decide)) ?_;refine eK (.cons ix (.two ix ix)) (h7 s0 s1 s2 R ws h c _ m o (m.sk.lowA mc) fun h' o' hk=>⟨iD h',aE (nx _ ⟨h',h :: r,w,s4,.v (text [c]),.v (.str aZ),rfl,?_,hi,o',zA1 ⟨o,or⟩,B4 hk wf,?_,?_⟩)⟩)
    ·rw [zB4,succ_add]; exact hl
    ·rw [C9 m mc hk]; exact hr
    ·rw [reverse_cons,map_append]; rfl
   ·rw [if_neg (by exact q.symm▸Bool.false_ne_true),if_pos q'] at hi;have mc:=elem_iff.mp q';obtain ⟨JW,IN⟩:=zA2 hi;cases r with
    | nil=>exact absurd (of_decide_eq_true JW) (by decide)
    | cons ho r=>
     refine cy (aY (u:=false) ix ok_close ok_on rfl) (fun z=>nB z) fun U=>cy (aY (u:=false) ix ok_close ok_open rfl) (fun z=>nB z) fun U=>?_;have hw':((ho :: r).reverse.map dV)=r.reverse.map dV++[dV ho]:=by rw [reverse_cons,map_append]; rfl
     replace hl:=List.length_cons▸hl;refine (forall_mem_cons.mp or).elim fun or1 or2=>?_;refine Ai (l:=(ho :: r).reverse.map dV) ix rfl (by rw [zA4,length_reverse,zB4]; exact zB1 (zB1 (Q3 _ _) (le_of_succ_le hl)) (by decide)) (y:=dV ho) (by rw [hw',List.getLast?_append]; rfl) ix ix ?_;have Gy:Ops ws h:=by
      refine wf.elim (fun Ir=>Ir.elim fun e U=>?_) fun wf=>?_
      ·(injection e; done)
      ·exact wf.1
     refine h8 s0 s1 s2 R ws ho h c _ m or1 o Gy (m.sk.lowB mc) fun h' o' hk=>⟨iD h',aE (nx _ ⟨h',r,w,s4,.v (text [c]),.v (.str aP),rfl,?_,?_,o',or2,(B8 hk wf).2,?_,?_⟩)⟩
     ·exact zB1 (add_le_add_right (le_succ _) _) (le_of_succ_le hl)
     ·rw [zB4,show (((r.length+1:Nat):Int) - 1)=r.length from Int.add_sub_cancel (r.length:Int) 1] at IN; exact IN
     ·rw [Dc m mc hk]; exact hr
     ·rw [hw',List.dropLast_concat]; rfl
   ·rw [if_neg (by rw [q]; exact Bool.false_ne_true),if_neg (by rw [q']; exact Bool.false_ne_true),Gg,Bool.true_and] at hi;have mc:=elem_iff.mp Gg;refine bQ (aY ix ok_on ok_on rfl) (eK (.cons ix (.two ix ix)) (h6 s0 s1 s2 R ws h c _ m o (m.sk.lowC mc) fun h' o' hk=>⟨iD h',aE (nx _ ⟨h',r,w,_,_,_,rfl,le_of_succ_le hl,hi,o',or,B7 hk wf,?_,rfl⟩)⟩));rw [Db m mc hk]; exact hr
   ·rw [if_neg (by rw [q]; exact Bool.false_ne_true),if_neg (by rw [q']; exact Bool.false_ne_true),Gg,Bool.false_and] at hi;(injection hi; done)
noncomputable def cS (p:List Int):V:=.list (p.reverse.map .int)
noncomputable def stV (s:Int×List Int):V:=.tuple [.int s.1,cS s.2]
noncomputable def zo:Option (Int×List Int)->V
 | none=>.none
 | some s=>stV s
noncomputable def fy:W->Int->List Int->Nat->Option (Int×List Int)
 | .on a d b,q,p,c=>if a=q/\d=c then some (b,p) else none
 | .op a d b t,q,p,c=>if a=q/\d=c then some (b,t :: p) else none
 | .cl a b d t,q,p,c=>if a=q/\d=c/\p.head?=some b then some (t,p.tail) else none
def ze:fy (.on a d b) q p c=if a=q/\d=c then some (b,p) else none:=rfl
def zd:fy (.op a d b t) q p c=if a=q/\d=c then some (b,t :: p) else none:=rfl
def ql:fy (.cl a b d t) q p c=if a=q/\d=c/\p.head?=some b then some (t,p.tail) else none:=rfl
def step_iff:fy w q p c=some (q',p') ↔ (w=.on q c q'/\p'=p)\/(∃ t,w=.op q c q' t/\p'=t :: p)\/∃ t,w=.cl q t c q'/\p=t :: p':=by
 constructor
 ·intro h;cases w with
  | on a d b=>
   replace h:=ze▸h;by_cases e:a=q/\d=c
   ·rw [if_pos e] at h;injection h with h; injection h with h1 h2
    exact .inl ⟨by rw [e.1,e.2,h1],h2.symm⟩
   ·rw [if_neg e] at h; (injection h; done)
  | op a d b t=>
   rw [zd] at h;by_cases e:a=q/\d=c
   ·rw [if_pos e] at h;injection h with h; injection h with h1 h2
    exact .inr (.inl ⟨t,by rw [e.1,e.2,h1],h2.symm⟩)
   ·rw [if_neg e] at h; (injection h; done)
  | cl a b d t=>
   rw [ql] at h;by_cases e:a=q/\d=c/\p.head?=some b
   ·rw [if_pos e] at h;injection h with h; injection h with h1 h2
    cases p with
    | nil=>exact nomatch e.2.2
    | cons s p=>exact .inr (.inr ⟨b,by rw [e.1,e.2.1,h1],by rw [Option.some.inj e.2.2,<- h2]; rfl⟩)
   ·rw [if_neg e] at h; (injection h; done)
 ·rintro (⟨rfl,rfl⟩ | ⟨t,rfl,rfl⟩ | ⟨t,rfl,rfl⟩)
  ·exact if_pos ⟨rfl,rfl⟩
  ·exact if_pos ⟨rfl,rfl⟩
  ·exact if_pos ⟨rfl,rfl,rfl⟩
def eT (l:List Int):eI 1 (.list (l.map .int)):=cD fun x mx=>by obtain ⟨i,_,rfl⟩:=zA7 mx; exact cK rfl
def AQ (h:(l++[x]).length<=5000):opN .sub [.list (l++[x]),.int (-1)]=some x:=by
 refine (?_:(if (l++[x]).length<=am then _ else none)=_);rw [if_pos (cx h),if_neg (by decide),zB5];have e:(-1:Int)+((l.length + [x].length:Nat):Int)=l.length:=by rw [length_singleton,natCast_add]; exact (congrArg (-1 + ·) (Int.add_comm _ _)).trans (Int.neg_add_cancel_left 1 _)
 rw [e,if_pos (natCast_nonneg _),Int.toNat_natCast,getElem?_append_right (le_refl _),sub_self]; rfl
def AR (h:(l++[x]).length<=5000):opN (.slice false true) [.list (l++[x]),.int (-1)]=some (.list l):=by
 refine (?_:mT .list (l++[x]) none (some (.int (-1)))=_);unfold mT;refine (if_pos (cx h)).symm▸?_;have e:pF (l++[x]).length (l++[x]).length (some (.int (-1)))=some l.length:=by
  refine congrArg some ?_;rw [if_neg (by decide),zB5,length_singleton];have e:(-1:Int)+((l.length+1:Nat):Int)=l.length:=by rw [natCast_add]; exact (congrArg (-1 + ·) (Int.add_comm _ _)).trans (Int.neg_add_cancel_left 1 _)
  rw [e,Int.toNat_natCast]
 refine e.symm▸?_;refine (?_:(if 0<=l.length then some (PyData.list (((l++[x]).drop 0).take (l.length - 0))) else none)=_);rw [if_pos (zero_le _),sub_zero,drop_zero,List.take_left]
def nK (h:(a++b).length<=5000):opN (.bin .Add) [.list a,.list b]=some (.list (a++b)):=if_pos (cx h)
def xp (hx:low x=true) (hy:low y=true):aX .NotEq (text [x]) (text [y])=some (!((⟨[x].toArray⟩:Str)==⟨[y].toArray⟩)):=zZ (nk hx) (nk hy)
def xe {a b:Int} (h:(!(a==b))=true):a≠b:=fun e=>by subst e; rw [beq_self_eq_true] at h; (injection h; done)
def wD (h:(!((⟨[a].toArray⟩:Str)==⟨[b].toArray⟩))=true):a≠b:=fun e=>by subst e; rw [beq_self_eq_true] at h; (injection h; done)
def S28 (cf:ai):Prop:=∀ s0 s1 s2 R w q p c K,SgOk s0 s1 s2->W.ok s0 s1 s2 R w->low c=true->p.length<=1000->K (zo (fy w q p c))->cf 28 [w.v,.int q,cS p,text [c]] K
def p28 (cf:ai):S28 (step cf):=fun s0 s1 s2 R w q p c K sk ok lc lp h=>by
 refine run (fn:=f28) rfl rfl rfl ?_;have no:∀ {a:Int} {d:Nat} {u:Prop} [Decidable u] {z:Int×List Int},a≠q\/d≠c->K (zo (if a=q/\d=c then some z else none))->K .none:=fun e h=>by
  rw [if_neg (fun z=>e.elim (fun e=>e z.1) fun e=>e z.2)] at h; exact h
 cases w with
 | on a d b=>
  refine cy (ae (x:=.int a) ix ix tg) (fun e=>aB (v:=.none) ix (no (u:=True) (.inl (xe e)) h)) fun e=>?_;refine aC (ae (x:=.str kOn) ix ix ((bS ok_on ok_close).trans (congrArg some (by rfl)))) ?_;refine cy (ae (x:=text [d]) ix ix (xp (sk.lowC ok.2.1) lc)) (fun e=>aB (v:=.none) ix (no (u:=True) (.inr (wD e)) h)) fun e'=>?_;refine aC (ae (x:=.str kOn) ix ix ((bS ok_on ok_open).trans (congrArg some (by rfl)))) (aB (v:=stV (b,p)) ix ?_);rw [ze] at h;rw [if_pos ⟨eq_of_beq (jk e),iB (jk e')⟩] at h;exact h
 | op a d b t=>
  refine cy (ae (x:=.int a) ix ix tg) (fun e=>aB (v:=.none) ix (no (u:=True) (.inl (xe e)) h)) fun e=>?_;refine aC (ae (x:=.str aZ) ix ix ((bS ok_open ok_close).trans (congrArg some (by rfl)))) ?_;refine cy (ae (x:=text [d]) ix ix (xp (sk.lowA ok.2.1) lc)) (fun e=>aB (v:=.none) ix (no (u:=True) (.inr (wD e)) h)) fun e'=>?_;refine bQ (ae (x:=.str aZ) ix ix ((bS ok_open ok_open).trans (congrArg some (by rfl)))) (aB (v:=stV (b,t :: p)) (aa (.two (x:=.int b) ix (aa (.two (x:=cS p) (y:=.list [.int t]) ix ix) (nK (by rw [zB5,zA4,length_reverse]; exact zB1 (add_le_add_right lp 1) (by decide))))) ?_) ?_)
  ·unfold stV cS; rw [reverse_cons,map_append]; rfl
  ·rw [zd] at h;rw [if_pos ⟨eq_of_beq (jk e),iB (jk e')⟩] at h;exact h
 | cl a b d t=>
  refine cy (ae (x:=.int a) ix ix tg) (fun e=>aB (v:=.none) ix ?_) fun e=>?_
  ·rw [ql] at h;rw [if_neg fun z=>xe e z.1] at h; exact h
  refine bQ (ae (x:=.str aP) ix ix ((bS ok_close ok_close).trans (congrArg some (by rfl)))) ?_;have e0:=Ac (l:=p.reverse.map PyData.int) (cr (eT _) (by decide));cases p with
  | nil=>
   refine bQ (bD (.stop (b:=false) (ae (x:=cS []) (y:=.list []) ix ix e0))) (aB (v:=.none) ix ?_);rw [ql] at h;rw [if_neg fun z=>nomatch z.2.2] at h; exact h
  | cons s p=>
   have ep:(s :: p).reverse.map PyData.int=p.reverse.map .int++[.int s]:=by rw [reverse_cons,map_append]; rfl
   have lz:(p.reverse.map PyData.int++[PyData.int s]).length<=5000:=by rw [<- ep,zA4,length_reverse]; exact zB1 lp (by decide)
   have e1:opN .sub [cS (s :: p),.int (-1)]=some (.int s):=by unfold cS; exact ep.symm▸AQ lz
   have e2:opN (.slice false true) [cS (s :: p),.int (-1)]=some (cS p):=by unfold cS; exact ep.symm▸AR lz
   rw [show ((s :: p).reverse.map PyData.int).isEmpty=false by rw [ep]; cases p.reverse.map PyData.int <;> rfl] at e0;refine cy (bD (.go (ae (x:=cS (s :: p)) (y:=.list []) ix ix e0) (.or (ae (x:=.int b) ix (aa (.two ix ix) e1) tg) fun U=>.one' (ae (x:=text [d]) ix ix (xp (sk.lowB ok.2.2.1) lc))))) (fun e'=>aB (v:=.none) ix ?_) fun e'=>aB (v:=stV (t,p)) (aa (.two (x:=.int t) ix (aa (.two ix ix) e2)) rfl) ?_
   ·replace h:=ql▸h;rw [if_neg fun z=>?_] at h
    ·exact h
    ·obtain ⟨_,z1,z2⟩:=z;obtain rfl:=Option.some.inj z2;subst z1;rw [beq_self_eq_true,beq_self_eq_true] at e';(injection e'; done)
   ·refine (Bool.or_eq_false_iff.mp e').elim fun z1 z2=>?_;rw [ql] at h;rw [if_pos ⟨eq_of_beq (jk e),iB (jk z2),by rw [eq_of_beq (jk z1)]; rfl⟩] at h;exact h
noncomputable def Gd (s0 s1 s2:List Nat) (m e:Nat):Nat->List Nat->Prop
 | d,[]=>d=e
 | d,c :: w=>(c∈s0/\d < m/\Gd s0 s1 s2 m e (d+1) w)\/(c∈s1/\∃ d',d=d' + 1/\Gd s0 s1 s2 m e d' w)\/(c∈s2/\Gd s0 s1 s2 m e d w)
theorem iH (hv:Gd s0 s1 s2 m f e v):∀ {u:List Nat} {d:Nat},Gd s0 s1 s2 m e d u->Gd s0 s1 s2 m f d (u++v)
 | [],d,h=>by subst h; exact hv
 | c :: u,d,h=>by
  rcases h with ⟨h1,h2,h⟩ | ⟨h1,d',h2,h⟩ | ⟨h1,h⟩
  ·exact .inl ⟨h1,h2,iH hv h⟩
  ·exact .inr (.inl ⟨h1,d',h2,iH hv h⟩)
  ·exact .inr (.inr ⟨h1,iH hv h⟩)
def yr:iw a b c d (x :: w)=if a.elem x=true then iw a b c (d+1) w else if b.elem x=true then decide (1<=d)&&iw a b c (d - 1) w else c.elem x&&iw a b c d w:=rfl
section
variable {s0 s1 s2:List Nat} (sk:SgOk s0 s1 s2)
include sk
theorem uu:∀ {w:List Nat} {d:Nat},Gd s0 s1 s2 m e d w->∀ v,iw s0 s1 s2 d (w++v)=iw s0 s1 s2 e v
 | [],d,h,v=>by subst h; rfl
 | c :: w,d,h,v=>by
  rw [List.cons_append,yr];rcases h with ⟨h1,h2,h⟩ | ⟨h1,d',h2,h⟩ | ⟨h1,h⟩
  ·rw [if_pos (elem_iff.mpr h1)]; exact uu (d:=d+1) h v
  ·rw [if_neg fun z=>sk.inB h1 (elem_iff.mp z),if_pos (elem_iff.mpr h1),h2,show ((d' + 1:Nat):Int) - 1=d' from Int.add_sub_cancel (d':Int) 1,decide_eq_true (show (1:Int)<=((d' + 1:Nat):Int) from ofNat_le.mpr (le_add_left 1 d')),Bool.true_and]; exact uu h v
  ·rw [if_neg fun z=>(sk.inC h1).1 (elem_iff.mp z),if_neg fun z=>(sk.inC h1).2 (elem_iff.mp z),elem_iff.mpr h1,Bool.true_and]; exact uu h v
theorem wT:∀ {w:List Nat} {d:Nat},Gd s0 s1 s2 m e d w->∀ c∈w,low c=true
 | c :: w,d,h,x,q=>by
  rcases mem_cons.mp q with rfl | q
  ·rcases h with ⟨h1,_⟩ | ⟨h1,_⟩ | ⟨h1,_⟩
   ·exact sk.lowA h1
   ·exact sk.lowB h1
   ·exact sk.lowC h1
  ·rcases h with ⟨_,_,h⟩ | ⟨_,d',_,h⟩ | ⟨_,h⟩ <;> exact wT h x q
end
def Rm (i:Int):Prop:=i∈([0,1,2,3,4]:List Int)
def in4 (q:In 4 i):Rm i:=by
 obtain ⟨n,rfl⟩:=eq_ofNat_of_zero_le q.1;exact (by decide:∀ n:Nat,n < 4->(n:Int)∈([0,1,2,3,4]:List Int)) n (ofNat_lt.mp q.2)
structure SOk (d:Nat) (ns:List (Int×List Int)):Prop where
 nd:ns.Nodup
 ok:∀ s∈ns,s.2.length=d/\Rm s.1/\∀ t∈s.2,Rm t
noncomputable def tup:Nat->List (List Int)
 | 0=>[[]]
 | n+1=>(tup n).flatMap fun l=>([0,1,2,3,4]:List Int).map (· :: l)
theorem rU:∀ n,(tup n).length=5 ^ n
 | 0=>rfl
 | n+1=>by
  unfold tup;rw [length_flatMap,show (fun l:List Int=>(([0,1,2,3,4]:List Int).map (· :: l)).length)=fun U=>5 from rfl,map_const',sum_replicate_nat,rU n,pow_succ]
theorem rT:∀ {l:List Int},(∀ t∈l,Rm t)->l∈tup l.length
 | [],_=>.head _
 | x :: l,q=>mem_flatMap.mpr ⟨l,rT fun t mt=>q t (.tail _ mt),mem_map.mpr ⟨x,q x (.head _),rfl⟩⟩
def xd (hd:d<=4) (o:SOk d ns):ns.length<=3125:=by
 have nd:(ns.map fun s=>s.1 :: s.2).Nodup:=Pairwise.map _ (fun a b ne e=>ne (by injection e with e1 e2; exact Prod.ext e1 e2)) o.nd;have q:=nd.length_le_of_subset (l₂:=tup (d+1)) fun l ml=>by
  obtain ⟨s,ms,rfl⟩:=zA7 ml;obtain ⟨h1,h2,h3⟩:=o.ok s ms;have z:=rT (l:=s.1 :: s.2) (zA1 ⟨h2,h3⟩);rw [zB4,h1] at z;exact z
 rw [zA4,rU] at q;exact zB1 q (Nat.pow_le_pow_right (by decide) (succ_le_succ hd))
def fk (h:eI n x) (q:n<=m):eI m x:=⟨h.1,zB1 h.2 q⟩
def mH (s:Int×List Int):eI 2 (stV s):=cJ (zA1 ⟨fk (cK rfl) (zero_le _),forall_mem_singleton.mpr (eT _)⟩)
def vP (ns:List (Int×List Int)):dH (.list (ns.map stV))=true:=cr (n:=3) (cD fun x mx=>by obtain ⟨s,_,rfl⟩:=zA7 mx; exact mH s) (by decide)
theorem pf:∀ {l m:List Int},l.map PyData.int=m.map PyData.int->l=m
 | [],[],_=>rfl
 | [],_ :: _,e=>nomatch e
 | _ :: _,[],e=>nomatch e
 | x :: l,y :: m,e=>by
  injection e with e1 e2
  injection e1 with e1
  rw [e1,pf e2]
def Br (h:PyData.eqv (stV s) (stV s')=true):s=s':=by
 obtain ⟨h1,h2⟩:=zA2 (show ((s.1==s'.1)&&(eqvAll (s.2.reverse.map .int) (s'.2.reverse.map .int)&&true))=true from h);have sc:∀ l:List Int,∀ x∈l.map PyData.int,aS x=true:=fun l x mx=>by obtain ⟨i,_,rfl⟩:=zA7 mx; rfl
 exact Prod.ext (eq_of_beq h1) (List.reverse_inj.mp (pf (mO (sc _) (sc _) (zA2 h2).1)))
def wZ {s:Int×List Int} {fs:List (Int×List Int)}:((fs.map stV).any fun z=>PyData.eqv z (stV s))=true ↔ s∈fs:=by
 rw [any_eq_true];constructor
 ·rintro ⟨x,mx,e⟩;obtain ⟨i,mi,rfl⟩:=zA7 mx;exact Br e▸mi
 ·exact fun h=>⟨_,mem_map.mpr ⟨s,h,rfl⟩,PySem.SeqAt.eqv_refl _ (mH s).1⟩
def Cf {ws:List W} {c:Nat} {ns fs:List (Int×List Int)} (h:∀ s',s'∈fs ↔ ∃ s∈ns,∃ w∈ws,fy w s.1 s.2 c=some s'):(fun q p=>(q,p)∈fs)=nx ws c fun q p=>(q,p)∈ns:=by
 funext q p
 refine propext ((h _).trans ⟨fun ⟨s,ms,w,mw,e⟩=>?_,fun z=>?_⟩)
 ·rcases step_iff.mp e with ⟨rfl,rfl⟩ | ⟨t,rfl,rfl⟩ | ⟨t,rfl,e'⟩
  ·exact .on s.1 ms mw
  ·exact .op s.1 t s.2 rfl ms mw
  ·exact .cl s.1 t ((show (s.1,t :: p)=s from Prod.ext rfl e'.symm)▸ms) mw
 ·rcases z with ⟨q0,z,mw⟩ | ⟨q0,t,p0,rfl,z,mw⟩ | ⟨q0,t,z,mw⟩
  ·exact ⟨_,z,_,mw,step_iff.mpr (.inl ⟨rfl,rfl⟩)⟩
  ·exact ⟨_,z,_,mw,step_iff.mpr (.inr (.inl ⟨t,rfl,rfl⟩))⟩
  ·exact ⟨_,z,_,mw,step_iff.mpr (.inr (.inr ⟨t,rfl,rfl⟩))⟩
def xG {s0 s1 s2:List Nat} {ws:List W} {c d d':Nat} (m:MOk s0 s1 s2 4 ws) (hd:(c∈s0/\d'=d+1)\/(c∈s1/\d=d' + 1)\/(c∈s2/\d'=d)) (mw:w∈ws) {s s':Int×List Int} (h:s.2.length=d/\Rm s.1/\∀ t∈s.2,Rm t) (e:fy w s.1 s.2 c=some s'):s'.2.length=d'/\Rm s'.1/\∀ t∈s'.2,Rm t:=by
 obtain ⟨q',p'⟩:=s';obtain ⟨h1,h2,h3⟩:=h;have ok:=m.ok w mw;rcases step_iff.mp e with ⟨rfl,rfl⟩ | ⟨t,rfl,rfl⟩ | ⟨t,rfl,e'⟩
 ·rcases hd with ⟨hc,rfl⟩ | ⟨hc,rfl⟩ | ⟨hc,rfl⟩
  ·exact absurd hc (m.sk.inC ok.2.1).1
  ·exact absurd hc (m.sk.inC ok.2.1).2
  ·exact ⟨h1,in4 ok.2.2,h3⟩
 ·rcases hd with ⟨hc,rfl⟩ | ⟨hc,rfl⟩ | ⟨hc,rfl⟩
  ·exact ⟨congrArg (· + 1) h1,in4 ok.2.2.1,zA1 ⟨in4 ok.2.2.2,h3⟩⟩
  ·exact absurd ok.2.1 (m.sk.inB hc)
  ·exact absurd ok.2.1 (m.sk.inC hc).1
 ·rcases hd with ⟨hc,rfl⟩ | ⟨hc,rfl⟩ | ⟨hc,rfl⟩
  ·exact absurd hc (m.sk.inB ok.2.2.1)
  ·rw [e',zB4] at h1;rw [e'] at h3;exact ⟨Nat.succ.inj h1,in4 ok.2.2.2,(forall_mem_cons.mp h3).2⟩
  ·exact absurd ok.2.2.1 (m.sk.inC hc).2
def De:aX .In (.int q) (ag en)=some (decide (q∈en)):=by
 obtain ⟨t,e,h⟩:=z0 (q:=q) (en:=en);rw [e,decide_eq_decide.mpr h.symm];cases t <;> rfl
def x0 (o:Option (Int×List Int)):noX (zo o)=true:=by cases o <;> rfl
def S29 (cf:ai):Prop:=∀ s0 s1 s2 R st en ws w K,MOk s0 s1 s2 4 ws->st.length<=40->st.Nodup->(∀ i∈st,Rm i)->Gd s0 s1 s2 4 0 0 w->w.length<=1000->(∀ b,(b=true ↔ Acc ws st en w)->K (.bool b))->cf 29 [ba (sg s0 s1 s2) R st en ws,text w] K
noncomputable def fj (s0 s1 s2:List Nat) (R:Int) (st en:List Int) (ws:List W) (w:List Nat) (ns:List (Int×List Int)) (z3:Slot) (z4:Slot) (z5:Slot) (z6:Slot) (z7:Slot) (z8:Slot) (z9:Slot) (IR:Slot):Gs:=[.v (ba (sg s0 s1 s2) R st en ws),.v (text w),.v (.list (ns.map stV)),z3,z4,z5,z6,z7,z8,z9,IR]
inductive Ip29_1 (s0 s1 s2:List Nat) (R:Int) (ws:List W) (w:List Nat) (st en:List Int) (xs:List V) (G:Gs):Prop
 | mk (ns:List (Int×List Int)) (d:Nat) (u:List Nat) (s3:Slot) (s4:Slot) (s5:Slot) (s6:Slot) (s7:Slot) (s8:Slot) (e9_:xs=bq u) (Mk:(∀ y∈u,low y=true)) (Mi:Gd s0 s1 s2 4 0 d u) (Mh:d<=4) (Mg:SOk d ns) (e14_:i6 ws u (fun q p=>(q,p)∈ns)=i6 ws w (st0 st)) (e15_:G=(fj s0 s1 s2 R st en ws w ns s3 s4 s5 s6 s7 s8 .unset .unset)):Ip29_1 s0 s1 s2 R ws w st en xs G
inductive Ip29_2 (R:Int) (d':Nat) (s0 s1 s2:List Nat) (st en:List Int) (ws:List W) (w:List Nat) (ns:List (Int×List Int)) (c:Nat) (G:Gs) (fs:List (Int×List Int)):Prop
 | mk (Hb:SOk d' fs) (s5:Slot) (s6:Slot) (s7:Slot) (s8:Slot) (Ko:G=(fj s0 s1 s2 R st en ws w ns (.v (text [c])) (.ownL (fs.map stV)) s5 s6 s7 s8 .unset .unset)):Ip29_2 R d' s0 s1 s2 st en ws w ns c G fs
inductive Ip29_3 (R:Int) (d':Nat) (s0 s1 s2:List Nat) (st en:List Int) (ws:List W) (w:List Nat) (ns:List (Int×List Int)) (c:Nat) (s:Int×List Int) (G:Gs) (fs:List (Int×List Int)):Prop
 | mk (Hb:SOk d' fs) (s7:Slot) (s8:Slot) (e3_:G=(fj s0 s1 s2 R st en ws w ns (.v (text [c])) (.ownL (fs.map stV)) (.v (.int s.1)) (.v (cS s.2)) s7 s8 .unset .unset)):Ip29_3 R d' s0 s1 s2 st en ws w ns c s G fs
def p29 (cf:ai) (h28:S28 cf):S29 (step cf):=fun s0 s1 s2 R st en ws w K m ls ns0 rs gw lw h=>by
 refine run (fn:=f29) rfl rfl rfl ?_;have FE:(st.map PyData.int).length<=5000:=by rw [zA4]; exact zB1 ls (by decide)
 refine af (v:=.list (st.map fun i=>stV (i,[]))) (b9 (g:=.int) (x:=ag st) ix (aT FE) fun i U=>ix) ?_;have o0:SOk 0 (st.map fun i=>(i,[])):=⟨Pairwise.map _ (fun a b ne e=>ne (by injection e)) ns0,fun s ms=>by
  obtain ⟨i,mi,rfl⟩:=zA7 ms;exact ⟨rfl,rs i mi,fun U q=>nM q⟩⟩
 have r0:(fun q p=>(q,p)∈st.map fun i=>(i,([]:List Int)))=st0 st:=by
  funext q p
  refine propext ⟨fun z=>?_,fun FA=>FA.elim fun z1 z2=>mem_map.mpr ⟨q,z1,by rw [z2]⟩⟩;refine (zA7 z).elim fun i Gf=>Gf.elim fun mi e=>?_;injection e with e1 e2
  exact ⟨e1▸mi,e2.symm⟩
 refine im (xs:=bq w) (v:=text w) (P:=Ip29_1 s0 s1 s2 R ws w st en)
  ix (gd (zB1 lw (by decide))) ⟨st.map fun i=>(i,[]),0,w,_,_,_,_,_,_,rfl,wT m.sk gw,gw,zero_le _,o0,by rw [r0],by unfold fj; rw [map_map]; rfl⟩ (fun G hP=>?_) fun y l G Kt hP nx rt=>?_
 ·obtain ⟨ns,d,u,s3,s4,s5,s6,s7,s8,e,_,_,hd,o,hr,rfl⟩:=hP;cases u with
  | cons=>(injection e; done)
  | nil=>
   have hz:(ns.map stV).length<=5000:=by rw [zA4]; exact zB1 (xd hd o) (by decide)
   refine aB (ae (tu (g:=stV) (f:=fun s=>.int s.1) (p:=fun s=>decide (s.1∈en)) (H:=fun s=>(fj s0 s1 s2 R st en ws w ns s3 s4 s5 s6 s7 s8 (.v (.int s.1)) (.v (cS s.2)))) ix (aT hz) (fun s U=>rfl) (fun s U=>.one (ae (x:=.int s.1) (y:=ag en) ix ix De)) fun s U U=>ix) ix (sH fun x mx=>?_)) (h _ ?_)
   ·obtain ⟨s,_,rfl⟩:=zA7 mx;exact fk (cK rfl) (zero_le _)
   ·unfold Acc;rw [<- hr,not_eq_true',List.isEmpty_eq_false_iff_exists_mem];constructor
    ·rintro ⟨x,mx⟩;obtain ⟨s,ms,rfl⟩:=zA7 mx;obtain ⟨ms,q⟩:=mem_filter.mp ms;exact ⟨s.1,s.2,ms,of_decide_eq_true q⟩
    ·rintro ⟨q,p,z,hq⟩;exact ⟨_,mem_map.mpr ⟨(q,p),mem_filter.mpr ⟨z,decide_eq_true hq⟩,rfl⟩⟩
 ·obtain ⟨ns,d,u,s3,s4,s5,s6,s7,s8,e,hu,gu,hd,o,hr,rfl⟩:=hP;cases u with
  | nil=>(injection e; done)
  | cons c u=>
   obtain ⟨rfl,rfl⟩:=zA5 e;have lc:=hu c (.head _);have hz:(ns.map stV).length<=5000:=by rw [zA4]; exact zB1 (xd hd o) (by decide)
   obtain ⟨d',EN,hc,gu'⟩:∃ d',d'<=4/\((c∈s0/\d'=d+1)\/(c∈s1/\d=d' + 1)\/(c∈s2/\d'=d))/\Gd s0 s1 s2 4 0 d' u:=by
    rcases gu with ⟨h1,h2,z⟩ | ⟨h1,d',h2,z⟩ | ⟨h1,z⟩
    ·exact ⟨d+1,h2,.inl ⟨h1,rfl⟩,z⟩
    ·exact ⟨d',le_of_succ_le (zB1 (zB2 h2.symm) hd),.inr (.inl ⟨h1,h2⟩),z⟩
    ·exact ⟨d,hd,.inr (.inr ⟨h1,rfl⟩),z⟩
   refine fP ?_;refine fW (op:=.forM [5,6]) (g:=stV) (xs:=ns) (fs:=[]) (A:=fun s s'=>∃ w∈ws,fy w s.1 s.2 c=some s') (J:=Ip29_2 R d' s0 s1 s2 st en ws w ns c) (fun U U U U U h=>h) ix (aT hz) ⟨⟨.nil,fun U q=>nM q⟩,_,_,_,_,rfl⟩ (fun s ms G fs Kt j nx=>?_) fun G fs j hf=>?_
   ·obtain ⟨jo,s5,s6,s7,s8,rfl⟩:=j;refine ar (z:=(fj s0 s1 s2 R st en ws w ns (.v (text [c])) (.ownL (fs.map stV)) (.v (.int s.1)) (.v (cS s.2)) s7 s8 .unset .unset)) rfl ?_;refine fW (op:=.forS 7) (g:=W.v) (xs:=ws) (fs:=fs) (A:=fun w s'=>fy w s.1 s.2 c=some s') (J:=Ip29_3 R d' s0 s1 s2 st en ws w ns c s) (fun U U U U U h=>h) (v:=aN ws) ix (nz m) ⟨jo,_,_,rfl⟩ (fun v mv G fs Kt j nx=>?_) fun G Fg j hf=>aE (nx _ Fg ?_ hf)
    ·obtain ⟨jo,s7,s8,rfl⟩:=j;refine ar (z:=(fj s0 s1 s2 R st en ws w ns (.v (text [c])) (.ownL (fs.map stV)) (.v (.int s.1)) (.v (cS s.2)) (.v v.v) s8 .unset .unset)) rfl ?_;have hs:=o.ok s ms;refine af (v:=zo (fy v s.1 s.2 c)) (au (vs:=[v.v,.int s.1,cS s.2,text [c]]) (.cons ix (.cons ix (.two ix ix))) (fun K h=>h28 s0 s1 s2 4 v s.1 s.2 c K m.sk (m.ok v mv) lc (by exact hs.1.symm▸zB1 hd (by decide)) h) (x0 _)) ?_;cases hv:fy v s.1 s.2 c with
     | none=>exact aC (aA (.stop (b:=true) (show Val _ _ _ (.bool false) from ix))) (aE (nx _ fs ⟨jo,_,_,rfl⟩ (cY fun p e=>nomatch hv.symm.trans e)))
     | some s'=>
      have EQ:=xG m hc mv hs hv;have lf:=xd EN jo;refine cy (aA (.go (b:=true) (show Val _ _ _ (.bool true) from ix) (.one (uN (l:=fs.map stV) rfl (ae (x:=stV s') (y:=.list (fs.map stV)) ix ix (v6 (cr (mH s') (by decide)) (vP fs))))))) (fun q=>?_) fun q=>aE (nx _ fs ⟨jo,_,_,rfl⟩ fun p=>⟨.inl,fun z=>z.elim id fun z=>?_⟩)
      ·have nm:s'∉fs:=fun z=>by rw [wZ.mpr z] at q; (injection q; done)
       refine bW (l:=fs.map stV) rfl (v:=stV s') ix (by rw [zA4]; exact Q1 lf (by decide)) (aE (nx _ (fs++[s']) ⟨⟨nodup_append.mpr ⟨jo.nd,pairwise_singleton _ _,fun a ha b hb e=>nm (by obtain rfl:=zA6 hb; exact e▸ha)⟩,fun a ha=>?_⟩,_,_,by unfold fj; rw [map_append]; rfl⟩ fun p=>?_))
       ·rcases mem_append.mp ha with ha | ha
        ·exact jo.ok a ha
        ·obtain rfl:=zA6 ha; exact EQ
       ·rw [mem_append,mem_singleton];exact or_congr_right ⟨fun e=>by rw [e,hv],fun e=>Option.some.inj (e.symm.trans hv)⟩
      ·obtain rfl:=Option.some.inj (hv.symm.trans z);exact wZ.mp (jk q)
    ·obtain ⟨jo,s7,s8,rfl⟩:=j;exact ⟨jo,_,_,_,_,rfl⟩
   ·obtain ⟨jo,s5,s6,s7,s8,rfl⟩:=j;refine cN (l:=fs.map stV) rfl (af (v:=.list (fs.map stV)) ix (aE (nx _ ⟨fs,d',u,_,_,_,_,_,_,rfl,fun y my=>hu y (.tail _ my),gu',EN,jo,?_,rfl⟩)));exact (Cf (ws:=ws) (c:=c) (ns:=ns) (fs:=fs) fun s'=>(hf s').trans ⟨fun q=>q.elim (fun q=>nM q) id,.inr⟩).symm▸hr
def wg (he:Val cf G e (text s)) (hi:Val cf G ei (.int i)) (hs:s≠[]) (hl:s.length<=4):∃ x∈s,Val cf G (sbE e (mdE ei (lnE e))) (text [x]):=by
 have hp:=length_pos_iff.mpr hs;have hz:s.length<=5000:=zB1 hl (by decide);have lt:=jd (cell:=i) hp;exact ⟨_,getElem_mem lt,aa (.two he (aa (.two hi (aa (.one he) (kF hz))) (cU (ofNat_lt.mpr hp)))) (rc hz (a7 _ (ofNat_lt.mpr hp)) (Q9 lt))⟩
def uA (h:∀ c∈s0,low c=true):aX .NotEq (text s0) (.str k0)=some (!s0.isEmpty):=iV (dQ h)
def nG (h:(!s.isEmpty)=true):s≠[]:=fun e=>by subst e; (injection h; done)
def Cu (h:Gd s0 s1 s2 m d 0 w) (hc:c∈s0) (hd:d < m):Gd s0 s1 s2 m (d+1) 0 (w++[c]):=iH (v:=[c]) (.inl ⟨hc,hd,rfl⟩) h
def zM (h:Gd s0 s1 s2 m (d+1) 0 w) (hc:c∈s1):Gd s0 s1 s2 m d 0 (w++[c]):=iH (v:=[c]) (.inr (.inl ⟨hc,d,rfl,rfl⟩)) h
def Cs (h:Gd s0 s1 s2 m d 0 w) (hc:c∈s2):Gd s0 s1 s2 m d 0 (w++[c]):=iH (v:=[c]) (.inr (.inr ⟨hc,rfl⟩)) h
def len1 (h:w.length+1<=n):(w++[c]).length<=n:=by rw [zB5]; exact h
def S30 (cf:ai):Prop:=∀ s0 s1 s2 (cs:List Int) K,SgOk s0 s1 s2->cs.length<=20->(∀ w,Gd s0 s1 s2 4 0 0 w->w.length<=40->K (text w))->cf 30 [sg s0 s1 s2,.list (cs.map .int)] K
noncomputable def iI (s0 s1 s2:List Nat) (cs:List Int) (w:List Nat) (d:Nat) (z4:Slot) (z5:Slot):Gs:=[.v (sg s0 s1 s2),.v (.list (cs.map .int)),.v (text w),.v (.int (d:Int)),z4,z5]
inductive Ip30_1 (s0 s1 s2:List Nat) (cs:List Int) (xs:List V) (G:Gs):Prop
 | mk (is:List Int) (w:List Nat) (d:Nat) (s4:Slot) (Io:xs=is.map .int) (Ko:Gd s0 s1 s2 4 d 0 w) (Kn:d<=4) (KV:(d≠0->s1≠[])) (e8_:w.length+is.length<=20) (e9_:G=(iI s0 s1 s2 cs w d s4 .unset)):Ip30_1 s0 s1 s2 cs xs G
inductive Ip30_2 (s0 s1 s2:List Nat) (cs:List Int) (d:Nat) (s4:Slot) (xs:List V) (G:Gs):Prop
 | mk (is:List Int) (w:List Nat) (s5:Slot) (e3_:xs=is.map .int) (Io:Gd s0 s1 s2 4 is.length 0 w) (Ko:(is≠[]->s1≠[])) (Kn:w.length+is.length<=40) (KV:G=(iI s0 s1 s2 cs w d s4 s5)):Ip30_2 s0 s1 s2 cs d s4 xs G
def p30 (cf:ai):S30 (step cf):=fun s0 s1 s2 cs K sk lc h=>by
 refine run (fn:=f30) rfl rfl rfl (af ix (af ix ?_));refine im (P:=Ip30_1 s0 s1 s2 cs) ix (aT (by rw [zA4]; exact zB1 lc (by decide))) ⟨cs,[],0,_,rfl,rfl,zero_le _,fun q=>absurd rfl q,by rw [length_nil,zero_add]; exact lc,rfl⟩ (fun G hP=>?_) fun x l G Kt hP nx rt=>?_
 ·obtain ⟨is,w,d,s4,_,gw,hd,hs,lw,rfl⟩:=hP;have lw:w.length<=20:=zB1 (Q3 _ _) lw;refine im (P:=Ip30_2 s0 s1 s2 cs d s4) (dj ix (natCast_nonneg d) (le_trans (ofNat_le.mpr hd) (by decide))) (eN (le_trans (ofNat_le.mpr hd) (by decide))) ⟨(List.range d).map fun i:Nat=>0+(i:Int),w,_,by rw [range_eq,map_map]; rfl,by rw [zA4,length_range]; exact gw,fun q=>hs fun e=>q (by rw [e]; rfl),by rw [zA4,length_range]; exact zB1 (add_le_add lw hd) (by decide),rfl⟩ (fun G hP=>?_) fun x l G Kt hP nx rt=>?_
  ·obtain ⟨is,w,s5,e,gw,_,lw,rfl⟩:=hP;obtain rfl:=map_eq_nil_iff.mp e.symm;exact aB (v:=text w) ix (h w gw (zB1 (Q3 _ _) lw))
  ·obtain ⟨is,w,s5,e,gw,hs,lw,rfl⟩:=hP;cases is with
   | nil=>(injection e; done)
   | cons i is=>
    obtain ⟨rfl,rfl⟩:=zA5 e;rw [zB4,<- add_assoc] at lw;have Kx:w.length<=40:=zB1 (Q3 _ _) (le_of_succ_le lw);have EQ:=hs nofun;refine (wg (cf:=cf) (G:=(iI s0 s1 s2 cs w d s4 (.v (.int i)))) (e:=(sbE (vv 0) (ii 1))) (ei:=(adE (lnE (vv 2)) (vv 5))) (i:=(w.length:Int)+i) (s:=s1) ix (aa (.two (aa (.one ix) (kF (zB1 Kx (by decide)))) ix) rfl) EQ sk.lb).elim fun y GP=>GP.elim fun my hy=>?_;refine af (v:=text (w++[y])) (aa (.two ix hy) (nJ (len1 (zB1 (succ_le_succ Kx) (by decide))))) (aE (nx _ ⟨is,w++[y],_,rfl,zM gw my,fun U=>EQ,?_,rfl⟩));rw [zB5,length_singleton,add_right_comm]; exact lw
 ·obtain ⟨is,w,d,s4,e,gw,hd,hs,lw,rfl⟩:=hP;cases is with
  | nil=>(injection e; done)
  | cons i is=>
   obtain ⟨rfl,rfl⟩:=zA5 e;rw [zB4,<- add_assoc] at lw;have lw1:=le_of_succ_le lw;have Le:∀ c,(w++[c]).length+is.length<=20:=fun c=>by rw [zB5,length_singleton,add_right_comm]; exact lw
   have Kx:w.length<=20:=zB1 (Q3 _ _) lw1;have ad:∀ {y:Nat},(w++[y]).length<=5000:=fun {y}=>len1 (zB1 (succ_le_succ Kx) (by decide));have pk:∀ {k:Int} {s:List Nat},Val cf (iI s0 s1 s2 cs w d (.v (.int i)) .unset) (sbE (vv 0) (ii k)) (text s)->s≠[]->s.length<=4->∃ y∈s,Val cf (iI s0 s1 s2 cs w d (.v (.int i)) .unset) (adE (vv 2) (sbE (sbE (vv 0) (ii k)) (mdE (fdE (vv 4) (ii 3)) (lnE (sbE (vv 0) (ii k)))))) (text (w++[y])):=fun hv hn hl=>by
    refine (wg (i:=i.fdiv 3) (ei:=(fdE (vv 4) (ii 3))) hv (aa (.two ix ix) (nH (by decide) (by decide))) hn hl).elim fun y Iv=>Iv.elim fun my hy=>?_;exact ⟨y,my,aa (.two ix hy) (nJ ad)⟩
   have m3:Val cf (iI s0 s1 s2 cs w d (.v (.int i)) .unset) (mdE (vv 4) (ii 3)) (.int (i.fmod 3)):=aa (.two ix ix) (cU (by decide));refine cy (aA (.and (ae m3 ix pL) fun U=>.and (ae (x:=.int d) ix ix (t:=decide ((d:Int) < 4)) rfl) fun U=>.and (ae (x:=text s0) ix ix (uA fun c q=>sk.lowA q)) fun U=>.one (ae (x:=text s1) ix ix (uA fun c q=>sk.lowB q)))) (fun q=>?_) fun q=>?_
   ·obtain ⟨_,q⟩:=zA2 q;obtain ⟨q1,q⟩:=zA2 q;obtain ⟨q2,q3⟩:=zA2 q;have hd4:d < 4:=ofNat_lt.mp (of_decide_eq_true q1);refine (pk (k:=0) ix (nG q2) sk.la).elim fun y Iu=>Iu.elim fun my hy=>?_;exact af hy (af (v:=.int ((d:Int)+1)) ix (aE (nx _ ⟨is,w++[y],d+1,_,rfl,Cu gw my hd4,hd4,fun U=>nG q3,Le y,rfl⟩)))
   ·refine cy (aA (.and (ae m3 ix pL) fun U=>.one (ae (x:=.int d) ix ix (t:=decide (0 < (d:Int))) rfl))) (fun q=>?_) fun q=>?_
    ·obtain ⟨_,q⟩:=zA2 q;cases d with
     | zero=>exact absurd (of_decide_eq_true q) (by decide)
     | succ d=>
      obtain ⟨y,my,hy⟩:=pk (k:=1) ix (hs nofun) sk.lb;exact af hy (af (v:=.int (((d+1:Nat):Int) - 1)) ix (aE (nx _ ⟨is,w++[y],d,_,rfl,zM gw my,le_of_succ_le hd,fun U=>hs nofun,Le y,by rw [show ((d+1:Nat):Int) - 1=d from Int.add_sub_cancel (d:Int) 1]; rfl⟩)))
    ·refine cy (ae (x:=text s2) ix ix (uA fun c q=>sk.lowC q)) (fun q=>?_) fun q=>aE (nx _ ⟨is,w,d,_,rfl,gw,hd,hs,lw1,rfl⟩);obtain ⟨y,my,hy⟩:=pk (k:=2) ix (nG q) sk.lc;exact af hy (aE (nx _ ⟨is,w++[y],d,_,rfl,Cs gw my,hd,hs,Le y,rfl⟩))
def S27 (cf:ai):Prop:=∀ s0 s1 s2 R st en ws K,aj s0 s1 s2 R st en ws->(∀ st' en' r,Held st en (ws.map W.v) st' en' r->K (aK (sg s0 s1 s2) R st' en' r))->cf 27 [ba (sg s0 s1 s2) R st en ws] K
def mB (h:l.length<=5000):opN .listOf [.list l]=some (.list l):=by
 refine (?_:(dw l l).map _=_);rw [show dw l l=some l from if_pos (cx h)]; rfl
def p27 (cf:ai) (HG:S14 cf):S27 (step cf):=fun s0 s1 s2 R st en ws K g h=>by
 refine run (fn:=f27) rfl rfl rfl ?_;have ln:∀ {α:Type} {f:α->V} {l:List α} {n:Nat},l.length<=n->n<=5000->(l.map f).length<=5000:=fun h h'=>by rw [zA4]; exact zB1 h h'
 have hv:fN cf [.v (ba (sg s0 s1 s2) R st en ws)] [sbE (vv 0) (ii 0),sbE (vv 0) (ii 1),.nd .listOf [(sbE (vv 0) (ii 2))],.nd .listOf [(sbE (vv 0) (ii 3))],.nd .listOf [(sbE (vv 0) (ii 4))]] [sg s0 s1 s2,.int R,ag st,ag en,aN ws]:=
  .cons ix (.cons ix (.cons (aa (.one ix) (mB (ln g.st.len (by decide)))) (.two (aa (.one ix) (mB (ln g.en.len (by decide)))) (aa (.one ix) (mB (ln g.len (by decide)))))))
 exact hv (fun xs=>cf 14 xs fun y=>noX y=true/\noX y=true/\K y) (HG s0 s1 s2 R st en ws _ g fun st' en' r hd=>⟨rfl,rfl,h st' en' r hd⟩)
def y2 {w u:W} (h:w.v=u.v):w=u:=by
 have h:w.l=u.l:=PyData.tuple.inj h;have Jd:kOn≠aZ:=by decide
 have Jc:kOn≠aP:=by decide
 have ne3:aZ≠aP:=by decide
 have tx:∀ {a b:Nat},text [a]=text [b]->a=b:=fun e=>(zA5 (congrArg (fun s:Str=>s.cps.toList) (PyData.str.inj e))).1;cases w <;> cases u <;> (first | (injection h with h0 h; exact absurd (PyData.str.inj h0) (by first | exact Jd | exact Jc | exact ne3 | exact Jd.symm | exact Jc.symm | exact ne3.symm)) | skip)
 ·injection h with h0 h; injection h with h1 h; injection h with h2 h; injection h with h3 h
  rw [PyData.int.inj h1,tx h2,PyData.int.inj h3]
 ·injection h with h0 h; injection h with h1 h; injection h with h2 h; injection h with h3 h; injection h with h4 h
  rw [PyData.int.inj h1,tx h2,PyData.int.inj h3,PyData.int.inj h4]
 ·injection h with h0 h; injection h with h1 h; injection h with h2 h; injection h with h3 h; injection h with h4 h
  rw [PyData.int.inj h1,PyData.int.inj h2,tx h3,PyData.int.inj h4]
theorem rL {ws:List W}:∀ {r:List V},(∀ y∈r,y∈ws.map W.v)->∃ us:List W,r=us.map W.v/\∀ u∈us,u∈ws
 | [],_=>⟨[],rfl,fun U q=>nM q⟩
 | y :: r,h=>by
  obtain ⟨us,e,hu⟩:=rL fun z q=>h z (.tail _ q);obtain ⟨w,mw,rfl⟩:=zA7 (h y (.head _));exact ⟨w :: us,by rw [e]; rfl,zA1 ⟨mw,hu⟩⟩
def fh {ws:List W} (hd:Held st en (ws.map W.v) st' en' r):∃ us:List W,r=us.map W.v/\us.Nodup/\∀ w,w∈us ↔ w∈ws:=by
 obtain ⟨us,rfl,hu⟩:=rL fun y q=>(hd.mem y).mp q;refine ⟨us,rfl,Pairwise.of_map W.v (fun a b h e=>h (congrArg _ e)) hd.nd,fun w=>⟨hu w,fun mw=>?_⟩⟩;obtain ⟨u,mu,eu⟩:=zA7 ((hd.mem w.v).mpr (mem_map.mpr ⟨w,mw,rfl⟩));exact y2 eu▸mu
noncomputable def W.at:W->Int
 | .on a _ _=>a
 | .op a _ _ _=>a
 | .cl a _ _ _=>a
theorem W.ok.at (h:W.ok s0 s1 s2 R w):In R w.at:=by cases w <;> exact h.1
def d0 (h:In R i) (q:R<=R'):In R' i:=⟨h.1,Int.lt_of_lt_of_le h.2 q⟩
def qu (h:W.ok s0 s1 s2 R w) (q:R<=R'):W.ok s0 s1 s2 R' w:=by
 cases w with
 | on=>exact ⟨d0 h.1 q,h.2.1,d0 h.2.2 q⟩
 | op=>exact ⟨d0 h.1 q,h.2.1,d0 h.2.2.1 q,d0 h.2.2.2 q⟩
 | cl=>exact ⟨d0 h.1 q,d0 h.2.1 q,h.2.2.1,d0 h.2.2.2 q⟩
def u2 {is:List Int} (nd:is.Nodup) (h:∀ i∈is,In R i) (hR:R<=40):is.length<=40:=by
 have z:=nd.length_le_of_subset (l₂:=rms) fun i mi=>Dw hR (h i mi);exact z
def ge (nd:is.Nodup) (h:∀ i∈is,In R i) (hR:R<=40):RoomsOk R is:=⟨u2 nd h hR,nd,h⟩
section
variable {cf:ai} {s0 s1 s2:List Nat}
def nj (me:MethOk cf) (h:Val cf G e (aK (sg s0 s1 s2) R st en r)):Val cf G (.nd (.meth 15) [e]) (sg s0 s1 s2):=bX h rfl (me.m9 _ _ _ _ _ · rfl)
def qZ (me:MethOk cf) (h:Val cf G e (aK (sg s0 s1 s2) R st en r)):Val cf G (.nd (.meth 16) [e]) (.int R):=bX h rfl (me.m10 _ _ _ _ _)
def qY (me:MethOk cf) (h:Val cf G e (aK (sg s0 s1 s2) R st en r)) (hz:st.length<=40):Val cf G (.nd (.meth 17) [e]) (ag st):=bX h rfl (me.m11 _ _ _ _ _ · (zB1 hz (by decide)))
def q6 (me:MethOk cf) (h:Val cf G e (aK (sg s0 s1 s2) R st en r)) (hz:en.length<=40):Val cf G (.nd (.meth 18) [e]) (ag en):=bX h rfl (me.m12 _ _ _ _ _ · (zB1 hz (by decide)))
def qX (me:MethOk cf) (h:Val cf G e (aK (sg s0 s1 s2) R st en r)) (hz:r.length<=4000):Val cf G (.nd (.meth 19) [e]) (.list r):=bX h rfl (me.m13 _ _ _ _ _ · (zB1 hz (by decide)))
end
def S31 (cf:ai):Prop:=∀ s0 s1 s2 R st en r R' st' en' r' (K:V->Prop),SgOk s0 s1 s2->K .none->cf 31 [aK (sg s0 s1 s2) R st en r,aK (sg s0 s1 s2) R' st' en' r'] K
def p31 (cf:ai) (me:MethOk cf):S31 (step cf):=fun s0 s1 s2 R st en r R' st' en' r' K sk h=>run (fn:=f31) rfl rfl rfl (aC (ae (nj me ix) (nj me ix) (xq (cr (sQ sk) (by decide)))) (aE h))
inductive MM (s0 s1 s2:List Nat) (R:Int) (st en:List Int) (ws:List W) (Kr:Prop) (Km:V->Prop):Prop
 | rooms (h:40 < R) (k:Kr):MM s0 s1 s2 R st en ws Kr Km
 | ways (ok:∀ w∈ws,W.ok s0 s1 s2 R w) (nd:ws.Nodup) (h:4000 < ws.length) (h':ws.length < 4500) (k:Kr):MM s0 s1 s2 R st en ws Kr Km
 | made (g:aj s0 s1 s2 R st en ws) (nd:ws.Nodup) (k:∀ st' en' r,Held st en (ws.map W.v) st' en' r->Km (aK (sg s0 s1 s2) R st' en' r)):MM s0 s1 s2 R st en ws Kr Km
def mA {ws:List W} (h:ws.Nodup):(ws.map W.v).Nodup:=h.map _ fun x y h e=>h (y2 e)
def wE (sk:SgOk s0 s1 s2) (ok:∀ w∈ws,W.ok s0 s1 s2 R w) (nd:ws.Nodup) (hz:ws.length < 4500):opN .lenSet [aN ws]=some (.int ws.length):=by
 refine (?_:(fQ (.list (ws.map W.v))).map _=_);rw [o7 (Qa.mpr fun x m=>by obtain ⟨w,mw,rfl⟩:=zA7 m; exact qW sk (ok w mw)) (mA nd) (by rw [zA4]; exact hz),zA4]; rfl
def pv {l:List W} (h:Val cf G a (aN l)) (sk:SgOk s0 s1 s2) (ok:∀ w∈l,W.ok s0 s1 s2 R w) (hz:l.length<=4000) (k:∀ us:List W,us.Nodup->(∀ w,w∈us ↔ w∈l)->gD (us.map W.v)->K (aN us)):ev cf (.nd .sortedSet [a]) G K:=by
 refine jD h ⟨zA3 ⟨Qa.mpr fun x m=>?_,decide_eq_true (cx (by rw [zA4]; exact zB1 hz (by decide)))⟩,fun x mx y my=>?_,⟨_,(by rw [zA4]; exact Q1 hz (by decide)),fun U m=>m⟩,fun r hn hm hr=>?_⟩
 ·obtain ⟨w,m',rfl⟩:=zA7 m;exact qW sk (ok w m')
 ·obtain ⟨w,_,rfl⟩:=zA7 mx;obtain ⟨u,_,rfl⟩:=zA7 my;exact we w u
 ·obtain ⟨us,rfl,nu,hu⟩:=fh (st:=[]) (en:=[]) ⟨.refl _,.nil,.refl _,.nil,hn,hm,hr⟩;exact k us nu hu hr
def j8 {a b:List W} (ha:a.Nodup) (hb:b.Nodup) (h:∀ w,w∈a ↔ w∈b):a.length=b.length:=((perm_ext_iff_of_nodup ha hb).mpr h).length_eq
def xf {a b:List W} (h:∀ w,w∈a ↔ w∈b) (y:V):y∈a.map W.v ↔ y∈b.map W.v:=by
 rw [mem_map,mem_map];exact exists_congr fun u=>and_congr_left fun U=>h u
def S32 (cf:ai):Prop:=∀ s0 s1 s2 R st en ws K,SgOk s0 s1 s2->MM s0 s1 s2 R st en ws (K (fK 4)) K->cf 32 [sg s0 s1 s2,.int R,ag st,ag en,aN ws] K
def p32 (cf:ai) (HG:S14 cf):S32 (step cf):=fun s0 s1 s2 R st en ws K sk h=>by
 refine run (fn:=f32) rfl rfl rfl ?_;cases h with
 | rooms h k=>exact bQ (bD (.stop (b:=false) (ae ix ix (Aa h)))) (iQ k)
 | ways ok nd h h' k=>
  refine cy (bD (.or (t:=decide (40 < R)) (ae ix ix rfl) fun U=>.one' (ae (aa (.one ix) (wE sk ok nd h')) ix (Aa (ofNat_lt.mpr h))))) (fun U=>iQ k) fun q=>?_;rw [Bool.or_true] at q;exact nB q.symm
 | made g nd k=>
  refine aC (bD (.go (b:=false) (ae ix ix (nT (Int.not_lt.mpr g.r2))) (.one' (ae (aa (.one ix) (wE sk g.ok nd (Q1 g.len (by decide)))) ix (nT (Int.not_lt.mpr (ofNat_le.mpr g.len))))))) ?_;refine (?_:ev cf (.nd .sortedSet [vv 4]) [.v (sg s0 s1 s2),.v (.int R),.v (ag st),.v (ag en),.v (aN ws)] fun r=>cf 14 [sg s0 s1 s2,.int R,ag st,ag en,r] fun y=>noX y=true/\noX y=true/\K y);refine pv ix sk g.ok g.len fun us nu hm up=>?_;have lu:=j8 nu nd hm;exact HG s0 s1 s2 R st en us _ ⟨sk,g.r1,g.r2,g.st,g.en,lu▸g.len,fun w mw=>g.ok w ((hm w).mp mw)⟩ fun st' en' r hd=>⟨rfl,rfl,k st' en' r ⟨hd.p1,hd.o1,hd.p2,hd.o2,hd.nd,fun y=>(hd.mem y).trans (xf hm y),hd.up⟩⟩
noncomputable def W.al:W->W->Bool
 | .on _ c _,.on _ d _=>c==d
 | .op _ c _ _,.op _ d _ _=>c==d
 | .cl _ _ c _,.cl _ _ d _=>c==d
 | _,_=>false
inductive Al:W->W->Prop
 | on (a:Int) (c:Nat) (b Fq Fp:Int):Al (.on a c b) (.on Fq c Fp)
 | op (a:Int) (c:Nat) (b t Fq Fp F6:Int):Al (.op a c b t) (.op Fq c Fp F6)
 | cl (a b:Int) (c:Nat) (t Fq Fp F6:Int):Al (.cl a b c t) (.cl Fq Fp c F6)
def al_of {u v:W} (h:u.al v=true):Al u v:=by
 cases u <;> cases v <;> (first | exact nB h | (obtain rfl:=eq_of_beq h; constructor))
noncomputable def W.pr (k:Int):W->W->W
 | .on a c b,.on a' _ b'=>.on (a * k+a') c (b * k+b')
 | .op a c b t,.op a' _ b' t'=>.op (a * k+a') c (b * k+b') (t * k+t')
 | .cl a b c t,.cl a' b' _ t'=>.cl (a * k+a') (b * k+b') c (t * k+t')
 | w,_=>w
noncomputable def W.pl (k:Int) (w u:W):List W:=if w.al u=true then [W.pr k w u] else []
noncomputable def bx (k:Int) (ws us:List W):List W:=ws.flatMap fun w=>us.flatMap (W.pl k w)
noncomputable def aM (k:Int) (a b:List Int):List Int:=a.flatMap fun i=>b.map fun j=>i * k+j
def dec (hi:In k i) (hj:In k j) (h:a * k+i=b * k+j):a=b/\i=j:=by
 have e:i=j:=by
  have z:(a * k+i) % k=(b * k+j) % k:=congrArg (· % k) h;rw [Int.add_comm,Int.add_mul_emod_self_right,Int.add_comm (b * k),Int.add_mul_emod_self_right,Int.emod_eq_of_lt hi.1 hi.2,Int.emod_eq_of_lt hj.1 hj.2] at z;exact z
 subst e;exact ⟨Int.eq_of_mul_eq_mul_right (Int.ne_of_gt (Int.lt_of_le_of_lt hi.1 hi.2)) ((Int.add_left_inj i).mp h),rfl⟩
def ir (ha:In R a) (hi:In k i):In (R * k) (a * k+i):=by
 have k0:0<=k:=Int.le_of_lt (Int.lt_of_le_of_lt hi.1 hi.2);refine ⟨add_nonneg (mul_nonneg ha.1 k0) hi.1,Int.lt_of_lt_of_le (Int.add_lt_add_left hi.2 _) ?_⟩;have z:=Int.mul_le_mul_of_nonneg_right (Int.add_one_le_of_lt ha.2) k0;rw [Int.add_mul,Int.one_mul] at z;exact z
def kD:w∈W.pl k u v ↔ u.al v=true/\w=W.pr k u v:=by
 unfold W.pl;by_cases h:u.al v=true
 ·rw [if_pos h,mem_singleton]; exact ⟨fun e=>⟨h,e⟩,fun e=>e.2⟩
 ·rw [if_neg h]; exact ⟨fun m=>nM m,fun e=>absurd e.1 h⟩
def prod_mem:w∈bx k ws us ↔ ∃ u∈ws,∃ v∈us,u.al v=true/\w=W.pr k u v:=by
 unfold bx;rw [mem_flatMap];refine exists_congr fun u=>and_congr_right fun U=>?_;rw [mem_flatMap];exact exists_congr fun v=>and_congr_right fun U=>kD
def Cd (hu:W.ok s0 s1 s2 R u) (hv:W.ok s0 s1 s2 k v) (h:u.al v=true):W.ok s0 s1 s2 (R * k) (W.pr k u v):=by
 cases al_of h
 ·exact ⟨ir hu.1 hv.1,hu.2.1,ir hu.2.2 hv.2.2⟩
 ·exact ⟨ir hu.1 hv.1,hu.2.1,ir hu.2.2.1 hv.2.2.1,ir hu.2.2.2 hv.2.2.2⟩
 ·exact ⟨ir hu.1 hv.1,ir hu.2.1 hv.2.1,hu.2.2.1,ir hu.2.2.2 hv.2.2.2⟩
def dv (h:In k i):(a * k+i) / k=a:=by rw [Int.add_comm,Int.add_mul_ediv_right _ _ (Int.ne_of_gt (Int.lt_of_le_of_lt h.1 h.2)),Int.ediv_eq_zero_of_lt h.1 h.2,Int.zero_add]
def md (h:In k i):(a * k+i) % k=i:=by rw [Int.add_comm,Int.add_mul_emod_self_right,Int.emod_eq_of_lt h.1 h.2]
noncomputable def W.un (k:Int):W->W×W
 | .on a c b=>(.on (a / k) c (b / k),.on (a % k) c (b % k))
 | .op a c b t=>(.op (a / k) c (b / k) (t / k),.op (a % k) c (b % k) (t % k))
 | .cl a b c t=>(.cl (a / k) (b / k) c (t / k),.cl (a % k) (b % k) c (t % k))
def za (hv:W.ok s0 s1 s2 k v) (h:u.al v=true):(W.pr k u v).un k=(u,v):=by
 cases al_of h
 ·refine (?_:(W.on ((a * k+Fq) / k) c ((b * k+Fp) / k),W.on ((a * k+Fq) % k) c ((b * k+Fp) % k))=_);rw [dv hv.1,md hv.1,dv hv.2.2,md hv.2.2]
 ·refine (?_:(W.op ((a * k+Fq) / k) c ((b * k+Fp) / k) ((t * k+F6) / k),W.op ((a * k+Fq) % k) c ((b * k+Fp) % k) ((t * k+F6) % k))=_);rw [dv hv.1,md hv.1,dv hv.2.2.1,md hv.2.2.1,dv hv.2.2.2,md hv.2.2.2]
 ·refine (?_:(W.cl ((a * k+Fq) / k) ((b * k+Fp) / k) c ((t * k+F6) / k),W.cl ((a * k+Fq) % k) ((b * k+Fp) % k) c ((t * k+F6) % k))=_);rw [dv hv.1,md hv.1,dv hv.2.1,md hv.2.1,dv hv.2.2.2,md hv.2.2.2]
def ww (hv:W.ok s0 s1 s2 k v) (Jt:W.ok s0 s1 s2 k v') (h:u.al v=true) (h':u'.al v'=true) (e:W.pr k u v=W.pr k u' v'):u=u'/\v=v':=Prod.mk.inj ((za hv h).symm.trans ((congrArg (W.un k) e).trans (za Jt h')))
def gL {ws us:List W} (hw:∀ w∈ws,W.ok s0 s1 s2 R w) (hu:∀ w∈us,W.ok s0 s1 s2 k w):∀ w∈bx k ws us,W.ok s0 s1 s2 (R * k) w:=fun w m=>by
 obtain ⟨u,mu,v,mv,h,rfl⟩:=prod_mem.mp m;exact Cd (hw u mu) (hu v mv) h
def i9 {ws us:List W} (nw:ws.Nodup) (nu:us.Nodup) (hu:∀ w∈us,W.ok s0 s1 s2 k w):(bx k ws us).Nodup:=by
 refine pairwise_flatMap.mpr ⟨fun w U=>pairwise_flatMap.mpr ⟨fun u U=>?_,Pairwise.imp_of_mem (fun {u v} mu mv h x mx y my e=>?_) nu⟩,nw.imp fun {w w'} h x mx y my e=>?_⟩
 ·unfold W.pl;split
  ·exact pairwise_singleton _ _
  ·exact .nil
 ·obtain ⟨h1,rfl⟩:=kD.mp mx;obtain ⟨h2,rfl⟩:=kD.mp my;exact h (ww (hu u mu) (hu v mv) h1 h2 e).2
 ·obtain ⟨u,mu,mx⟩:=mem_flatMap.mp mx;obtain ⟨v,mv,my⟩:=mem_flatMap.mp my;obtain ⟨h1,rfl⟩:=kD.mp mx;obtain ⟨h2,rfl⟩:=kD.mp my;exact h (ww (hu u mu) (hu v mv) h1 h2 e).1
def tH {ws us Ek us':List W} (hw:∀ w,w∈ws ↔ w∈Ek) (hu:∀ w,w∈us ↔ w∈us') (w:W):w∈bx k ws us ↔ w∈bx k Ek us':=by
 rw [prod_mem,prod_mem];exact exists_congr fun u=>and_congr (hw u) (exists_congr fun v=>and_congr_left fun U=>hu v)
def pairs_mem:x∈aM k a b ↔ ∃ i∈a,∃ j∈b,i * k+j=x:=by
 unfold aM;rw [mem_flatMap];exact exists_congr fun i=>and_congr_right fun U=>mem_map
def ve (ha:∀ i∈a,In R i) (hb:∀ i∈b,In k i):∀ i∈aM k a b,In (R * k) i:=fun i m=>by
 obtain ⟨x,mx,y,my,rfl⟩:=pairs_mem.mp m;exact ir (ha x mx) (hb y my)
def d8 {a b:List Int} (na:a.Nodup) (nb:b.Nodup) (hb:∀ i∈b,In k i):(aM k a b).Nodup:=by
 refine pairwise_flatMap.mpr ⟨fun i U=>nb.map _ fun x y h e=>h ((Int.add_right_inj (i * k)).mp e),na.imp fun {i j} h x mx y my e=>?_⟩;obtain ⟨u,mu,rfl⟩:=zA7 mx;obtain ⟨v,mv,rfl⟩:=zA7 my;exact h (dec (hb u mu) (hb v mv) e).1
def je {a b a' b':List Int} (na:a.Nodup) (nb:b.Nodup) (hb:∀ i∈b,In k i) (pa:a'.Perm a) (pb:b'.Perm b):(aM k a' b').Perm (aM k a b):=by
 refine (perm_ext_iff_of_nodup (d8 (pa.nodup_iff.mpr na) (pb.nodup_iff.mpr nb) fun i m=>hb i (pb.mem_iff.mp m)) (d8 na nb hb)).mpr fun x=>?_;rw [pairs_mem,pairs_mem];exact exists_congr fun i=>and_congr pa.mem_iff (exists_congr fun j=>and_congr_left fun U=>pb.mem_iff)
inductive AccI {α β:Type} (xs:List α) (g:α->V) (J:Gs->List β->Prop) (f:α->List β) (tot:List β) (l:List V) (G:Gs):Prop
 | mk (ys:List α) (us:List β) (e:l=ys.map g) (my:∀ y∈ys,y∈xs) (j:J G us) (h:us++ys.flatMap f=tot):AccI xs g J f tot l G
def iR {α β:Type} {K:Option V->Gs->Prop} {xs:List α} {g:α->V} {J:Gs->List β->Prop} {f:α->List β} {l:List β} (hs:Val cf G s v) (hq:bK v=some (xs.map g)) (h0:J G l) (hz:(l++xs.flatMap f).length<=5000)
  (turn:∀ x∈xs,∀ G l Kt,J G l->(l++f x).length<=5000->(∀ G',J G' (l++f x)->Kt none G')->exs sup cf body (G.set k (.v (g x))) Kt) (n:∀ G,J G (l++xs.flatMap f)->exs sup cf r G K):exs sup cf (.mk (.forS k) [s] body [] :: r) G K:=by
 refine im (P:=AccI xs g J f (l++xs.flatMap f)) hs hq ⟨xs,l,rfl,fun U m=>m,h0,rfl⟩ (fun G hP=>?_) fun x m G Kt hP nx rt=>?_
 ·obtain ⟨ys,us,e,_,j,h⟩:=hP;obtain rfl:=map_eq_nil_iff.mp e.symm;rw [List.flatMap_nil,append_nil] at h;exact n G (h▸j)
 ·obtain ⟨ys,us,e,my,j,h⟩:=hP;cases ys with
  | nil=>(injection e; done)
  | cons y ys=>
   obtain ⟨rfl,rfl⟩:=zA5 e;rw [List.flatMap_cons,<- append_assoc] at h;refine turn y (my y (.head _)) G us Kt j ?_ fun G' j'=>nx G' ⟨ys,us++f y,rfl,fun z q=>my z (.tail _ q),j',h⟩;rw [<- h,zB5] at hz;exact zB1 (Q3 _ _) hz
noncomputable def W.sn:W->Nat
 | .on _ c _=>c
 | .op _ c _ _=>c
 | .cl _ _ c _=>c
def S33 (cf:ai):Prop:=∀ (w:W) K,K (text [w.sn])->cf 33 [w.v] K
def p33 (cf:ai):S33 (step cf):=fun w K h=>by
 cases w with
 | on a c b=>exact run (fn:=f33) rfl rfl rfl (aC (aY (s:=kOn) ix ok_on ok_close rfl) (aB (v:=text [c]) ix h))
 | op a c b t=>exact run (fn:=f33) rfl rfl rfl (aC (aY (s:=aZ) ix ok_open ok_close rfl) (aB (v:=text [c]) ix h))
 | cl a b c t=>exact run (fn:=f33) rfl rfl rfl (bQ (aY (s:=aP) ix ok_close ok_close rfl) (aB (v:=text [c]) ix h))
noncomputable def g34 (x y:V) (k:Int) (l:List V) (z4 z5:Slot):Gs:=[.v x,.v y,.v (.int k),.ownL l,z4,z5]
def nt {K:Option V->Gs->Prop} (hl:l.length<=10) (h:∀ z4 z5,eF (aO [4,5]) (exs sup cf gy) xs (g34 x y k (l++[.str s]) z4 z5) K):eF (aO [4,5]) (exs sup cf gy) (.tuple [.str s,u] :: xs) (g34 x y k l z4 z5) K:=by
 refine (?_:exs sup cf gy (g34 x y k l (.v (.str s)) (.v u)) fun fl G=>match fl with | none=>eF (aO [4,5]) (exs sup cf gy) xs G K | some y=>noX y=true/\K (some y) G);exact cy (t:=false) ix (fun q=>nB q) fun U=>bW (l:=l) rfl (v:=.str s) ix (Q1 hl (by decide)) (aE (h _ _))
def iU {K:Option V->Gs->Prop} (hk:k.natAbs<=1000000) (hl:l.length<=10) (h:∀ z4 z5,eF (aO [4,5]) (exs sup cf gy) xs (g34 x y k (l++[.int (i * k+j)]) z4 z5) K):eF (aO [4,5]) (exs sup cf gy) (.tuple [.int i,.int j] :: xs) (g34 x y k l z4 z5) K:=by
 refine (?_:exs sup cf gy (g34 x y k l (.v (.int i)) (.v (.int j))) fun fl G=>match fl with | none=>eF (aO [4,5]) (exs sup cf gy) xs G K | some y=>noX y=true/\K (some y) G);exact bQ ix (bW (l:=l) rfl (v:=.int (i * k+j)) (aa (.two (aa (.two ix ix) (cT (.inl hk))) ix) rfl) (Q1 hl (by decide)) (aE (h _ _)))
def S34 (cf:ai):Prop:=∀ (w u:W) (k:Int) K,k.natAbs<=1000000->w.al u=true->K (W.pr k w u).v->cf 34 [w.v,u.v,.int k] K
def p34 (cf:ai):S34 (step cf):=fun w u k K hk h n=>by
 refine run (fn:=f34) rfl rfl rfl (fP ?_);have Mc:∀ (x y:V) (l:List V) (z4 z5:Slot),K (.tuple l)->l.length<=5000->exs sup cf [.mk (.freeze 3) [] [] [],.mk .ret [.nd .tupleOf [vv 3]] [] []] (g34 x y k l z4 z5) fun fl U=>K (fl.getD .none):=fun x y l z4 z5 h hz=>cN rfl (aB (aa (.one ix) (if_pos (cx hz))) h);have fin:∀ {x y:V} {l:List V} {z4 z5:Slot},K (.tuple l)->l.length<=5000->eF (aO [4,5]) (exs sup cf gy) [] (g34 x y k l z4 z5) (fun fl G'=>match fl with | none=>exs sup cf [.mk (.freeze 3) [] [] [],.mk .ret [.nd .tupleOf [vv 3]] [] []] G' (fun fl U=>K (fl.getD .none)) | some x=>(fun fl U=>K (fl.getD .none)) (some x) G'):=fun {x y l z4 z5} h hz=>Mc x y l z4 z5 h hz;cases al_of h
 ·refine ng ix rfl ?_;exact nt (l:=[]) (by decide) fun U U=>iU hk (by decide:1<=10) fun U U=>nt (by decide:2<=10) fun U U=>iU hk (by decide:3<=10) fun U U=>fin n (by decide:4<=5000)
 ·refine ng ix rfl ?_;exact nt (l:=[]) (by decide) fun U U=>iU hk (by decide:1<=10) fun U U=>nt (by decide:2<=10) fun U U=>iU hk (by decide:3<=10) fun U U=>iU hk (by decide:4<=10) fun U U=>fin n (by decide:5<=5000)
 ·refine ng ix rfl ?_;exact nt (l:=[]) (by decide) fun U U=>iU hk (by decide:1<=10) fun U U=>iU hk (by decide:2<=10) fun U U=>nt (by decide:3<=10) fun U U=>iU hk (by decide:4<=10) fun U U=>fin n (by decide:5<=5000)
def oF {b:List Int} (h:Val cf G s (ag b)) (hz:b.length<=40) (hv:∀ j∈b,Val cf (G.set k (.v (.int j))) e (.int (i * m+j))):Val cf G (.nd (.comp k) [s,e]) (.list ((b.map fun j=>i * m+j).map .int)):=by
 have q:=b9 (k:=k) (f:=fun j=>.int (i * m+j)) h (aT (by rw [zA4]; exact zB1 hz (by decide))) hv;rw [map_map];exact q
inductive J35 (a b:List Int) (k:Int) (G:Gs) (l:List Int):Prop
 | mk (z4 z5 z6:Slot) (e:G=[.v (ag a),.v (ag b),.v (.int k),.ownL (l.map .int),z4,z5,z6]):J35 a b k G l
def S35 (cf:ai):Prop:=∀ (a b:List Int) (k:Int) K,k.natAbs<=1000000->a.length<=40->b.length<=40->(aM k a b).length<=5000->K (ag (aM k a b))->cf 35 [ag a,ag b,.int k] K
def p35 (cf:ai):S35 (step cf):=fun a b k K hk ha hb hz h=>by
 refine run (fn:=f35) rfl rfl rfl (fP ?_);refine iR (xs:=a) (g:=.int) (f:=fun i=>b.map fun j=>i * k+j) (l:=[]) (J:=J35 a b k) (v:=ag a) ix (aT (by rw [zA4]; exact zB1 ha (by decide))) ⟨_,_,_,rfl⟩ (by rw [nil_append]; exact hz) (fun i U G l Kt j hz nx=>?_) fun G j=>?_
 ·obtain ⟨z4,z5,z6,rfl⟩:=j;refine uG (l:=l.map .int) (m:=(b.map fun j=>i * k+j).map .int) rfl (oF (b:=b) ix hb fun j U=>aa (.two (aa (.two ix ix) (cT (.inl hk))) ix) rfl) (by rw [zA4,zA4,<- zB5]; exact cx hz) (aE (nx _ ⟨_,_,_,by rw [map_append]; rfl⟩))
 ·obtain ⟨z4,z5,z6,rfl⟩:=j;rw [nil_append];exact cN (l:=(aM k a b).map .int) rfl (aB (v:=ag (aM k a b)) ix h)
inductive J41 (a b:List Int) (k:Int) (G:Gs) (l:List Int):Prop
 | mk (z4 z5 z6:Slot) (e:G=[.v (ag a),.v (ag b),.v (.int k),.v (ag l),z4,z5,z6]):J41 a b k G l
def S41 (cf:ai):Prop:=∀ (a b:List Int) (k:Int) s K,k.natAbs<=1000000->a.length<=40->b.length<=40->(aM k a b).length<=40->s.Perm (aM k a b)->s.Pairwise (·<=·)->K (ag s)->cf 41 [ag a,ag b,.int k] K
def p41 (cf:ai):S41 (step cf):=fun a b k s K hk ha hb hz hp ho h=>by
 refine run (fn:=f41) rfl rfl rfl (af (v:=ag []) ix ?_);refine iR (xs:=a) (g:=.int) (f:=fun i=>b.map fun j=>i * k+j) (l:=[]) (J:=J41 a b k) (v:=ag a) ix (aT (by rw [zA4]; exact zB1 ha (by decide))) ⟨_,_,_,rfl⟩ (by rw [nil_append]; exact zB1 hz (by decide)) (fun i U G l Kt j hz nx=>?_) fun G j=>?_
 ·obtain ⟨z4,z5,z6,rfl⟩:=j;refine af (v:=ag (l++b.map fun j=>i * k+j)) (aa (.two (x:=ag l) ix (oF (b:=b) ix hb fun j U=>aa (.two (aa (.two ix ix) (cT (.inl hk))) ix) rfl)) ?_) (aE (nx _ ⟨_,_,_,rfl⟩));unfold ag;rw [map_append];exact nK (by rw [<- map_append,zA4]; exact hz)
 ·obtain ⟨z4,z5,z6,rfl⟩:=j;rw [nil_append];exact aB (v:=ag s) (pY (is:=aM k a b) ix hz hp ho) h
section
variable {cf:ai} {s0 s1 s2:List Nat}
def wh {w u:W} {ea eb:E} {G:Gs} (sk:SgOk s0 s1 s2) (hw:W.ok s0 s1 s2 R w) (hu:W.ok s0 s1 s2 R' u) (ha:Val cf G ea (w.l.headD .none)) (hb:Val cf G eb (u.l.headD .none)) (hc:w.al u=true\/w.l.headD .none=u.l.headD .none->Val cf G c (text [w.sn])) (hd:w.al u=true\/w.l.headD .none=u.l.headD .none->Val cf G d (text [u.sn])):Val cf G (.nd .and [(eqE ea eb),eqE c d]) (.bool (w.al u)):=by
 have no:∀ {s t:Str},strOk s=true->strOk t=true->(s==t)=false->Val cf G ea (.str s)->Val cf G eb (.str t)->Val cf G (.nd .and [(eqE ea eb),eqE c d]) (.bool false):=fun hs ht e ha hb=>aA (.stop (b:=true) (ae ha hb ((bS hs ht).trans (congrArg some e))));have yes:∀ {s:Str} {x y:Nat},strOk s=true->Val cf G ea (.str s)->Val cf G eb (.str s)->Val cf G c (text [x])->Val cf G d (text [y])->low x=true->low y=true->Val cf G (.nd .and [(eqE ea eb),eqE c d]) (.bool (x==y)):=fun {s x y} hs ha hb hc hd lx ly=>by
  have z:=bk.one (ae hc hd (uB lx ly));rw [show ((⟨[x].toArray⟩:Str)==⟨[y].toArray⟩)=(x==y) by
   rw [Bool.eq_iff_iff,beq_iff_eq,beq_iff_eq];exact ⟨fun e=>(zA5 (congrArg (fun s:Str=>s.cps.toList) e)).1,fun e=>by rw [e]⟩] at z
  exact aA (.go (b:=true) (ae ha hb ((bS hs hs).trans (congrArg some (beq_self_eq_true s)))) z)
 cases w with
 | on a x b=>cases u with
  | on a' y b'=>exact yes ok_on ha hb (hc (.inr rfl)) (hd (.inr rfl)) (sk.lowC hw.2.1) (sk.lowC hu.2.1)
  | op=>exact no ok_on ok_open rfl ha hb
  | cl=>exact no ok_on ok_close rfl ha hb
 | op a x b t=>cases u with
  | on=>exact no ok_open ok_on rfl ha hb
  | op a' y b' t'=>exact yes ok_open ha hb (hc (.inr rfl)) (hd (.inr rfl)) (sk.lowA hw.2.1) (sk.lowA hu.2.1)
  | cl=>exact no ok_open ok_close rfl ha hb
 | cl a b x t=>cases u with
  | on=>exact no ok_close ok_on rfl ha hb
  | op=>exact no ok_close ok_open rfl ha hb
  | cl a' b' y t'=>exact yes ok_close ha hb (hc (.inr rfl)) (hd (.inr rfl)) (sk.lowB hw.2.2.1) (sk.lowB hu.2.2.1)
end
def nO (w:W) (h:Val cf G e w.v):Val cf G (sbE e (ii 0)) (w.l.headD .none):=by
 cases w <;> exact aa (.two h ix) rfl
noncomputable def g36 (m m':V) (k:Int) (l:List W) (z4 z5 z6 z7:Slot):Gs:=[.v m,.v m',.v (.int k),.ownL (l.map W.v),z4,z5,z6,z7]
inductive J36 (m m':V) (k:Int) (G:Gs) (l:List W):Prop
 | mk (z4 z5:Slot) (e:G=g36 m m' k l z4 z5 .unset .unset):J36 m m' k G l
inductive J36b (m m':V) (k:Int) (z4:Slot) (G:Gs) (l:List W):Prop
 | mk (z5:Slot) (e:G=g36 m m' k l z4 z5 .unset .unset):J36b m m' k z4 G l
def Dn (hz:(l++W.pl k w u).length<=5000) (h:w.al u=true):l.length < am/\l++W.pl k w u=l++[W.pr k w u]:=by
 refine ⟨?_,by unfold W.pl; rw [if_pos h]⟩;rw [zB5] at hz;exact Q1 (zB1 (Q3 _ _) hz) (by decide)
structure Two (s0 s1 s2:List Nat) (R k:Int) (st st' en en':List Int) (us us':List W):Prop where
 sk:SgOk s0 s1 s2
 l1:st.length<=40
 l2:st'.length<=40
 l3:en.length<=40
 l4:en'.length<=40
 l5:us.length<=4000
 l6:us'.length<=4000
 o1:∀ w∈us,W.ok s0 s1 s2 R w
 o2:∀ w∈us',W.ok s0 s1 s2 k w
 hk:0<=k/\k<=40
 hz:(bx k us us').length<=5000
theorem Two.k6 (T:Two s0 s1 s2 R k st st' en en' us us'):k.natAbs<=1000000:=ofNat_le.mp (by rw [natAbs_of_nonneg T.hk.1]; exact le_trans T.hk.2 (by decide))
def lq {a b:List Int} (ha:a.length<=40) (hb:b.length<=40):(aM k a b).length<=5000:=by
 unfold aM;rw [length_flatMap,show (fun i=>(b.map fun j=>i * k+j).length)=fun U=>b.length from funext fun i=>length_map _,map_const',sum_replicate_nat];exact zB1 (Nat.mul_le_mul ha hb) (by decide)
def S36 (cf:ai):Prop:=∀ s0 s1 s2 R k st st' en en' us us' K,Two s0 s1 s2 R k st st' en en' us us'->MM s0 s1 s2 (R * k) (aM k st st') (aM k en en') (bx k us us') (K (fK 4)) K->cf 36 [aK (sg s0 s1 s2) R st en (us.map W.v),aK (sg s0 s1 s2) k st' en' (us'.map W.v)] K
def p36 (cf:ai) (me:MethOk cf) (h31:S31 cf) (h32:S32 cf) (h33:S33 cf) (h34:S34 cf) (h35:S35 cf):S36 (step cf):=fun s0 s1 s2 R k st st' en en' us us' K T h=>by
 have lw:∀ {l:List W},l.length<=4000->(l.map W.v).length<=4000:=fun h=>by rw [zA4]; exact h
 have k6:=T.k6;refine run (fn:=f36) rfl rfl rfl (l8 (.two ix ix) (h31 _ _ _ _ _ _ _ _ _ _ _ _ T.sk ⟨rfl,?_⟩));refine af (qZ me ix) ?_;have vm:∀ {G:Gs},Val cf G (vv 0) (aK (sg s0 s1 s2) R st en (us.map W.v))->Val cf G (vv 2) (.int k)->Val cf G (mlE (.nd (.meth 16) [vv 0]) (vv 2)) (.int (R * k)):=fun h h'=>aa (.two (qZ me h) h') (cT (.inl k6));refine cy (t:=decide (40 < R * k)) (ae (vm ix ix) ix rfl) (fun q=>?_) fun q=>fP ?_
 ·cases h with
  | rooms h k=>exact iQ k
  | ways ok nd h h' k=>exact iQ k
  | made g nd k=>exact absurd (of_decide_eq_true q) (Int.not_lt.mpr g.r2)
 have sq:∀ {l:List W},l.length<=4000->bK (.list (l.map W.v))=some (l.map W.v):=fun h=>aT (zB1 (lw h) (by decide));refine iR (xs:=us) (g:=W.v) (f:=fun w=>us'.flatMap (W.pl k w)) (l:=[]) (J:=J36 (aK (sg s0 s1 s2) R st en (us.map W.v)) (aK (sg s0 s1 s2) k st' en' (us'.map W.v)) k) (qX me ix (lw T.l5)) (sq T.l5) ⟨_,_,rfl⟩ (by rw [nil_append]; exact T.hz) (fun w mw G l Kt j hz nx=>?_) fun G j=>?_
 ·obtain ⟨z4,z5,rfl⟩:=j;refine iR (xs:=us') (g:=W.v) (f:=W.pl k w) (l:=l) (J:=J36b (aK (sg s0 s1 s2) R st en (us.map W.v)) (aK (sg s0 s1 s2) k st' en' (us'.map W.v)) k (.v w.v)) (qX me ix (lw T.l6)) (sq T.l6) ⟨_,rfl⟩ hz (fun u mu G l Kt j hz nx=>?_) fun G j=>aE (nx G ?_)
  ·obtain ⟨z5,rfl⟩:=j;refine cy (wh T.sk (T.o1 w mw) (T.o2 u mu) (nO w ix) (nO u ix) (fun U=>au (vs:=[w.v]) (.one ix) (h33 w)) fun U=>au (vs:=[u.v]) (.one ix) (h33 u)) (fun q=>?_) fun q=>aE (nx _ ⟨.v u.v,?_⟩)
   ·obtain ⟨z1,z2⟩:=Dn hz q;refine bW (l:=l.map W.v) rfl (v:=(W.pr k w u).v) (au (vs:=[w.v,u.v,.int k]) (.cons ix (.two ix ix)) fun K h=>h34 w u k K k6 q h) (by rw [zA4]; exact z1) (aE (nx _ ⟨.v u.v,?_⟩));rw [z2];unfold g36;rw [map_append]; rfl
   ·unfold W.pl;rw [q,if_neg Bool.false_ne_true,append_nil]; rfl
  ·obtain ⟨z5,rfl⟩:=j;exact ⟨_,_,rfl⟩
 ·obtain ⟨z4,z5,rfl⟩:=j;rw [nil_append];refine af (v:=ag (aM k st st')) (au (.cons (qY me ix T.l1) (.two (qY me ix T.l2) ix)) fun K h=>h35 st st' k K k6 T.l1 T.l2 (lq T.l1 T.l2) h) ?_;refine af (v:=ag (aM k en en')) (au (.cons (q6 me ix T.l3) (.two (q6 me ix T.l4) ix)) fun K h=>h35 en en' k K k6 T.l3 T.l4 (lq T.l3 T.l4) h) ?_;exact cN (l:=(bx k us us').map W.v) rfl (Ah (.cons (nj me ix) (.cons (vm ix ix) (.cons ix (.two ix ix)))) (h32 s0 s1 s2 _ _ _ _ _ T.sk h))
noncomputable def wv:V:=.tuple [.str zC,.bool true]
def S38 (cf:ai):Prop:=∀ s0 s1 s2 R k st st' en en' us us' K,Two s0 s1 s2 R k st st' en en' us us'->MM s0 s1 s2 (R * k) (aM k st st') (aM k en en') (bx k us us') (K wv) K->cf 38 [aK (sg s0 s1 s2) R st en (us.map W.v),aK (sg s0 s1 s2) k st' en' (us'.map W.v)] K
def p38 (cf:ai) (h22:S22 cf) (h36:S36 cf):S38 (step cf):=fun s0 s1 s2 R k st st' en en' us us' K T h=>by
 refine run (fn:=f38) rfl rfl rfl (Ag (.two ix ix) (h36 s0 s1 s2 R k st st' en en' us us' _ T ?_));have no:K wv->exs sup cf [.mk .ret [.nd .tuple [ss zC,.nd (.call 22) [vv 2,ii 3]]] [] []] [.v (aK (sg s0 s1 s2) R st en (us.map W.v)),.v (aK (sg s0 s1 s2) k st' en' (us'.map W.v)),.v (fK 4)] fun fl G'=>match fl with | some z=>noX z=true/\K z | none=>False:=fun k=>
  aB (v:=wv) (aa (.two ix (au (vs:=[fK 4,.int 3]) (.two ix ix) fun K h=>h22 K h)) rfl) ⟨rfl,k⟩
 cases h with
 | rooms h k=>exact .rooms h ⟨rfl,no k⟩
 | ways ok nd h h' k=>exact .ways ok nd h h' ⟨rfl,no k⟩
 | made g nd k=>exact .made g nd fun st' en' r hd=>k st' en' r hd
noncomputable def ofV (s0 s1 s2:List Nat) (R:Int) (st en:List Int) (r:List V):V:=p5V (sg s0 s1 s2) (.int R) (ag st) (ag en) (.list r)
def S37 (cf:ai):Prop:=∀ s0 s1 s2 R st en r (K:V->Prop),st.length<=40->en.length<=40->r.length<=4000->K (ofV s0 s1 s2 R st en r)->cf 37 [aK (sg s0 s1 s2) R st en r] K
def p37 (cf:ai) (me:MethOk cf):S37 (step cf):=fun s0 s1 s2 R st en r K l1 l2 l3 h=>run (fn:=f37) rfl rfl rfl (aB (v:=ofV s0 s1 s2 R st en r) (aa (.cons (nj me ix) (.cons (qZ me ix) (.cons (qY me ix l1) (.two (q6 me ix l2) (qX me ix l3))))) rfl) h)
noncomputable def cC (s0 s1 s2:List Nat) (R R':Int) (st st' en en':List Int) (ws Ek:List W):V:=.list [ba (sg s0 s1 s2) R st en ws,ba (sg s0 s1 s2) R' st' en' Ek]
noncomputable def W.si:W->Int
 | .cl _ _ _ _=>3
 | _=>2
noncomputable def g39 (x:V) (k:Int) (l:List V) (w u:W) (i:Int) (z6:Slot):Gs:=[.v x,.v (.int k),.ownL l,.v w.v,.v u.v,.v (.int i),z6,.unset,.unset]
section
variable {cf:ai} {x:V} {k:Int} {l:List V} {z6:Slot}
def mm {e s:E} (ps:List (Int×V)) (h:Val cf G s (.list (ps.map fun p=>.int p.1))) (hz:ps.length<=5000) (he:∀ p∈ps,Val cf (G.set 7 (.v (.int p.1))) e p.2):Val cf G (.nd (.comp 7) [s,e]) (.list (ps.map Prod.snd)):=b9 (g:=fun p:Int×V=>.int p.1) (f:=Prod.snd) h (aT (by rw [zA4]; exact hz)) he
def eZ {w u:W} {i j:Int} (hk:k.natAbs<=1000000) (EE:(i==j)=false) (h1:∀ K:V->Prop,K (.int a)->okK (opN .sub [w.v,.int i]) K) (h2:∀ K:V->Prop,K (.int b)->okK (opN .sub [u.v,.int i]) K):Val cf ((g39 x k l w u j z6).set 7 (.v (.int i))) xj (.int (a * k+b)):=
 gI (t:=true) (ae (x:=.int i) (y:=.int j) ix ix (tg.trans (by rw [EE]; rfl))) (fun U=>aa (.two (aa (.two (x:=.int a) (fun K h=>h1 K h) ix) (cT (.inl hk))) (y:=.int b) (fun K h=>h2 K h)) rfl) fun q=>nB q.symm
def q7 {w u:W} {i:Int} (h1:∀ K:V->Prop,K v->okK (opN .sub [w.v,.int i]) K):Val cf ((g39 x k l w u i z6).set 7 (.v (.int i))) xj v:=
 gI (t:=false) (ae (x:=.int i) (y:=.int i) ix ix (tg.trans (by rw [beq_self_eq_true]; rfl))) (fun q=>nB q) fun U K h=>h1 K h
def Cc {w u:W} {K:Option V->Gs->Prop} (hk:k.natAbs<=1000000) (hl:l.length < am) (h:w.al u=true) (n:∀ z6,K none (g39 x k (l++[(W.pr k w u).v]) w u w.si z6)):exs sup cf zS (g39 x k l w u w.si z6) K:=by
 cases al_of h
 ·refine af (v:=.list (W.pr k (.on a c b) (.on Fq c Fp)).l) (aa (.two (x:=.list [.str kOn]) ix (mm [(1,.int (a * k+Fq)),(2,text [c]),(3,.int (b * k+Fp))] ix (by decide:3<=5000) (zA1 ⟨eZ hk rfl ix ix,zA1 ⟨q7 ix,forall_mem_singleton.mpr (eZ hk rfl ix ix)⟩⟩))) rfl) ?_;exact bW (l:=l) rfl (v:=(W.pr k (.on a c b) (.on Fq c Fp)).v) (aa (.one ix) rfl) hl (aE (n _))
 ·refine af (v:=.list (W.pr k (.op a c b t) (.op Fq c Fp F6)).l) (aa (.two (x:=.list [.str aZ]) ix (mm [(1,.int (a * k+Fq)),(2,text [c]),(3,.int (b * k+Fp)),(4,.int (t * k+F6))] ix (by decide:4<=5000) (zA1 ⟨eZ hk rfl ix ix,zA1 ⟨q7 ix,zA1 ⟨eZ hk rfl ix ix,forall_mem_singleton.mpr (eZ hk rfl ix ix)⟩⟩⟩))) rfl) ?_;exact bW (l:=l) rfl (v:=(W.pr k (.op a c b t) (.op Fq c Fp F6)).v) (aa (.one ix) rfl) hl (aE (n _))
 ·refine af (v:=.list (W.pr k (.cl a b c t) (.cl Fq Fp c F6)).l) (aa (.two (x:=.list [.str aP]) ix (mm [(1,.int (a * k+Fq)),(2,.int (b * k+Fp)),(3,text [c]),(4,.int (t * k+F6))] ix (by decide:4<=5000) (zA1 ⟨eZ hk rfl ix ix,zA1 ⟨eZ hk rfl ix ix,zA1 ⟨q7 ix,forall_mem_singleton.mpr (eZ hk rfl ix ix)⟩⟩⟩))) rfl) ?_;exact bW (l:=l) rfl (v:=(W.pr k (.cl a b c t) (.cl Fq Fp c F6)).v) (aa (.one ix) rfl) hl (aE (n _))
end
noncomputable def h39 (x:V) (k:Int) (l:List W) (z3 z4 z5 z6:Slot):Gs:=[.v x,.v (.int k),.ownL (l.map W.v),z3,z4,z5,z6,.unset,.unset]
inductive J39 (x:V) (k:Int) (G:Gs) (l:List W):Prop
 | mk (z3 z4 z5 z6:Slot) (e:G=h39 x k l z3 z4 z5 z6):J39 x k G l
inductive J39b (x:V) (k:Int) (z3:Slot) (G:Gs) (l:List W):Prop
 | mk (z4 z5 z6:Slot) (e:G=h39 x k l z3 z4 z5 z6):J39b x k z3 G l
def zi (w:W) (ha:Val cf G a w.v) (hb:Val cf G b (.int w.si)):Val cf G (sbE a b) (text [w.sn]):=by
 cases w <;> exact aa (.two ha hb) rfl
def Ca {w u:W} (h:w.al u=true\/w.l.headD .none=u.l.headD .none):w.si=u.si:=by
 have Jd:kOn≠aP:=by decide
 have Jc:aZ≠aP:=by decide
 cases w <;> cases u <;> (first | rfl | (rcases h with h | h; exact nB h; exact absurd (PyData.str.inj h) (by first | exact Jd | exact Jc | exact Jd.symm | exact Jc.symm)))
def S39 (cf:ai):Prop:=∀ s0 s1 s2 R k st st' en en' ws Ek K,SgOk s0 s1 s2->(∀ w∈ws,W.ok s0 s1 s2 R w)->(∀ w∈Ek,W.ok s0 s1 s2 k w)->k.natAbs<=1000000->ws.length<=100->Ek.length<=100->(bx k ws Ek).length<=4000->(∀ vs:List W,vs.Nodup->(∀ w,w∈vs ↔ w∈bx k ws Ek)->gD (vs.map W.v)->K (aN vs))->cf 39 [cC s0 s1 s2 R k st st' en en' ws Ek,.int k] K
def p39 (cf:ai):S39 (step cf):=fun s0 s1 s2 R k st st' en en' ws Ek K sk o1 o2 k6 l1 l2 hz h=>by
 refine run (fn:=f39) rfl rfl rfl (fP ?_);have sq:∀ {l:List W},l.length<=100->bK (aN l)=some (l.map W.v):=fun h=>aT (by rw [zA4]; exact zB1 h (by decide));refine iR (xs:=ws) (g:=W.v) (f:=fun w=>Ek.flatMap (W.pl k w)) (l:=[]) (J:=J39 (cC s0 s1 s2 R k st st' en en' ws Ek) k) (v:=aN ws) ix (sq l1) ⟨_,_,_,_,rfl⟩ (by rw [nil_append]; exact zB1 hz (by decide)) (fun w mw G l Kt j hz nx=>?_) fun G j=>?_
 ·obtain ⟨z3,z4,z5,z6,rfl⟩:=j;refine iR (xs:=Ek) (g:=W.v) (f:=W.pl k w) (l:=l) (J:=J39b (cC s0 s1 s2 R k st st' en en' ws Ek) k (.v w.v)) (v:=aN Ek) ix (sq l2) ⟨_,_,_,rfl⟩ hz (fun u mu G l Kt j hz nx=>?_) fun G j=>aE (nx G ?_)
  ·obtain ⟨z4,z5,z6,rfl⟩:=j;refine af (v:=.int w.si) ?_ ?_
   ·cases w with
    | cl a b c t=>exact gI (t:=true) (aY (s:=aP) ix ok_close ok_close rfl) (fun U=>ix) fun q=>nB q.symm
    | on a c b=>exact gI (t:=false) (aY (s:=kOn) ix ok_on ok_close rfl) (fun q=>nB q) fun U=>ix
    | op a c b t=>exact gI (t:=false) (aY (s:=aZ) ix ok_open ok_close rfl) (fun q=>nB q) fun U=>ix
   refine cy (wh sk (o1 w mw) (o2 u mu) (nO w ix) (nO u ix) (fun U=>zi w ix ix) fun q=>zi u ix (Ca q▸ix)) (fun q=>?_) fun q=>aE (nx _ ⟨.v u.v,.v (.int w.si),z6,?_⟩)
   ·obtain ⟨e1,e2⟩:=Dn hz q;refine Cc (x:=cC s0 s1 s2 R k st st' en en' ws Ek) (l:=l.map W.v) k6 (by rw [zA4]; exact e1) q fun z6=>nx _ ⟨.v u.v,.v (.int w.si),z6,?_⟩;rw [e2];unfold h39;rw [map_append]; rfl
   ·unfold W.pl;rw [q,if_neg Bool.false_ne_true,append_nil]; rfl
  ·obtain ⟨z4,z5,z6,rfl⟩:=j;exact ⟨_,_,_,_,rfl⟩
 ·obtain ⟨z3,z4,z5,z6,rfl⟩:=j;rw [nil_append];refine cN (l:=(bx k ws Ek).map W.v) rfl ?_;refine (?_:ev cf (.nd .sortedSet [vv 2]) [.v (cC s0 s1 s2 R k st st' en en' ws Ek),.v (.int k),.v (aN (bx k ws Ek)),z3,z4,z5,z6,.unset,.unset] fun y=>noX y=true/\K y);exact pv (l:=bx k ws Ek) ix sk (gL o1 o2) hz fun vs nv hv up=>⟨rfl,h vs nv hv up⟩
noncomputable def is4:List Int:=[0,1,2,3]
noncomputable def xV (c:Nat) (a b:Int):List W:=is4.map fun t=>.op a c b t
noncomputable def zq (c:Nat) (a:Int):List W:=is4.flatMap (xV c a)
noncomputable def ops (c:Nat):List W:=is4.flatMap (zq c)
def eC {α β:Type} {f:α->List β} {n:Nat} {l:List α} (h:∀ x∈l,(f x).length=n):(l.flatMap f).length=l.length * n:=by
 rw [length_flatMap,List.map_congr_left (g:=fun U=>n) h,map_const',sum_replicate_nat]
def oX (c:Nat) (a:Int):(zq c a).length=16:=eC (n:=4) (l:=is4) fun b U=>length_map _
def xU (c:Nat):(ops c).length=64:=eC (l:=is4) fun a U=>oX c a
def rf:is4.Nodup:=by decide
def rg:∀ i∈is4,In 6 i:=by unfold In; decide
def AJ (c:Nat):(ops c).Nodup:=by
 refine pairwise_flatMap.mpr ⟨fun a U=>pairwise_flatMap.mpr ⟨fun b U=>rf.map _ fun x y h e=>h (by injection e),rf.imp fun h x mx y my e=>?_⟩,rf.imp fun h x mx y my e=>?_⟩
 ·obtain ⟨t,_,rfl⟩:=zA7 mx;obtain ⟨t',_,rfl⟩:=zA7 my;injection e with _ _ e
  exact h e
 ·obtain ⟨b,_,mx⟩:=mem_flatMap.mp mx;obtain ⟨b',_,my⟩:=mem_flatMap.mp my;obtain ⟨t,_,rfl⟩:=zA7 mx;obtain ⟨t',_,rfl⟩:=zA7 my;injection e with e
  exact h e
def AK (h:w∈ops c):∃ a b t,w=.op a c b t/\In 6 a/\In 6 b/\In 6 t:=by
 obtain ⟨a,ma,m⟩:=mem_flatMap.mp h;obtain ⟨b,mb,m⟩:=mem_flatMap.mp m;obtain ⟨t,mt,rfl⟩:=zA7 m;exact ⟨a,b,t,rfl,rg a ma,rg b mb,rg t mt⟩
noncomputable def g40 (c:Nat) (n:Int) (l:List W) (s3 s4:Slot):Gs:=[.v (text [c]),.v (.int n),.v (aN l),s3,s4,.unset,.unset]
inductive J40 (c:Nat) (n:Int) (G:Gs) (l:List W):Prop
 | mk (s3 s4:Slot) (e:G=g40 c n l s3 s4):J40 c n G l
inductive J40b (c:Nat) (n:Int) (s3:Slot) (G:Gs) (l:List W):Prop
 | mk (s4:Slot) (e:G=g40 c n l s3 s4):J40b c n s3 G l
def yY (c:Nat):(([]:List W)++is4.flatMap (zq c)).length<=5000:=by rw [nil_append,eC fun a U=>oX c a]; decide
def S40 (cf:ai):Prop:=∀ c (n:Int) K,n=4->K (aN (ops c))->cf 40 [text [c],.int n] K
def AT {a b:List W} (h:(a++b).length<=5000):opN (.bin .Add) [aN a,aN b]=some (aN (a++b)):=by
 unfold aN;rw [map_append];exact nK (by rw [<- map_append,zA4]; exact h)
def p40 (cf:ai):S40 (step cf):=fun c n K hn h=>by
 have r4:bK (.list (a9 0 n))=some (is4.map .int):=by subst hn; rfl
 have vr:∀ {G:Gs},Val cf G (vv 1) (.int n)->Val cf G (.nd .range [vv 1]) (.list (a9 0 n)):=fun h=>dj h (by rw [hn]; decide) (by rw [hn]; decide);clear hn;refine run (fn:=f40) rfl rfl rfl (af (v:=aN []) ix ?_);refine iR (xs:=is4) (g:=.int) (f:=zq c) (l:=[]) (J:=J40 c n) (vr ix) r4 ⟨_,_,rfl⟩ (yY c) (fun a U G l Kt j hz nx=>?_) fun G j=>?_
 ·obtain ⟨s3,s4,rfl⟩:=j;refine iR (xs:=is4) (g:=.int) (f:=xV c a) (l:=l) (J:=J40b c n (.v (.int a))) (vr ix) r4 ⟨_,rfl⟩ hz (fun b U G l Kt j hz nx=>?_) fun G j=>aE (nx G ?_)
  ·obtain ⟨s4,rfl⟩:=j;refine af (v:=aN (l++xV c a b)) (aa (.two (x:=aN l) (y:=aN (xV c a b)) ix ?_) (AT hz)) (aE (nx _ ⟨_,rfl⟩));have q:=b9 (cf:=cf) (k:=5) (G:=g40 c n l (.v (.int a)) (.v (.int b))) (s:=.nd .range [vv 1]) (e:=zR) (ws:=is4) (g:=.int) (f:=fun t=>(W.op a c b t).v) (vr ix) r4 fun t U=>ix;unfold aN xV;rw [map_map];exact q
  ·obtain ⟨s4,rfl⟩:=j;exact ⟨_,_,rfl⟩
 ·rw [nil_append] at j;have j:J40 c n G (ops c):=j;obtain ⟨s3,s4,rfl⟩:=j;exact aB (v:=aN (ops c)) ix h
noncomputable def BH (k:Int) (p q:List Int):List Int:=zipWith (fun i j=>i * k+j) p q
inductive prR (k:Int) (X Y:Rel) (q:Int) (p:List Int):Prop
 | mk (q1:Int) (p1:List Int) (q2:Int) (p2:List Int) (x:X q1 p1) (y:Y q2 p2) (eq:q=q1 * k+q2) (ep:p=BH k p1 p2):prR k X Y q p
def InR (k:Int) (Y:Rel):Prop:=∀ q p,Y q p->In k q/\∀ t∈p,In k t
section
variable {s0 s1 s2:List Nat} {k R:Int} {ws us:List W} (sk:SgOk s0 s1 s2) (ow:∀ w∈ws,W.ok s0 s1 s2 R w) (ou:∀ w∈us,W.ok s0 s1 s2 k w)
include ou in
theorem Cp (h:InR k Y):InR k (nx us c Y):=fun q p n=>by
 rcases n with ⟨q0,x,m⟩ | ⟨q0,t,p0,e,x,m⟩ | ⟨q0,t,x,m⟩
 ·exact ⟨(ou _ m).2.2,(h _ _ x).2⟩
 ·subst e;exact ⟨(ou _ m).2.2.1,zA1 ⟨(ou _ m).2.2.2,(h _ _ x).2⟩⟩
 ·exact ⟨(ou _ m).2.2.2,(forall_mem_cons.mp (h _ _ x).2).2⟩
include sk ow ou in
theorem xX {X Y:Rel} (hY:InR k Y):nx (bx k ws us) c (prR k X Y)=prR k (nx ws c X) (nx us c Y):=by
 funext q p
 refine propext ⟨fun h=>?_,fun h=>?_⟩
 ·rcases h with ⟨q0,x,m⟩ | ⟨q0,t,p0,e,x,m⟩ | ⟨q0,t,x,m⟩
  ·obtain ⟨q1,p1,q2,p2,x,y,e1,e2⟩:=x;obtain ⟨u,mu,v,mv,h,e⟩:=prod_mem.mp m;cases al_of h <;> (first | (injection e; done) | skip)
   injection e with f1 f2 f3
   subst f2 f3;obtain ⟨rfl,rfl⟩:=dec (hY _ _ y).1 (ou _ mv).1 (e1.symm.trans f1);exact ⟨_,p1,_,p2,.on q1 x mu,.on q2 y mv,rfl,e2⟩
  ·obtain ⟨q1,p1,q2,p2,x,y,e1,e2⟩:=x;obtain ⟨u,mu,v,mv,h,e'⟩:=prod_mem.mp m;cases al_of h <;> (first | (injection e'; done) | skip)
   injection e' with f1 f2 f3 f4
   subst f2 f3 f4;obtain ⟨rfl,rfl⟩:=dec (hY _ _ y).1 (ou _ mv).1 (e1.symm.trans f1);exact ⟨_,_ :: p1,_,_ :: p2,.op q1 _ p1 rfl x mu,.op q2 _ p2 rfl y mv,rfl,by rw [e,e2]; rfl⟩
  ·obtain ⟨q1,p1,q2,p2,x,y,e1,e2⟩:=x;obtain ⟨u,mu,v,mv,h,e'⟩:=prod_mem.mp m;cases al_of h <;> (first | (injection e'; done) | skip)
   injection e' with f1 f2 f3 f4
   subst f3 f4;obtain ⟨rfl,rfl⟩:=dec (hY _ _ y).1 (ou _ mv).1 (e1.symm.trans f1);cases p1 with
   | nil=>exact nomatch e2
   | cons t1 p1=>cases p2 with
    | nil=>exact nomatch e2
    | cons t2 p2=>
     injection e2 with g1 g2
     obtain ⟨rfl,rfl⟩:=dec ((hY _ _ y).2 _ (.head _)) (ou _ mv).2.1 (g1.symm.trans f2);exact ⟨_,p1,_,p2,.cl q1 _ x mu,.cl q2 _ y mv,rfl,g2⟩
 ·obtain ⟨q1,p1,q2,p2,x,y,e1,e2⟩:=h;subst e1 e2;have al:∀ (n:Nat),(n==n)=true:=fun n=>beq_self_eq_true n;rcases x with ⟨u,x,m⟩ | ⟨u,t,p0,rfl,x,m⟩ | ⟨u,t,x,m⟩
  ·rcases y with ⟨v,y,n⟩ | ⟨v,t',p0',_,y,n⟩ | ⟨v,t',y,n⟩
   ·exact .on (u * k+v) ⟨u,p1,v,p2,x,y,rfl,rfl⟩ (prod_mem.mpr ⟨_,m,_,n,al c,rfl⟩)
   ·exact absurd (ou _ n).2.1 (sk.inC (ow _ m).2.1).1
   ·exact absurd (ou _ n).2.2.1 (sk.inC (ow _ m).2.1).2
  ·rcases y with ⟨v,y,n⟩ | ⟨v,t',p0',rfl,y,n⟩ | ⟨v,t',y,n⟩
   ·exact absurd (ow _ m).2.1 (sk.inC (ou _ n).2.1).1
   ·exact .op (u * k+v) (t * k+t') (BH k p0 p0') rfl ⟨u,p0,v,p0',x,y,rfl,rfl⟩ (prod_mem.mpr ⟨_,m,_,n,al c,rfl⟩)
   ·exact absurd (ow _ m).2.1 (sk.inB (ou _ n).2.2.1)
  ·rcases y with ⟨v,y,n⟩ | ⟨v,t',p0',_,y,n⟩ | ⟨v,t',y,n⟩
   ·exact absurd (ow _ m).2.2.1 (sk.inC (ou _ n).2.1).2
   ·exact absurd (ou _ n).2.1 (sk.inB (ow _ m).2.2.1)
   ·exact .cl (u * k+v) (t * k+t') ⟨u,t :: p1,v,t' :: p2,x,y,rfl,rfl⟩ (prod_mem.mpr ⟨_,m,_,n,al c,rfl⟩)
include sk ow ou in
theorem oP:∀ (w:List Nat) {X Y:Rel},InR k Y->i6 (bx k ws us) w (prR k X Y)=prR k (i6 ws w X) (i6 us w Y)/\InR k (i6 us w Y)
 | [],_,_,hY=>⟨rfl,hY⟩
 | c :: w,X,Y,hY=>by
  unfold i6;rw [xX sk ow ou hY];exact oP w (Cp ou hY)
include sk ow ou in
theorem wa (h2:∀ i∈st',In k i) (e2:∀ i∈en',In k i):Acc (bx k ws us) (aM k st st') (aM k en en') w ↔ Acc ws st en w/\Acc us st' en' w:=by
 have e0:st0 (aM k st st')=prR k (st0 st) (st0 st'):=by
  funext q p
  refine propext ⟨fun ⟨h,e⟩=>?_,fun ⟨q1,p1,q2,p2,x,y,a,b⟩=>?_⟩
  ·obtain ⟨i,mi,j,mj,rfl⟩:=pairs_mem.mp h;exact ⟨i,[],j,[],⟨mi,rfl⟩,⟨mj,rfl⟩,rfl,e⟩
  ·refine ⟨pairs_mem.mpr ⟨q1,x.1,q2,y.1,a.symm⟩,?_⟩;rw [b,x.2]; rfl
 obtain ⟨er,ri⟩:=oP sk ow ou w (X:=st0 st) (Y:=st0 st') fun q p h=>⟨h2 q h.1,fun t m=>by rw [h.2] at m; exact nM m⟩;unfold Acc;rw [e0,er];constructor
 ·rintro ⟨q,p,⟨q1,p1,q2,p2,x,y,rfl,_⟩,hq⟩;obtain ⟨i,mi,j,mj,e⟩:=pairs_mem.mp hq;obtain ⟨rfl,rfl⟩:=dec (e2 j mj) (ri _ _ y).1 e;exact ⟨⟨_,_,x,mi⟩,⟨_,_,y,mj⟩⟩
 ·rintro ⟨⟨q1,p1,x,h1⟩,⟨q2,p2,y,h2⟩⟩;exact ⟨q1 * k+q2,BH k p1 p2,⟨q1,p1,q2,p2,x,y,rfl,rfl⟩,pairs_mem.mpr ⟨q1,h1,q2,h2,rfl⟩⟩
end
def v9 (h:∀ w,w∈a ↔ w∈a') (hs:∀ i,i∈st ↔ i∈st') (he:∀ i,i∈en ↔ i∈en'):Acc a st en w ↔ Acc a' st' en' w:=by
 unfold Acc;rw [oO h,show st0 st=st0 st' from funext fun q=>funext fun p=>propext (and_congr_left fun U=>hs q)];exact exists_congr fun q=>exists_congr fun p=>and_congr_right fun U=>he q
structure All (cf:ai):Prop where
 me:MethOk cf
 h9:S9 cf
 h20:S20 cf
 h21:S21 cf
 h24:SgS 24 cf
 h26:S26 cf
 h27:S27 cf
 h29:S29 cf
 h30:S30 cf
 h37:S37 cf
 h38:S38 cf
 h39:S39 cf
 h40:S40 cf
 h41:S41 cf
def xr (h:dH x=true):aX .Eq x x=some true:=(if_pos (by rw [h]; rfl)).trans (congrArg some (PySem.SeqAt.eqv_refl x (zA2 h).1))
def wz:dH wv=true:=cr (n:=1) (cJ (zA1 ⟨cK (x:=.str zC) (by refine (?_:strOk zC=true); rw [dz]; rfl),forall_mem_singleton.mpr ⟨rfl,le_refl _⟩⟩)) (by decide)
noncomputable def g42 (scr:List Int) (s0 s1 s2:List Nat) (z2 z3 z4 z5 z6 z7 z8 z9 IR HL GS FO Hh:Slot):Gs:=[.v (qr scr),.v (sg s0 s1 s2),z2,z3,z4,z5,z6,z7,z8,z9,IR,HL,GS,FO,Hh,.unset,.unset]
def wy (h:In R i):∀ j∈[i],In R j:=forall_mem_singleton.mpr h
def vd {us us':List W} (h:∀ w∈us,∀ u∈us',w.al u=true):(bx k us us').length=us.length * us'.length:=by
 refine eC fun w mw=>?_;rw [eC (n:=1) fun u mu=>?_,Nat.mul_one];unfold W.pl;rw [if_pos (h w mw u mu)]; rfl
def DE (A:All cf) (sk:SgOk s0 s1 s2) (hn:s0≠[]) {K:V->Prop} (h:K (.bool true)):exs sup cf (zQ++r) (g42 scr s0 s1 s2 z2 z3 z4 z5 z6 z7 z8 z9 IR HL GS FO Hh) fun fl U=>K (fl.getD .none):=by
 cases s0 with
 | nil=>exact absurd rfl hn
 | cons c s0=>
 refine af (au (.two (aa (.two (x:=text (c :: s0)) ix ix) (rc (zB1 sk.la (by decide)) (Int.le_refl _) rfl)) ix) fun K k=>A.h40 c 4 K rfl k) ?_;have Ip:∀ w∈ops c,∃ a b t,w=.op a c b t/\In 6 a/\In 6 b/\In 6 t:=fun w m=>AK m;have nd:=AJ c;have ln:=xU c;generalize ops c=ws at Ip nd ln;have ok:∀ w∈ws,W.ok (c :: s0) s1 s2 6 w:=fun w m=>by
  obtain ⟨a,b,t,rfl,h1,h2,h3⟩:=Ip w m;exact ⟨h1,.head _,h2,h3⟩
 have rk:RoomsOk 6 [0]:=ge (pairwise_singleton _ _) (wy ⟨by decide,by decide⟩) (by decide);have rk':RoomsOk 6 [5]:=ge (pairwise_singleton _ _) (wy ⟨by decide,by decide⟩) (by decide);have g:aj (c :: s0) s1 s2 6 [0] [5] ws:=⟨sk,by decide,by decide,rk,rk',by rw [ln]; decide,ok⟩;refine af (v:=ba (sg (c :: s0) s1 s2) 6 [0] [5] ws) (aa (.cons ix (.cons ix (.cons ix (.two ix ix)))) rfl) ?_;refine (?_:cf 27 [ba (sg (c :: s0) s1 s2) 6 [0] [5] ws] fun m=>noX m=true/\cf 27 [ba (sg (c :: s0) s1 s2) 6 [0] [5] ws] fun m'=>noX m'=true/\cf 38 [m,m'] fun y=>noX y=true/\okK (aX .Eq y wv) fun b=>noX (.bool b)=true/\K (.bool b));refine A.h27 _ _ _ _ _ _ _ _ g fun EK Ha r1 EY=>⟨rfl,A.h27 _ _ _ _ _ _ _ _ g fun EL HJ r2 EP=>⟨rfl,?_⟩⟩;obtain ⟨us,rfl,nu,hu⟩:=fh EY;obtain ⟨us',rfl,nu',H1⟩:=fh EP;obtain rfl:=perm_singleton.mp EY.p1;obtain rfl:=perm_singleton.mp EY.p2;obtain rfl:=perm_singleton.mp EP.p1;obtain rfl:=perm_singleton.mp EP.p2;have lu:=(j8 nu nd hu).trans ln;have lu':=(j8 nu' nd H1).trans ln;have o1:∀ w∈us,W.ok (c :: s0) s1 s2 6 w:=fun w m=>ok w ((hu w).mp m);have o2:∀ w∈us',W.ok (c :: s0) s1 s2 6 w:=fun w m=>ok w ((H1 w).mp m);have lp:=vd (k:=6) (us:=us) (us':=us') fun w mw u mu=>by
  obtain ⟨a,b,t,rfl,_⟩:=Ip w ((hu w).mp mw);obtain ⟨a',b',t',rfl,_⟩:=Ip u ((H1 u).mp mu);exact beq_self_eq_true c
 rw [lu,lu'] at lp;refine A.h38 (c :: s0) s1 s2 6 6 [0] [0] [5] [5] us us' _ ⟨sk,by decide,by decide,by decide,by decide,by rw [lu]; decide,by rw [lu']; decide,o1,o2,by decide,by rw [lp]; decide⟩ (.ways (gL o1 o2) (i9 nu nu' o2) (by rw [lp]; decide) (by rw [lp]; decide) ⟨rfl,ar (xr wz) ⟨rfl,h⟩⟩)
structure Pt (s0 s1 s2:List Nat) (R:Int) (st en:List Int) (ws:List W):Prop where
 sk:SgOk s0 s1 s2
 r1:1<=R
 r2:R<=40
 ks:RoomsOk R st
 ke:RoomsOk R en
 rs:∀ i∈st,Rm i
 len:ws.length<=10
 ok4:∀ w∈ws,W.ok s0 s1 s2 4 w
 ok:∀ w∈ws,W.ok s0 s1 s2 R w
theorem Pt.r0 (p:Pt s0 s1 s2 R st en ws):0<=R:=le_trans (by decide) p.r1
theorem Pt.k6 (p:Pt s0 s1 s2 R st en ws):R.natAbs<=1000000:=ofNat_le.mp (by rw [natAbs_of_nonneg p.r0]; exact le_trans p.r2 (by decide))
theorem Pt.good (p:Pt s0 s1 s2 R st en ws):aj s0 s1 s2 R st en ws:=⟨p.sk,p.r1,p.r2,p.ks,p.ke,zB1 p.len (by decide),p.ok⟩
def AS (hs:scr.length<=63) (h0:0<=i) (h:i<=j) (hj:j<=i+15):∃ cs:List Int,cs.length<=20/\opN (.slice true true) [qr scr,.int i,.int j]=some (.list (cs.map .int)):=by
 have e:∀ {d n:Nat} {i:Int},0<=i->pF d n (some (.int i))=some (min i.toNat n):=fun h=>by
  refine (?_:some _=_);rw [if_pos h]
 refine ⟨(scr.drop (min i.toNat (scr.map PyData.int).length)).take (min j.toNat (scr.map PyData.int).length - min i.toNat (scr.map PyData.int).length),zB1 (length_take_le _ _) ?_,?_⟩
 ·have q:j.toNat<=i.toNat+15:=toNat_le.mpr (by rw [natCast_add,toNat_of_nonneg h0]; exact hj);refine Nat.sub_le_of_le_add ?_;rcases Nat.le_total (scr.map PyData.int).length i.toNat with z | z
  ·rw [Nat.min_eq_right z]; exact zB1 (min_le_right _ _) (le_add_left _ _)
  ·rw [min_eq_left z,add_comm]; exact zB1 (min_le_left _ _) (zB1 q (Q6 (by decide) _))
 ·rw [List.map_take,List.map_drop];exact rB (l:=scr.map .int) (f:=.list) (by rw [zA4]; exact zB1 hs (by decide)) (e h0) (e (le_trans h0 h)) (le_min.mpr ⟨zB1 (min_le_left _ _) (Int.toNat_le_toNat h),min_le_right _ _⟩)
def mI {ws:List W} (sk:SgOk s0 s1 s2) (ok:∀ w∈ws,W.ok s0 s1 s2 R w) (h:∀ y∈r,y∈ws.map W.v):eI 3 (ofV s0 s1 s2 R' st en r):=cJ (n:=2) (zA1 ⟨fk (sQ sk) (by decide),zA1 ⟨fk (cK (x:=.int R') rfl) (by decide),zA1 ⟨fk (eT _) (by decide),zA1 ⟨fk (eT _) (by decide),forall_mem_singleton.mpr (cD (tV sk ok h))⟩⟩⟩⟩)
section
open Classical
variable {cf:ai} {s0 s1 s2:List Nat} {G:Gs} {w:List Nat}
def rO {P:Prop} (hv:fN cf G es vs) (h:∀ K:V->Prop,(∀ b:Bool,(b=true ↔ P)->K (.bool b))->cf f vs K):Val cf G (.nd (.call f) es) (.bool (decide P)):=fun K k=>hv _ (h _ fun b hb=>⟨rfl,by rw [show b=decide P by rw [Bool.eq_iff_iff,decide_eq_true_iff]; exact hb]; exact k⟩)
def rN (A:All cf) (p:Pt s0 s1 s2 R st en ws) (gw:Gd s0 s1 s2 4 0 0 w) (lw:w.length<=40) (ha:Val cf G a (ba (sg s0 s1 s2) R st en ws)) (hb:Val cf G b (text w)):Val cf G (.nd (.call 29) [a,b]) (.bool (decide (Acc ws st en w))):=
 rO (.two ha hb) fun K k=>A.h29 s0 s1 s2 R st en ws w K ⟨p.sk,by decide,zB1 p.len (by decide),p.ok4⟩ p.ks.len p.ks.nodup p.rs gw (zB1 lw (by decide)) k
end
structure Fnd (s0 s1 s2:List Nat) (R k:Int) (st st' en en':List Int) (ws Ek:List W) (fs fe:List Int) (us:List W):Prop where
 m:MOk s0 s1 s2 (R * k) us
 nd:us.Nodup
 mem:∀ w,w∈us ↔ w∈bx k ws Ek
 up:gD (us.map W.v)
 ps:fs.Perm (aM k st st')
 os:fs.Pairwise (·<=·)
 pe:fe.Perm (aM k en en')
 oe:fe.Pairwise (·<=·)
 ks:RoomsOk (R * k) (aM k st st')
 ke:RoomsOk (R * k) (aM k en en')
section
variable {cf:ai} {scr:List Int} {s0 s1 s2:List Nat} {R k:Int} {st st' en en' fs fe:List Int} {ws Ek us:List W} {G:Gs}
open Classical in
def uM (A:All cf) (F:Fnd s0 s1 s2 R k st st' en en' ws Ek fs fe us) (p:Pt s0 s1 s2 R st en ws) (p':Pt s0 s1 s2 k st' en' Ek) (gw:Gd s0 s1 s2 4 0 0 w) (lw:w.length<=40) (ha:Val cf G a (aK (sg s0 s1 s2) (R * k) fs fe (us.map W.v))) (hb:Val cf G b (text w)):Val cf G (.nd (.call 9) [a,b]) (.bool (decide (Acc ws st en w)&&decide (Acc Ek st' en' w))):=by
 have z:=rO (P:=Acc us fs fe w) (cf:=cf) (G:=G) (f:=9) (.two ha hb) fun K q=>A.h9 s0 s1 s2 (R * k) fs fe us w K F.m (F.ps.length_eq▸F.ks.len) (fun i mi=>F.ks.rooms i (F.ps.mem_iff.mp mi)) (F.pe.length_eq▸F.ke.len) (zB1 lw (by decide)) ((by have:=uu p.sk gw []; rw [append_nil] at this; exact this.trans rfl)) q;have q:Acc us fs fe w ↔ Acc ws st en w/\Acc Ek st' en' w:=(v9 (a':=bx k ws Ek) (st':=aM k st st') (en':=aM k en en') F.mem (fun i=>F.ps.mem_iff) fun i=>F.pe.mem_iff).trans (wa p.sk p.ok p'.ok p'.ks.rooms p'.ke.rooms);have e:decide (Acc us fs fe w)=(decide (Acc ws st en w)&&decide (Acc Ek st' en' w)):=by
  rw [Bool.eq_iff_iff,and_eq_true,decide_eq_true_iff,decide_eq_true_iff,decide_eq_true_iff]; exact q
 exact e▸z
def An (A:All cf) (hs:scr.length<=63) (F:Fnd s0 s1 s2 R k st st' en en' ws Ek fs fe us) (p:Pt s0 s1 s2 R st en ws) (p':Pt s0 s1 s2 k st' en' Ek) (hi:0<=i) {Kt:Option V->Gs->Prop} (n:∀ FO,Kt none (g42 scr s0 s1 s2 (.v (cC s0 s1 s2 R k st st' en en' ws Ek)) z3 z4 z5 z6 z7 z8 z9 (.v (aK (sg s0 s1 s2) (R * k) fs fe (us.map W.v))) HL (.v (.int i)) FO Hh)) :
  exs sup cf zN (g42 scr s0 s1 s2 (.v (cC s0 s1 s2 R k st st' en en' ws Ek)) z3 z4 z5 z6 z7 z8 z9 (.v (aK (sg s0 s1 s2) (R * k) fs fe (us.map W.v))) HL (.v (.int i)) FO Hh) Kt:=by
 have k6:0<=6 * i:=mul_nonneg (by decide) hi;obtain ⟨cs,lc,HC⟩:=AS (scr:=scr) (i:=26+6 * i) (j:=36+6 * i) hs (add_nonneg (by decide) k6) (Int.add_le_add_right (by decide) _) (by rw [Int.add_right_comm]; exact Int.add_le_add_right (by decide) _);have vc:=b9 (cf:=cf) (G:=g42 scr s0 s1 s2 (.v (cC s0 s1 s2 R k st st' en en' ws Ek)) z3 z4 z5 z6 z7 z8 z9 (.v (aK (sg s0 s1 s2) (R * k) fs fe (us.map W.v))) HL (.v (.int i)) FO Hh) (k:=15) (g:=.int) (f:=fun c=>.int (wK c i)) (ws:=cs) (e:=zO) (s:=.nd (.slice true true) [vv 0,adE (ii 26) (mlE (ii 6) (vv 12)),adE (ii 36) (mlE (ii 6) (vv 12))])
  (aa (.cons ix (.two (aa (.two ix (aa (.two ix ix) (cT (.inr (by decide))))) rfl) (aa (.two ix (aa (.two ix ix) (cT (.inr (by decide))))) rfl))) HC) (aT (by rw [zA4]; exact zB1 lc (by decide))) fun c U=>au (vs:=[.int c,.int i]) (.two ix ix) fun K h=>A.h21 c i K h
 rw [show cs.map (fun c=>PyData.int (wK c i))=(cs.map fun c=>wK c i).map .int by rw [map_map]; rfl] at vc;refine eK (.two ix vc) (A.h30 s0 s1 s2 _ _ p.sk (by rw [zA4]; exact lc) fun w gw lw=>⟨rfl,?_⟩);refine aC (ae (uM A F p p' gw lw ix ix) (aA (.and (rN A p gw lw ix ix) fun U=>.one (rN A p' gw lw ix ix))) (xq rfl)) (aE (n _))
def rI (hv:Val cf G a x) (h:cf 27 [x] fun u=>noX u=true/\ev cf b G fun y=>cf 27 [y] fun v=>noX v=true/\exs sup cf r (G.set j (.v (.list [u,v]))) K):exs sup cf (.mk (.assign j) [.nd .list [.nd (.call 27) [a],.nd (.call 27) [b]]] [] [] :: r) G K:=hv _ h
def oG {e s:E} (h:Val cf G s v) (hq:bK v=some [a,b]) (h1:Val cf (G.set j (.v a)) e x) (h2:Val cf (G.set j (.v b)) e y):Val cf G (.nd (.comp j) [s,e]) (.list [x,y]):=b9 (ws:=[(a,x),(b,y)]) (g:=Prod.fst) (f:=Prod.snd) h hq (zA1 ⟨h1,forall_mem_singleton.mpr h2⟩)
end
inductive Ip42 (g:Slot->Slot->Gs) (xs:List V) (G:Gs):Prop
 | mk (GS FO:Slot) (hx:∀ x∈xs,∃ i:Int,0<=i/\x=.int i) (e:G=g GS FO):Ip42 g xs G
section
variable {cf:ai} {scr:List Int} {s0 s1 s2:List Nat} {R k:Int} {st st' en en' fs fe:List Int} {ws Ek us:List W}
def jA (p:Pt s0 s1 s2 R st en ws) (hd:Held st en (ws.map W.v) EK Ha (us.map W.v)):us.length<=10:=by
 have z:=gg hd.nd fun y m=>(hd.mem y).mp m;rw [zA4,zA4] at z;exact zB1 z p.len
def jY {a b:List W} (ha:a.length<=10) (hb:b.length<=10):(bx k a b).length<=100:=by
 have one:∀ w u:W,(W.pl k w u).length<=1:=fun w u=>by
  unfold W.pl;split
  ·exact le_refl 1
  ·exact zero_le _
 have sum:∀ {α:Type} (f:α->List W) (n:Nat),(∀ x,(f x).length<=n)->∀ l:List α,(l.flatMap f).length<=l.length * n:=fun f n h l=>by
  induction l with
  | nil=>exact zero_le _
  | cons x l ih=>rw [List.flatMap_cons,zB5,zB4,Nat.succ_mul,add_comm (l.length * n)]; exact add_le_add (h x) ih
 exact zB1 (sum _ 10 (fun w=>zB1 (sum _ 1 (one w) b) (by rw [Nat.mul_one]; exact hb)) a) (Nat.mul_le_mul_right 10 ha)
theorem Pt.both (p:Pt s0 s1 s2 R st en ws) (hR:R * k<=40) (ps:a.Perm c) (pe:b.Perm d) (ka:RoomsOk R c) (kb:RoomsOk k d):RoomsOk (R * k) (aM k a b):=
 ge (d8 (ps.nodup_iff.mpr ka.nodup) (pe.nodup_iff.mpr kb.nodup) fun i m=>kb.rooms i (pe.mem_iff.mp m)) (ve (fun i m=>ka.rooms i (ps.mem_iff.mp m)) fun i m=>kb.rooms i (pe.mem_iff.mp m)) hR
def Bc (p:Pt s0 s1 s2 R st en ws) (p':Pt s0 s1 s2 k st' en' Ek) (hR:R * k<=40) (EY:Held st en (ws.map W.v) EK Ha (HO.map W.v)) (EP:Held st' en' (Ek.map W.v) EL HJ (HN.map W.v)) (KB:∀ w,w∈HO ↔ w∈ws) (Hr:∀ w,w∈HN ↔ w∈Ek)
  (hd:Held (aM k EK EL) (aM k Ha HJ) ((bx k HO HN).map W.v) fs fe (us.map W.v)) (nu:us.Nodup) (hu:∀ w,w∈us ↔ w∈bx k HO HN):Fnd s0 s1 s2 R k st st' en en' ws Ek fs fe us:=by
 have mem:∀ w,w∈us ↔ w∈bx k ws Ek:=fun w=>(hu w).trans (tH KB Hr w);have Lg:=jY (k:=k) (jA p EY) (jA p' EP);have z:=gg hd.nd fun y m=>(hd.mem y).mp m;rw [zA4,zA4] at z;exact ⟨⟨p.sk,hR,zB1 z Lg,fun w mw=>gL p.ok p'.ok w ((mem w).mp mw)⟩,nu,mem,hd.up,hd.p1.trans (je p.ks.nodup p'.ks.nodup p'.ks.rooms EY.p1 EP.p1),hd.o1,hd.p2.trans (je p.ke.nodup p'.ke.nodup p'.ke.rooms EY.p2 EP.p2),hd.o2,p.both hR (.refl _) (.refl _) p.ks p'.ks,p.both hR (.refl _) (.refl _) p.ke p'.ke⟩
def C8 (A:All cf) (hs:scr.length<=63) (p:Pt s0 s1 s2 R st en ws) (p':Pt s0 s1 s2 k st' en' Ek) (hR:R * k<=40) (EY:Held st en (ws.map W.v) EK Ha r1) (EP:Held st' en' (Ek.map W.v) EL HJ r2) (F:Fnd s0 s1 s2 R k st st' en en' ws Ek fs fe us) {K:V->Prop} (h:K (.bool true)) :
  exs sup cf (f42.body.drop 8) (g42 scr s0 s1 s2 (.v (cC s0 s1 s2 R k st st' en en' ws Ek)) z3 z4 z5 z6 z7 (.v (.int k)) (.v (.list [aK (sg s0 s1 s2) R EK Ha r1,aK (sg s0 s1 s2) k EL HJ r2])) (.v (aK (sg s0 s1 s2) (R * k) fs fe (us.map W.v))) HL GS FO Hh) fun fl U=>K (fl.getD .none):=by
 have vm:∀ {G:Gs} {a b:E},Val cf G a (.int k)->Val cf G b (.int R)->Val cf G (mlE a b) (.int (R * k)):=fun ha hb=>aa (.two ha hb) (by rw [Int.mul_comm R]; exact cT (.inl p.k6));refine aC (ae (vm ix ix) ix (nT (Int.not_lt.mpr hR))) ?_;refine af (oG (x:=ag fs) (y:=ag fe) (v:=.tuple [.int 2,.int 3]) ix rfl (au (vs:=[ag st,ag st',.int k]) (.cons ix (.two ix ix)) fun K q=>A.h41 st st' k fs K p'.k6 p.ks.len p'.ks.len F.ks.len F.ps F.os q) (au (vs:=[ag en,ag en',.int k]) (.cons ix (.two ix ix)) fun K q=>A.h41 en en' k fe K p'.k6 p.ke.len p'.ke.len F.ke.len F.pe F.oe q)) ?_;have lb:=jY (k:=k) p.len p'.len;have okb:=gL p.ok p'.ok;have lr:(us.map W.v).length<=4000:=by rw [zA4]; exact zB1 F.m.len (by decide)
 have v39:∀ {G:Gs} {a b:E},Val cf G a (cC s0 s1 s2 R k st st' en en' ws Ek)->Val cf G b (.int k)->Val cf G (.nd (.call 39) [a,b]) (.list (us.map W.v)):=fun ha hb=>au (.two ha hb) fun K q=>A.h39 s0 s1 s2 R k st st' en en' ws Ek K p.sk p.ok p'.ok p'.k6 (zB1 p.len (by decide)) (zB1 p'.len (by decide)) (zB1 lb (by decide)) fun vs nv hv up=>by
  rw [show aN vs=.list (us.map W.v) from congrArg PyData.list (gT p.sk okb (mA nv) (xf hv) up (mA F.nd) (xf F.mem) F.up)]; exact q
 refine aC (aH (t:=true) (tr ix rfl)) ?_;refine aC (ae (x:=ofV s0 s1 s2 (R * k) fs fe (us.map W.v)) (au (.one ix) fun K q=>A.h37 s0 s1 s2 _ _ _ _ K (F.ps.length_eq▸F.ks.len) (F.pe.length_eq▸F.ke.len) lr q) (aa (.cons ix (.cons (vm ix ix) (.cons (v:=ag fs) ix (.two (x:=ag fe) ix (v39 ix ix))))) rfl) (xq (cr (mI p.sk F.m.ok fun y m=>m) (by decide)))) ?_;refine im (xs:=a9 0 5) (P:=Ip42 fun GS FO=>g42 scr s0 s1 s2 (.v (cC s0 s1 s2 R k st st' en en' ws Ek)) z3 z4 z5 z6 z7 (.v (.int k)) (.v (.list [aK (sg s0 s1 s2) R EK Ha r1,aK (sg s0 s1 s2) k EL HJ r2])) (.v (aK (sg s0 s1 s2) (R * k) fs fe (us.map W.v))) (.v (.list [ag fs,ag fe])) GS FO Hh) (dj ix (by decide) (by decide)) (eN (by decide)) ⟨_,_,fun x m=>?_,rfl⟩ (fun G hP=>?_) fun x l G Kt hP nx rt=>?_
 ·rw [range_eq] at m;obtain ⟨i,_,rfl⟩:=zA7 m;exact ⟨_,add_nonneg (by decide) (natCast_nonneg i),rfl⟩
 ·obtain ⟨GS,FO,_,rfl⟩:=hP;refine rI (x:=ba (sg s0 s1 s2) R st en ws) ix (A.h27 _ _ _ _ _ _ _ _ p.good fun IX Kk r1' q1=>⟨rfl,?_⟩);refine A.h27 s0 s1 s2 k st' en' Ek _ p'.good fun IW Kj r2' q2=>⟨rfl,?_⟩;obtain rfl:=du q1.p1 q1.o1 EY.p1 EY.o1;obtain rfl:=du q1.p2 q1.o2 EY.p2 EY.o2;obtain rfl:=du q2.p1 q2.o1 EP.p1 EP.o1;obtain rfl:=du q2.p2 q2.o2 EP.p2 EP.o2;obtain rfl:=gT p.sk p.ok q1.nd q1.mem q1.up EY.nd EY.mem EY.up;obtain rfl:=gT p'.sk p'.ok q2.nd q2.mem q2.up EP.nd EP.mem EP.up;obtain ⟨a1,a2,a3⟩:=gx p.good EY;obtain ⟨b1,b2,b3⟩:=gx p'.good EP;have vo:∀ {G:Gs} {s:E},Val cf G s (.list [aK (sg s0 s1 s2) R IX Kk r1',aK (sg s0 s1 s2) k IW Kj r2'])->(∀ x,Val cf (G.set 15 (.v x)) (vv 15) x)->Val cf G (.nd (.comp 15) [s,.nd (.call 37) [vv 15]]) (.list [ofV s0 s1 s2 R IX Kk r1',ofV s0 s1 s2 k IW Kj r2']):=fun hv hx=>oG hv rfl (au (.one (hx _)) fun K k=>A.h37 s0 s1 s2 _ _ _ _ K a1 a2 a3 k) (au (.one (hx _)) fun K k=>A.h37 s0 s1 s2 _ _ _ _ K b1 b2 b3 k);exact aB (ae (vo ix fun U=>ix) (vo ix fun U=>ix) (xr (cr (n:=4) (cD (zA1 ⟨mI p.sk p.ok fun y m=>(EY.mem y).mp m,forall_mem_singleton.mpr (mI p.sk p'.ok fun y m=>(EP.mem y).mp m)⟩)) (by decide)))) h
 ·obtain ⟨GS,FO,hx,rfl⟩:=hP;obtain ⟨i,hi,rfl⟩:=hx x (.head _);exact An A hs F p p' hi fun FO=>nx _ ⟨_,FO,fun y m=>hx y (.tail _ m),rfl⟩
def Ch (A:All cf) (hs:scr.length<=63) (p:Pt s0 s1 s2 R st en ws) (p':Pt s0 s1 s2 k st' en' Ek) {K:V->Prop} (h:K (.bool true)) :
  exs sup cf (f42.body.drop 5) (g42 scr s0 s1 s2 (.v (cC s0 s1 s2 R k st st' en en' ws Ek)) z3 z4 z5 z6 z7 z8 z9 IR HL GS FO Hh) fun fl U=>K (fl.getD .none):=by
 refine af (v:=.int k) ix ?_;refine rI (x:=ba (sg s0 s1 s2) R st en ws) ix (A.h27 _ _ _ _ _ _ _ _ p.good fun EK Ha r1 EY=>⟨rfl,?_⟩);refine A.h27 s0 s1 s2 k st' en' Ek _ p'.good fun EL HJ r2 EP=>⟨rfl,?_⟩;obtain ⟨HO,rfl,nu1,KB⟩:=fh EY;obtain ⟨HN,rfl,nu2,Hr⟩:=fh EP;obtain ⟨a1,a2,a3⟩:=gx p.good EY;obtain ⟨b1,b2,b3⟩:=gx p'.good EP;rw [zA4] at a3 b3;have o1:∀ w∈HO,W.ok s0 s1 s2 R w:=fun w m=>p.ok w ((KB w).mp m);have o2:∀ w∈HN,W.ok s0 s1 s2 k w:=fun w m=>p'.ok w ((Hr w).mp m);have lp:=jY (k:=k) (jA p EY) (jA p' EP);refine eK (.two (x:=aK (sg s0 s1 s2) R EK Ha (HO.map W.v)) (y:=aK (sg s0 s1 s2) k EL HJ (HN.map W.v)) ix ix) (A.h38 s0 s1 s2 R k EK EL Ha HJ HO HN _ ⟨p.sk,a1,b1,a2,b2,a3,b3,o1,o2,⟨p'.r0,p'.r2⟩,zB1 lp (by decide)⟩ ?_);by_cases hR:40 < R * k
 ·refine .rooms hR ⟨rfl,bQ (ae (x:=.int (R * k)) (aa (.two ix ix) (by rw [Int.mul_comm R]; exact cT (.inl p.k6))) ix (Aa hR)) (aB (ae (x:=wv) ix ix (xr wz)) h)⟩
 ·have hR:=Int.not_lt.mp hR;refine .made ⟨p.sk,?_,hR,p.both hR EY.p1 EP.p1 p.ks p'.ks,p.both hR EY.p2 EP.p2 p.ke p'.ke,zB1 lp (by decide),gL o1 o2⟩ (i9 nu1 nu2 o2) fun fs fe r hd=>⟨rfl,?_⟩
  ·have z:=Int.mul_le_mul_of_nonneg_right p.r1 p'.r0;rw [Int.one_mul] at z;exact le_trans p'.r1 z
  ·obtain ⟨us,rfl,nu,hu⟩:=fh hd;exact C8 A hs p p' hR EY EP (Bc p p' hR EY EP KB Hr hd nu hu) h
end
def Aj (hv:fN cf G es vs) (h:cf f vs fun u=>noX u=true/\bR (evs cf Ge) G fun vs'=>cf f vs' fun v=>noX v=true/\[u,v].length<=am/\exs sup cf r (G.set k (.ownL [u,v])) K):exs sup cf (.mk (.ownL k) [.nd (.call f) es,.nd (.call f) Ge] [] [] :: r) G K:=hv _ h
section
variable {s0 s1 s2:List Nat} {R:Int} {st en:List Int} {ws:List W}
theorem PartsOk.pt (sk:SgOk s0 s1 s2) (q:PartsOk s0 s1 s2 R st en ws):Pt s0 s1 s2 R st en ws:=⟨sk,q.r1,le_trans q.r4 (by decide),q.st,q.en,fun i m=>in4 (d0 (q.st.rooms i m) q.r4),q.len,fun w m=>qu (q.ok w m) q.r4,q.ok⟩
def sy (k:RoomsOk R st) (h4:R<=4) (hN:N<=40) (h0:4<=i) (hi:i < N):RoomsOk N (st++[i]):=ge (nodup_append.mpr ⟨k.nodup,pairwise_singleton _ _,fun a ha b hb e=>by
  obtain rfl:=zA6 hb;exact absurd (k.rooms a ha).2 (Int.not_lt.mpr (by rw [e]; exact le_trans h4 h0))⟩) (fun j m=>by
  rcases mem_append.mp m with m | m
  ·exact d0 (k.rooms j m) (le_trans h4 (Int.le_of_lt (Int.lt_of_le_of_lt h0 hi)))
  ·obtain rfl:=zA6 m; exact ⟨le_trans (by decide) h0,hi⟩) hN
def y9 (k:RoomsOk R st) (h4:R<=N):RoomsOk N st:=⟨k.len,k.nodup,fun i m=>d0 (k.rooms i m) h4⟩
theorem PartsOk.wide1 (sk:SgOk s0 s1 s2) (q:PartsOk s0 s1 s2 R st en ws) (h:5<=N/\N<=9):Pt s0 s1 s2 N st (en++[N - 1]) ws:=
 have h4:R<=N:=le_trans q.r4 (le_trans (by decide) h.1)
 ⟨sk,le_trans (by decide) h.1,le_trans h.2 (by decide),y9 q.st h4,sy q.en q.r4 (le_trans h.2 (by decide)) (Int.le_sub_right_of_add_le h.1) (Int.sub_lt_self N (by decide)),fun i m=>in4 (d0 (q.st.rooms i m) q.r4),q.len,fun w m=>qu (q.ok w m) q.r4,fun w m=>qu (q.ok w m) h4⟩
theorem PartsOk.wide2 (sk:SgOk s0 s1 s2) (q:PartsOk s0 s1 s2 R st en ws) (h:5<=N/\N<=9):Pt s0 s1 s2 N (st++[4]) en ws:=
 have h4:R<=N:=le_trans q.r4 (le_trans (by decide) h.1)
 ⟨sk,le_trans (by decide) h.1,le_trans h.2 (by decide),sy q.st q.r4 (le_trans h.2 (by decide)) (by decide) (Int.lt_of_lt_of_le (by decide) h.1),y9 q.en h4,fun i m=>(mem_append.mp m).elim (fun m=>in4 (d0 (q.st.rooms i m) q.r4)) fun m=>by
  obtain rfl:=zA6 m;unfold Rm; decide,q.len,fun w m=>qu (q.ok w m) q.r4,fun w m=>qu (q.ok w m) h4⟩
def wG (h:st.length<=40):opN (.bin .Add) [ag st,.list [.int i]]=some (ag (st++[i])):=by
 unfold ag;rw [map_append];exact nK (by rw [zB5,zA4]; exact zB1 (add_le_add_right h 1) (by decide))
end
noncomputable def w9:List V:=[.tuple [.int 5,.int 8],.tuple [.int 8,.int 5],.tuple [.int 6,.int 7],.tuple [.int 7,.int 6],.tuple [.int 5,.int 9],.tuple [.int 9,.int 5],.tuple [.int 6,.int 6],.tuple [.int 8,.int 6]]
noncomputable def zs8:List (Int×Int):=[(5,8),(8,5),(6,7),(7,6),(5,9),(9,5),(6,6),(8,6)]
def xL (m:Nat) (h:m < 8):∃ a b:Int,(5<=a/\a<=9)/\(5<=b/\b<=9)/\w9[m]?=some (.tuple [.int a,.int b]):=by
 have h:m < zs8.length:=h;have q:∀ x∈zs8,(5<=x.1/\x.1<=9)/\(5<=x.2/\x.2<=9):=by decide
 have q:=q _ (getElem_mem h);refine ⟨_,_,q.1,q.2,(?_:(zs8.map fun x=>PyData.tuple [.int x.1,.int x.2])[m]?=_)⟩;rw [getElem?_map,Q9 h]; rfl
def DG:(0:Int)<=0/\(0:Int) < ((2:Nat):Int)/\2<=am:=by decide
def DF:(0:Int)<=1/\(1:Int) < ((2:Nat):Int)/\2<=am:=by decide
def S42 (cf:ai):Prop:=∀ scr:List Int,scr.length<=63->∀ K:V->Prop,K (.bool true)->cf 42 [qr scr] K
def p42 (cf:ai) (A:All cf):S42 (step cf):=fun scr hs K h=>by
 refine run (fn:=f42) rfl rfl rfl ?_;have cell:∀ {G:Gs} {b:E} {i:Int},Val cf G (vv 0) (qr scr)->Val cf G b (.int i)->0<=i->Val cf G (.nd (.call 20) [vv 0,b]) (.int (bB scr i)):=fun ha hb hi=>au (.two ha hb) fun K h=>A.h20 scr _ K hs hi h;obtain ⟨s0,s1,s2,sk,h24⟩:=A.h24 (bB scr 0);refine af (v:=sg s0 s1 s2) (au (.one (cell ix ix (by decide))) h24) ?_;refine Aj (.cons ix (.cons ix (.two ix ix))) (A.h26 scr 1 s0 s1 s2 _ hs (by decide) sk fun R st en ws q=>⟨rfl,?_⟩);refine A.h26 scr 13 s0 s1 s2 _ hs (by decide) sk fun R' st' en' Ek q'=>⟨rfl,(by decide:2<=am),?_⟩;have Ks:∀ {R R' st st' en en' ws Ek} {z3 z4 z5:Slot},Pt s0 s1 s2 R st en ws->Pt s0 s1 s2 R' st' en' Ek->exs sup cf (f42.body.drop 3) (g42 scr s0 s1 s2 (.ownL [ba (sg s0 s1 s2) R st en ws,ba (sg s0 s1 s2) R' st' en' Ek]) z3 z4 z5 .unset .unset .unset .unset .unset .unset .unset .unset .unset) fun fl U=>K (fl.getD .none):=fun {R R' st st' en en' ws Ek z3 z4 z5} p p'=>
  cy (aA (.and (ae (aa (.two (cell (i:=25) ix ix (by decide)) ix) (cU (by decide))) ix pL) fun U=>.one (ae (x:=text s0) ix ix (uA fun c q=>sk.lowA q)))) (fun q=>DE A sk (nG (zA2 q).2) h) fun U=>cN (l:=[ba (sg s0 s1 s2) R st en ws,ba (sg s0 s1 s2) R' st' en' Ek]) rfl (Ch A hs p p' h)
 refine cy (ae (aa (.two (cell (i:=25) ix ix (by decide)) ix) (cU (by decide))) ix pL) (fun U=>?_) fun U=>Ks (q.pt sk) (q'.pt sk);obtain ⟨N,N',n1,n2,hN⟩:=xL _ (jd (cell:=(bB scr 25).fdiv 8) (n:=8) (by decide));refine af (v:=.list w9) ix ?_;refine kU (v:=.tuple [.int N,.int N']) (aa (.two (x:=.list w9) ix (aa (.two (aa (.two (cell (i:=25) ix ix (by decide)) ix) (nH (by decide) (by decide))) ix) (cU (by decide)))) (fS (by decide:8<=5000) (a7 _ (by decide)) hN)) rfl ?_;refine wd (l:=[ba (sg s0 s1 s2) R st en ws,ba (sg s0 s1 s2) R' st' en' Ek]) (i:=0) (v:=ba (sg s0 s1 s2) N st (en++[N - 1]) ws) rfl (aa (.cons ix (.cons ix (.cons ix (.two (aa (.two (x:=ag en) (y:=.list [.int (N - 1)]) ix ix) (wG q.en.len)) ix)))) rfl) ix DG ?_;refine wd (l:=[ba (sg s0 s1 s2) N st (en++[N - 1]) ws,ba (sg s0 s1 s2) R' st' en' Ek]) (i:=1) (v:=ba (sg s0 s1 s2) N' (st'++[4]) en' Ek) rfl (aa (.cons ix (.cons ix (.cons (aa (.two (x:=ag st') ix ix) (wG q'.st.len)) (.two ix ix)))) rfl) ix DF ?_;exact Ks (q.wide1 sk n1) (q'.wide2 sk n2)
def meths (cf:ai):MethOk (step cf):=⟨fun U U U U U U=>p15,fun U U U U U U=>p16,fun U U U U U U=>p17,fun U U U U U U=>p18,fun U U U U U U=>p19⟩
def Bz (scr:List Int) (hs:scr.length<=63):ao prog 8 42 [.list (scr.map .int)] fun y=>y=.bool true:=by
 have b:∀ n,S14 (ao prog (n+4)):=fun n=>p14 _ (p2 _ (p1 _ (p0 (ao prog n)))) (p10 (ao prog (n+2))) (p11 _ (p10 (ao prog (n+1)))) (p13 _ (p12 _ (p3 (ao prog n)) (p10 (ao prog n))));have A:All (ao prog 7):={
  me:=meths (ao prog 6)
  h9:=p9 _ (p3 (ao prog 5)) (p5 _ (p4 _ (p3 (ao prog 3)))) (p6 (ao prog 5)) (p7 (ao prog 5)) (p8 (ao prog 5)) (meths (ao prog 5))
  h20:=p20 (ao prog 6)
  h21:=p21 (ao prog 6)
  h24:=p24 _ (p23 (ao prog 5))
  h26:=p26 _ (p20 (ao prog 5)) (p21 (ao prog 5)) (p25 (ao prog 5))
  h27:=p27 _ (b 2)
  h29:=p29 _ (p28 (ao prog 5))
  h30:=p30 (ao prog 6)
  h37:=p37 _ (meths (ao prog 5))
  h38:=p38 _ (p22 (ao prog 5)) (p36 _ (meths (ao prog 4)) (p31 _ (meths (ao prog 3))) (p32 _ (b 0)) (p33 (ao prog 4)) (p34 (ao prog 4)) (p35 (ao prog 4)))
  h39:=p39 (ao prog 6)
  h40:=p40 (ao prog 6)
  h41:=p41 (ao prog 6) }
 exact p42 _ A scr hs _ rfl
end Mine.L08
end
noncomputable section
open PySem PySem.W PyProof.Rows
namespace Mine.L08
def said:PySem.Challenge.rw_uf010006_08.wellSaid=true:=by kernel_rfl
def law08:PySem.Challenge.rw_uf010006_08.Holds:=by
 w_on
 refine holds_law said fun said=>?_;refine holds_open (q:=vw) (loose:=[]) (Xt:=vwX) (XP:=XL vw []) (Yf:=Hook.obs qK) (Ya:=Hook.val qK) (YP:=Hook.says qK) (N:=6696) A1 (Hook.of qK) (Hook.keeps qK) (fun s e=>xl_of s (Bool.and_eq_true_iff.mp e).1) XL.keeps (by rfl) (by rfl) (by rfl) (fun s e=>recFacts_of (Bool.and_eq_true_iff.mp e).2) (by rfl) said (by decide +kernel) ⟨rfl,rfl,rfl,rfl,rfl,by decide +kernel⟩ ?hw ?hc
 case hw=>w_witness2
 intro w s₀ s₁ mg mb G Y fa o pm cd doc dV kV ho hd hcd hD hmg hg args vals as H7 hlay hrd Lr Fj;obtain ⟨K,KX,e,KN⟩:=Y;have c:=yV (g:=⟨PySem.Challenge.rw_uf010006_08.row.prog,w,s₁.heap,mg,mb,fun f=>fnA.getD f 0,mchA,K,fldN,s₁.os,prog,fun c=>clsA.getD c 0,8,safe,newf,fnN,clsN,conN⟩) KX e KN rfl rfl rfl rfl rfl rfl rfl rfl rfl rfl rfl G.T.g G.T.b G.T.nolimit G.T.builtins (fun o ho=>let ⟨C,O,_⟩:=G.T.own o ho; ⟨C,O⟩) (by decide +kernel) 8;have hm:some (Value.ref fa)=some (Value.ref 408):=hmg.symm.trans (c.1.fns "law" 42 rfl);cases hm
 exact vG (l:=PySem.Challenge.rw_uf010006_08) rfl rfl c.2 rfl rfl rfl hg (f:=42) (by decide) H7 Lr (fun scr hs=>Bz scr hs)
end Mine.L08
theorem PySem.Challenge.cw_uf010006_08_holds : PySem.Challenge.rw_uf010006_08.Holds :=
 Mine.L08.law08
end

import PyProof.Rows.All
import PySem.PyData
import PyProof.ExcAttrAll.ValueError
import OpenK.KDescr
import OpenK.KCls
import Open.Line
import OpenK.KWalk
import OpenK.KMore
import Wide.FinOn
import Wide.All
import Lean
import PySem.Challenge.RW_uf010006_01
set_option Elab.async false
set_option linter.all false
set_option genSizeOf false
noncomputable section
namespace Mine
open PySem (Str)

inductive V where
  | none
  | bool (b : Bool)
  | int (i : Int)
  | str (s : List Nat)
  | list (l : List V)
  | tuple (l : List V)
  | dict
  | exc (c : Nat)

inductive Slot where
  | unset
  | v (x : V)
  | ownL (l : List V)

structure St where
  G : List Slot

inductive BOp where | add | sub | mul | div | mod
inductive COp where | eq | ne | lt | gt | isn | inn | notin
inductive Ty where | str | tuple | own (c : Nat)
inductive Bi where
  | len | isinst (t : Ty) | listOf | tupleOf | lenSet | intOf
  | join | count
inductive Tgt where
  | one (k : Nat)
  | many (ks : List Nat)

mutual
inductive E where
  | lit (x : V)
  | var (k : Nat)
  | bor (k : Nat)
  | bin (op : BOp) (a b : E)
  | cmp (op : COp) (a b : E)
  | and (es : List E)
  | or (es : List E)
  | not (a : E)
  | ite (c a b : E)
  | tuple (es : List E)
  | list (es : List E)
  | dict0
  | sub (a i : E)
  | slice (a : E) (lo hi : Option E)
  | rev (a : E)
  | call (f : Nat) (es : List E)
  | bi (b : Bi) (es : List E)
  | met (b : Bi) (o : E) (es : List E)
  | comp (elt : E) (t : Tgt) (src : Src) (ifs : List E)
inductive Src where
  | e (x : E)
  | range (es : List E)
  | zip (es : List E)
end

inductive S where
  | assign (k : Nat) (e : E)
  | ownL (k : Nat) (es : List E)
  | append (k : Nat) (e : E)
  | setItem (k : Nat) (i e : E)
  | ret (e : E)
  | retOwn (k : Nat)
  | ownCall (k : Nat) (f : Nat) (es : List E)
  | ite (c : E) (a b : List S)
  | forS (t : Tgt) (src : Src) (body : List S)
  | raise (c : Nat) (msg : List Nat)
  | tryS (body : List S) (c : Nat) (k : Nat) (h : List S)

inductive Fl where
  | next
  | ret (x : Slot)

noncomputable abbrev R (α : Type) := Option (Except Nat α × St)
noncomputable abbrev M (α : Type) := St → R α
noncomputable abbrev M.pure {α} (a : α) : M α := fun s => some (.ok a, s)
noncomputable abbrev M.bind {α β} (m : M α) (f : α → M β) : M β := fun s => match m s with
  | none => none
  | some (.error x, s') => some (.error x, s')
  | some (.ok a, s') => f a s'
noncomputable def M.stuck {α} : M α := fun _ => none
noncomputable def M.ofOpt {α} : Option α → M α
  | some a => M.pure a
  | none => M.stuck
noncomputable def M.noErr {α} (m : M α) : M α := fun s => match m s with
  | some (.ok a, s') => some (.ok a, s')
  | _ => none
noncomputable def M.unless {α} (b : Bool) (m : M α) : M α := if b then M.stuck else m

end Mine
end

noncomputable section
namespace Mine
open PySem (Str)

mutual
noncomputable def eqV : V → V → Bool
  | .none, .none => true
  | .bool a, .bool b => a == b
  | .bool a, .int j => (if a then 1 else 0) == j
  | .int i, .bool b => i == (if b then 1 else 0)
  | .int i, .int j => i == j
  | .str x, .str y => x == y
  | .list xs, .list ys => eqVs xs ys
  | .tuple xs, .tuple ys => eqVs xs ys
  | _, _ => false
noncomputable def eqVs : List V → List V → Bool
  | [], [] => true
  | x :: xs, y :: ys => eqV x y && eqVs xs ys
  | _, _ => false
end
mutual
noncomputable def dataV : V → Bool
  | .none | .bool _ | .int _ => true
  | .str s => s.all (· < 0x110000)
  | .list l | .tuple l => dataVs l
  | _ => false
noncomputable def dataVs : List V → Bool
  | [] => true
  | x :: xs => dataV x && dataVs xs
end
mutual
noncomputable def depthV : V → Nat
  | .list l | .tuple l => depthVs l + 1
  | _ => 0
noncomputable def depthVs : List V → Nat
  | [] => 0
  | x :: xs => max (depthV x) (depthVs xs)
end
noncomputable def okEq (v : V) : Bool := dataV v && decide (depthV v ≤ 64)
noncomputable def truthV : V → Option Bool
  | .bool b => some b
  | _ => none
noncomputable def szLine : Nat := 2 ^ 20
noncomputable def sliceEnd : Option Int → Nat → Nat → Nat
  | none, d, _ => d
  | some i, _, n => min i.toNat n
noncomputable def sliceL {α} (l : List α) (lo hi : Option Int) : List α := (l.drop (sliceEnd lo 0 l.length)).take (sliceEnd hi l.length l.length - sliceEnd lo 0 l.length)
noncomputable def asIntV : V → Option Int
  | .int i => some i
  | _ => none
noncomputable def int2 {α : Type} (f : Int → Int → Option α) : V → V → Option α
  | .int a, y => (match y with | .int b => f a b | _ => none)
  | _, _ => none
noncomputable def addO : V → V → Option V
  | .int a, y => (match y with | .int b => some (.int (a + b)) | _ => none)
  | .str a, y => (match y with | .str b => if a.length + b.length ≤ szLine then some (.str (a ++ b)) else none | _ => none)
  | .list a, y => (match y with | .list b => if a.length + b.length ≤ szLine then some (.list (a ++ b)) else none | _ => none)
  | _, _ => none
noncomputable def binOp : BOp → V → V → Option V
  | .add, x, y => addO x y
  | .sub, x, y => int2 (fun a b => some (.int (a - b))) x y
  | .mul, x, y => int2 (fun a b => if b.natAbs ≤ 1000000 ∨ a.natAbs ≤ 1000000 then some (.int (a * b)) else none) x y
  | .div, x, y => int2 (fun a b => if b = 0 ∨ 1000000 < b.natAbs then none else some (.int (a.fdiv b))) x y
  | .mod, x, y => int2 (fun a b => if b = 0 then none else some (.int (a.fmod b))) x y
noncomputable def eqO (a b : V) : Option Bool := if (okEq a && okEq b) = true then some (eqV a b) else none
noncomputable def isNone : V → Bool
  | .none => true
  | _ => false
noncomputable def isN (a b : V) : Option Bool := if isNone b = true then some (isNone a) else none
noncomputable def inO (a : V) : V → Option Bool
  | .str t => (match a with | .str s => (match s with | [c] => some (t.elem c) | _ => none) | _ => none)
  | _ => none
noncomputable def cmpOp : COp → V → V → Option Bool
  | .eq, x, y => eqO x y
  | .ne, x, y => (eqO x y).map (!·)
  | .lt, x, y => int2 (fun a b => some (decide (a < b))) x y
  | .gt, x, y => int2 (fun a b => some (decide (b < a))) x y
  | .isn, x, y => isN x y
  | .inn, x, y => inO x y
  | .notin, x, y => (inO x y).map (!·)
noncomputable def charsV (s : List Nat) : List V := s.map fun c => .str [c]
noncomputable def rangeL (a b : Int) : List V := (List.range (b - a).toNat).map fun (i : Nat) => .int (a + i)
noncomputable def natO {α : Type} (f : Nat → Option α) : Int → Option α
  | .ofNat n => if Nat.ble n 9223372036854775807 = true then f n else none
  | .negSucc _ => none
noncomputable def ixO {α : Type} (f : Nat → Option α) : V → Option α
  | .int i => natO f i
  | _ => none
noncomputable def itemAt : V → Nat → Option V
  | .list l, n => l[n]?
  | .tuple l, n => l[n]?
  | .str s, n => (s[n]?).map fun c => .str [c]
  | _, _ => none
noncomputable def subOp (x y : V) : Option V := ixO (itemAt x) y
noncomputable def posO : V → Option Int
  | .int i => if 0 ≤ i then some i else none
  | _ => none
noncomputable def optIx : Option V → Option (Option Int)
  | none => some none
  | some x => (posO x).map some
noncomputable def partOf (i j : Option Int) : V → Option V
  | .list l => if l.length ≤ szLine ∧ sliceEnd i 0 l.length ≤ sliceEnd j l.length l.length then some (.list (sliceL l i j)) else none
  | .str s => if s.length ≤ szLine ∧ sliceEnd i 0 s.length ≤ sliceEnd j s.length s.length then some (.str (sliceL s i j)) else none
  | _ => none
noncomputable def sliceOp (a : V) (lo hi : Option V) : Option V := (optIx lo).bind fun i => (optIx hi).bind fun j => partOf i j a
noncomputable def revOp : V → Option V
  | .str s => if s.length ≤ szLine then some (.str s.reverse) else none
  | _ => none

structure Cls where
  ups : List Nat
structure Fn where
  npar : Nat
  nslots : Nat
  body : List S
structure Prog where
  fns : List Fn
  clss : List Cls

noncomputable def matchesX (P : Prog) (x c : Nat) : Bool := x == c || ((P.clss[x]?).map (·.ups.contains c)).getD false
noncomputable def isT (k : Nat) : V → Option Bool
  | .none => some (k == 0)
  | .bool _ => some (k == 1 || k == 2)
  | .int _ => some (k == 2)
  | .str _ => some (k == 3)
  | .list _ => some (k == 4)
  | .tuple _ => some (k == 5)
  | .dict => some (k == 6)
  | .exc _ => none
noncomputable def isInst (P : Prog) : Ty → V → Option Bool
  | .own c, x => (match x with | .exc d => if d < P.clss.length ∧ c ≤ P.clss.length then some (matchesX P d c) else none | _ => none)
  | .str, x => isT 3 x
  | .tuple, x => isT 5 x
noncomputable def strL : V → Option (List Nat)
  | .str s => some s
  | _ => none
noncomputable def strsL : List V → Option (List (List Nat))
  | [] => some []
  | .str s :: r => (strsL r).map (s :: ·)
  | _ => none
noncomputable def joinL (sep : List Nat) : List (List Nat) → List Nat
  | [] => []
  | [x] => x
  | x :: r => x ++ sep ++ joinL sep r
noncomputable def seqV : V → Option (List V)
  | .list l => if l.length ≤ szLine then some l else none
  | .tuple l => if l.length ≤ szLine then some l else none
  | .str s => if s.length ≤ szLine then some (charsV s) else none
  | _ => none
noncomputable def boolsL : List V → Option (List Bool)
  | [] => some []
  | .bool b :: r => (boolsL r).map (b :: ·)
  | _ => none
noncomputable def dedupN : List Nat → List Nat
  | [] => []
  | x :: r => x :: (dedupN r).filter (· != x)
noncomputable def one {β : Type} (f : V → Option β) : List V → Option β
  | [a] => f a
  | _ => none
noncomputable def two {β : Type} (f : V → V → Option β) : List V → Option β
  | [a, b] => f a b
  | _ => none
noncomputable def listO (hm : Bool) : V → Option V
  | .list l => (seqV (.list l)).map .list
  | .tuple l => (seqV (.tuple l)).map .list
  | .str s => if hm = true then none else (seqV (.str s)).map .list
  | _ => none
noncomputable def tupO : V → Option V
  | .list l => (seqV (.list l)).map .tuple
  | .tuple l => (seqV (.tuple l)).map .tuple
  | _ => none
noncomputable def setO (hm : Bool) : V → Option V
  | .str s => if hm = false ∧ s.length < 4000 then some (.int (dedupN s).length) else none
  | _ => none
noncomputable def intO : V → Option V
  | .bool b => some (.int (if b then 1 else 0))
  | _ => none
noncomputable def joinO : V → V → Option V
  | .str sep, y => (match y with | .list l => (strsL l).bind fun ss => if (ss.map List.length).sum + ss.length * sep.length ≤ szLine then some (.str (joinL sep ss)) else none | _ => none)
  | _, _ => none
noncomputable def countO : V → V → Option V
  | .list l, y => (match y with | .bool b => (boolsL l).map fun bs => .int (bs.count b) | _ => none)
  | _, _ => none
noncomputable def biOp (P : Prog) (hm : Bool) : Bi → List V → Option V
  | .len, xs => one (fun a => (seqV a).map fun l => .int l.length) xs
  | .isinst t, xs => one (fun a => (isInst P t a).map .bool) xs
  | .listOf, xs => one (listO hm) xs
  | .tupleOf, xs => one tupO xs
  | .lenSet, xs => one (setO hm) xs
  | .intOf, xs => one intO xs
  | .join, xs => two joinO xs
  | .count, xs => two countO xs
noncomputable def isStr : V → Bool
  | .str _ => true
  | _ => false
noncomputable def isList : V → Bool
  | .list _ => true
  | _ => false
noncomputable def recvOk : Bi → V → Option Unit
  | .join, x => if isStr x = true then some () else none
  | .count, x => if isList x = true then some () else none
  | _, _ => none
noncomputable def getSlot (k : Nat) (s : St) : Slot := s.G.getD k .unset
noncomputable def setSlot (k : Nat) (x : Slot) (s : St) : St := { s with G := s.G.set k x }
noncomputable def readVar (k : Nat) : M V := fun s => match getSlot k s with
  | .unset => none
  | .v x => some (.ok x, s)
  | .ownL l => some (.ok (.list l), setSlot k (.v (.list l)) s)
noncomputable def borVar (k : Nat) : M V := fun s => match getSlot k s with
  | .unset => none
  | .v x => some (.ok x, s)
  | .ownL l => some (.ok (.list l), s)
noncomputable def storeVar (k : Nat) (x : V) : M Unit := fun s => some (.ok (), setSlot k (.v x) s)
noncomputable def storeSlot (k : Nat) (x : Slot) : M Unit := fun s => some (.ok (), setSlot k x s)
noncomputable def storeMany : List Nat → List V → M Unit
  | [], [] => M.pure ()
  | k :: ks, x :: xs => M.bind (storeVar k x) fun _ => storeMany ks xs
  | _, _ => M.stuck
noncomputable def storeTgt : Tgt → V → M Unit
  | .one k, x => storeVar k x
  | .many ks, .tuple xs => storeMany ks xs
  | .many _, _ => M.stuck
noncomputable def clearSlots : List Nat → M Unit
  | [] => M.pure ()
  | k :: ks => M.bind (storeSlot k .unset) fun _ => clearSlots ks
noncomputable def Tgt.slots : Tgt → List Nat
  | .one k => [k]
  | .many ks => ks

noncomputable abbrev CallF := Bool → Nat → List V → Option (Except Nat Slot)
noncomputable def callS (cf : CallF) (hm : Bool) (f : Nat) (args : List V) : M Slot := fun s => (cf hm f args).map fun r => (r, s)
noncomputable def Slot.val : Slot → Option V
  | .unset => none
  | .v x => some x
  | .ownL l => some (.list l)
noncomputable def callM (cf : CallF) (hm : Bool) (f : Nat) (args : List V) : M V := M.bind (callS cf hm f args) fun sl => M.ofOpt sl.val

noncomputable def zipL : List V → List V → List V
  | a :: r, b :: q => .tuple [a, b] :: zipL r q
  | _, _ => []

noncomputable def compL (elt : M V) (test : M Bool) (t : Tgt) : List V → M (List V)
  | [] => M.pure []
  | x :: xs => M.bind (storeTgt t x) fun _ => M.bind test fun ok =>
      if ok then M.bind elt fun y => M.bind (compL elt test t xs) fun ys => M.pure (y :: ys)
      else compL elt test t xs
noncomputable def srcOk (xs : List V) : M (List V) := if xs.length ≤ szLine then M.pure xs else M.stuck

noncomputable def rOk (i : Int) : Bool := Nat.ble i.natAbs 4611686018427387903
theorem rOk_of {i : Int} (h : rOk i = true) : -(2 ^ 62) ≤ i ∧ i < 2 ^ 62 := by
  have := Nat.le_of_ble_eq_true h
  omega
noncomputable def rangeO (a b : Int) : Option (List V) := if rOk a = true ∧ rOk b = true ∧ (b - a).toNat ≤ szLine then some (rangeL a b) else none
noncomputable def pairO : V → Option (List V)
  | .list l => if l.length ≤ szLine then some l else none
  | .tuple l => if l.length ≤ szLine then some l else none
  | _ => none
noncomputable def zipO : List V → Option (List V)
  | [x, y] => (pairO x).bind fun l => (pairO y).map fun r => zipL l r
  | _ => none
mutual
noncomputable def ev (P : Prog) (cf : CallF) (hm : Bool) : E → M V
  | .lit x => M.pure x
  | .var k => readVar k
  | .bor k => borVar k
  | .bin op a b => M.bind (ev P cf hm a) fun x => M.bind (ev P cf hm b) fun y => M.ofOpt (binOp op x y)
  | .cmp op a b => M.bind (ev P cf hm a) fun x => M.bind (ev P cf hm b) fun y => M.ofOpt ((cmpOp op x y).map .bool)
  | .and es => evAnd P cf hm es
  | .or es => evOr P cf hm es
  | .not a => M.bind (ev P cf hm a) fun x => M.bind (M.ofOpt (truthV x)) fun t => M.pure (.bool (!t))
  | .ite c a b => M.bind (evB P cf hm c (ev P cf hm c)) fun t => if t then ev P cf hm a else ev P cf hm b
  | .tuple es => M.bind (evs P cf hm es) fun xs => M.ofOpt (if xs.length ≤ szLine then some (.tuple xs) else none)
  | .list es => M.bind (evs P cf hm es) fun xs => M.ofOpt (if xs.length ≤ szLine then some (.list xs) else none)
  | .dict0 => M.pure .dict
  | .sub a i => M.bind (ev P cf hm a) fun x => M.bind (ev P cf hm i) fun y => M.ofOpt (subOp x y)
  | .slice a lo hi => M.bind (ev P cf hm a) fun x => M.bind (evO P cf hm lo) fun l => M.bind (evO P cf hm hi) fun h => M.ofOpt (sliceOp x l h)
  | .rev a => M.bind (ev P cf hm a) fun x => M.ofOpt (revOp x)
  | .call f es => M.bind (evs P cf hm es) fun xs => callM cf hm f xs
  | .bi b es => M.bind (evs P cf hm es) fun xs => M.ofOpt (biOp P hm b xs)
  | .met b o es => M.bind (ev P cf hm o) fun x => M.bind (M.ofOpt (recvOk b x)) fun _ => M.bind (evs P cf hm es) fun ys => M.ofOpt (biOp P hm b (x :: ys))
  | .comp elt t src ifs => M.unless hm (M.bind (evSrc P cf hm src) fun xs => M.bind (compL (M.noErr (ev P cf hm elt)) (M.noErr (evIfs P cf hm ifs)) t xs) fun ys => M.bind (clearSlots t.slots) fun _ => M.pure (.list ys))
noncomputable def evB (P : Prog) (cf : CallF) (hm : Bool) : E → M V → M Bool
  | .not a, _ => M.bind (evB P cf hm a (ev P cf hm a)) fun t => M.pure (!t)
  | .and es, _ => evIfs P cf hm es
  | .or es, _ => evAny P cf hm es
  | .ite c a b, _ => M.bind (evB P cf hm c (ev P cf hm c)) fun t => if t then evB P cf hm a (ev P cf hm a) else evB P cf hm b (ev P cf hm b)
  | _, whole => M.bind whole fun x => M.ofOpt (truthV x)
noncomputable def evs (P : Prog) (cf : CallF) (hm : Bool) : List E → M (List V)
  | [] => M.pure []
  | e :: es => M.bind (ev P cf hm e) fun x => M.bind (evs P cf hm es) fun xs => M.pure (x :: xs)
noncomputable def evO (P : Prog) (cf : CallF) (hm : Bool) : Option E → M (Option V)
  | none => M.pure none
  | some e => M.bind (ev P cf hm e) fun x => M.pure (some x)
noncomputable def evSrc (P : Prog) (cf : CallF) (hm : Bool) : Src → M (List V)
  | .e x => M.bind (ev P cf hm x) fun v => M.ofOpt (seqV v)
  | .range es => M.bind (evs P cf hm es) fun xs => match xs with
    | [.int b] => M.ofOpt (rangeO 0 b)
    | [.int a, .int b] => M.ofOpt (rangeO a b)
    | _ => M.stuck
  | .zip es => M.bind (evs P cf hm es) fun xs => M.ofOpt (zipO xs)
noncomputable def evIfs (P : Prog) (cf : CallF) (hm : Bool) : List E → M Bool
  | [] => M.pure true
  | e :: es => M.bind (evB P cf hm e (ev P cf hm e)) fun t => if t then evIfs P cf hm es else M.pure false
noncomputable def evAny (P : Prog) (cf : CallF) (hm : Bool) : List E → M Bool
  | [] => M.pure false
  | e :: es => M.bind (evB P cf hm e (ev P cf hm e)) fun t => if t then M.pure true else evAny P cf hm es
noncomputable def evAnd (P : Prog) (cf : CallF) (hm : Bool) : List E → M V
  | [] => M.stuck
  | [e] => ev P cf hm e
  | e :: es => M.bind (ev P cf hm e) fun x => M.bind (M.ofOpt (truthV x)) fun t => if t then evAnd P cf hm es else M.pure x
noncomputable def evOr (P : Prog) (cf : CallF) (hm : Bool) : List E → M V
  | [] => M.stuck
  | [e] => ev P cf hm e
  | e :: es => M.bind (ev P cf hm e) fun x => M.bind (M.ofOpt (truthV x)) fun t => if t then M.pure x else evOr P cf hm es
end

noncomputable def forL (body : M Fl) (t : Tgt) : List V → M Fl
  | [] => M.pure .next
  | x :: xs => M.bind (storeTgt t x) fun _ => M.bind body fun fl => match fl with
    | .next => forL body t xs
    | .ret y => M.pure (.ret y)
noncomputable def needL (k : Nat) : M Unit := fun s => match getSlot k s with
  | .ownL _ => some (.ok (), s)
  | _ => none
noncomputable def appendVar (k : Nat) (x : V) : M Unit := fun s => match getSlot k s with
  | .ownL l => if l.length < szLine then some (.ok (), setSlot k (.ownL (l ++ [x])) s) else none
  | _ => none
noncomputable def setItemVar (k : Nat) (i x : V) : M Unit := fun s => match getSlot k s, i with
  | .ownL l, .int j => if 0 ≤ j ∧ j < l.length ∧ l.length ≤ szLine then some (.ok (), setSlot k (.ownL (l.set j.toNat x)) s) else none
  | _, _ => none
noncomputable def dataFl : Fl → Bool
  | .ret (.v x) => dataV x
  | _ => false
noncomputable def tryM (P : Prog) (body : M Fl) (c k : Nat) (h : M Fl) : M Fl := fun s => match body s with
  | none => none
  | some (.error x, s') => if matchesX P x c = true ∧ x < P.clss.length then (M.bind (storeVar k (.exc x)) fun _ => M.bind (M.noErr h) fun fl => if dataFl fl then M.bind (storeSlot k .unset) fun _ => M.pure fl else M.stuck) s' else none
  | some (.ok fl, s') => some (.ok fl, s')
noncomputable def retOwn (k : Nat) : M Fl := fun s => match getSlot k s with
  | .unset => none
  | sl => some (.ok (.ret sl), s)

mutual
noncomputable def ex (P : Prog) (cf : CallF) (hm : Bool) : S → M Fl
  | .assign k e => M.bind (ev P cf hm e) fun x => M.bind (storeVar k x) fun _ => M.pure .next
  | .ownL k es => M.bind (evs P cf hm es) fun xs => M.bind (if xs.length ≤ szLine then storeSlot k (.ownL xs) else M.stuck) fun _ => M.pure .next
  | .append k e => M.bind (needL k) fun _ => M.bind (ev P cf hm e) fun x => M.bind (appendVar k x) fun _ => M.pure .next
  | .setItem k i e => M.bind (ev P cf hm e) fun x => M.bind (needL k) fun _ => M.bind (ev P cf hm i) fun j => M.bind (setItemVar k j x) fun _ => M.pure .next
  | .ret e => M.bind (ev P cf hm e) fun x => M.pure (.ret (.v x))
  | .retOwn k => retOwn k
  | .ownCall k f es => M.bind (evs P cf hm es) fun xs => M.bind (callS cf hm f xs) fun sl => M.bind (storeSlot k sl) fun _ => M.pure .next
  | .ite c a b => M.bind (evB P cf hm c (ev P cf hm c)) fun t => if t then exs P cf hm a else exs P cf hm b
  | .forS t src body => M.unless hm (M.bind (evSrc P cf hm src) fun xs => forL (M.noErr (exs P cf hm body)) t xs)
  | .raise c _ => M.unless hm (fun s => some (.error c, s))
  | .tryS body c k h => M.unless hm (tryM P (exs P cf false body) c k (exs P cf true h))
noncomputable def exs (P : Prog) (cf : CallF) (hm : Bool) : List S → M Fl
  | [] => M.pure .next
  | s :: r => M.bind (ex P cf hm s) fun fl => match fl with
    | .next => exs P cf hm r
    | .ret y => M.pure (.ret y)
end

noncomputable def frame0 (fn : Fn) (args : List Slot) : List Slot := args ++ List.replicate (fn.nslots - fn.npar) .unset
noncomputable def outF : R Fl → Option (Except Nat Slot)
  | none => none
  | some (.error x, _) => some (.error x)
  | some (.ok .next, _) => some (.ok (.v .none))
  | some (.ok (.ret y), _) => some (.ok y)
noncomputable def callN (P : Prog) : Nat → CallF
  | 0 => fun _ _ _ => none
  | d + 1 => fun hm f args => (P.fns[f]?).bind fun fn => if args.length = fn.npar then outF (exs P (callN P d) hm fn.body ⟨frame0 fn (args.map .v)⟩) else none
end Mine
end

noncomputable section
set_option maxRecDepth 100000
namespace Mine
open PySem PySem.Calls PyProof.Rows PySem.W

noncomputable def Kept (h' : Heap) (b : Addr) (o : Obj) : Prop := (∃ sl, h'.get? b = some { o with slots := sl }) ∧ (o.cls ≠ .type "frame" → h'.get? b = some o)
noncomputable def KeepBut (own : Addr → Prop) (h h' : Heap) : Prop := ∀ b o, h.get? b = some o → ¬ own b → Kept h' b o
noncomputable def KeepX (h h' : Heap) : Prop := ∀ b o, h.get? b = some o → Kept h' b o
theorem Kept.of_eq {h' : Heap} {b : Addr} {o : Obj} (e : h'.get? b = some o) : Kept h' b o := ⟨⟨o.slots, e⟩, fun _ => e⟩
theorem KeepX.of_keeps {h h' : Heap} (k : ∀ b o, h.get? b = some o → h'.get? b = some o) : KeepX h h' := fun b o e => .of_eq (k b o e)
theorem KeepX.refl (h : Heap) : KeepX h h := .of_keeps fun _ _ e => e
theorem Kept.trans {h₁ h₂ : Heap} {b : Addr} {o : Obj} (x : Kept h₁ b o) (y : ∀ o', h₁.get? b = some o' → Kept h₂ b o') : Kept h₂ b o := by
  obtain ⟨⟨sl, e⟩, f⟩ := x
  refine ⟨?_, fun hc => ?_⟩
  · obtain ⟨⟨sl', e'⟩, _⟩ := y _ e; exact ⟨sl', e'⟩
  · exact (y _ (f hc)).2 hc
theorem KeepX.trans {h₁ h₂ h₃ : Heap} (x : KeepX h₁ h₂) (y : KeepX h₂ h₃) : KeepX h₁ h₃ := fun b o e => (x b o e).trans fun o' e' => y b o' e'
theorem KeepX.but {own : Addr → Prop} {h h' : Heap} (x : KeepX h h') : KeepBut own h h' := fun b o e _ => x b o e
theorem KeepBut.trans {own own' : Addr → Prop} {h₁ h₂ h₃ : Heap} (x : KeepBut own h₁ h₂) (y : KeepBut own' h₂ h₃) (s : ∀ b o, h₁.get? b = some o → own' b → own b) : KeepBut own h₁ h₃ :=
  fun b o e n => (x b o e n).trans fun o' e' => y b o' e' fun q => n (s b o e q)
theorem Kept.lt {h' : Heap} {b : Addr} {o : Obj} (x : Kept h' b o) : b < h'.objs.size := by obtain ⟨⟨_, e⟩, _⟩ := x; exact Heap.lt_size e

structure Gl where
  prog : Program
  w : World
  h0 : Heap
  mg : Str → Option Value
  mb : Str → Option Value
  fn : Nat → Addr
  cls : Nat → Addr
  os : OsState

mutual
inductive Rp (g : Gl) (hm : Bool) (bad : Addr → Prop) (h : Heap) : Bool → Value → V → Prop
  | none {wk : Bool} : Rp g hm bad h wk .none .none
  | bool {wk : Bool} (b : Bool) : Rp g hm bad h wk (.bool b) (.bool b)
  | int {wk : Bool} (i : Int) (t : Tok) : Rp g hm bad h wk (.int i t) (.int i)
  | str {wk : Bool} {x : Str} {l : List Nat} (t : Tok) : x.cps.toList = l → Rp g hm bad h wk (.str x t) (.str l)
  | list {wk : Bool} {a : Addr} {o : Obj} {vs : Array Value} {n : Nat} {l : List V} : (wk = true ∨ ¬ bad a) ∧ o.dict = none → h.get? a = some o → o.cls = .type "list" → o.data = .seq vs n → RpAll g hm bad h vs.toList l → Rp g hm bad h wk (.ref a) (.list l)
  | tuple {wk : Bool} {a : Addr} {o : Obj} {vs : Array Value} {n : Nat} {l : List V} : ¬ bad a → h.get? a = some o → o.cls = .type "tuple" → o.data = .seq vs n → RpAll g hm bad h vs.toList l → Rp g hm bad h wk (.ref a) (.tuple l)
  | dict0 {wk : Bool} {a : Addr} {o : Obj} {n : Nat} : (wk = true ∨ ¬ bad a) → h.get? a = some o → o.cls = .type "dict" → o.data = .dict #[] n → Rp g hm bad h wk (.ref a) .dict
  | exc {wk : Bool} {a : Addr} {o : Obj} {c : Nat} : hm = true → ¬ bad a → h.get? a = some o → o.cls = .ref (g.cls c) → o.dict = none → (∃ vs, o.data = .fields vs) → Rp g hm bad h wk (.ref a) (.exc c)
inductive RpAll (g : Gl) (hm : Bool) (bad : Addr → Prop) (h : Heap) : List Value → List V → Prop
  | nil : RpAll g hm bad h [] []
  | cons {v : Value} {vs : List Value} {x : V} {l : List V} : Rp g hm bad h false v x → RpAll g hm bad h vs l → RpAll g hm bad h (v :: vs) (x :: l)
end

section
variable {g : Gl} {hm hm' : Bool} {bad bad' : Addr → Prop} {h h' : Heap}

noncomputable def Plain (o : Obj) : Prop := o.cls ≠ .type "frame" ∧ ∀ vs, o.data ≠ .fields vs
theorem plain_seq {o : Obj} {vs : Array Value} {n : Nat} (hc : o.cls = .type "list" ∨ o.cls = .type "tuple") (hd : o.data = .seq vs n) : Plain o :=
  ⟨by rcases hc with e | e <;> rw [e] <;> decide, fun ws q => by rw [hd] at q; cases q⟩
theorem plain_dict {o : Obj} {n : Nat} (hc : o.cls = .type "dict") (hd : o.data = .dict #[] n) : Plain o :=
  ⟨by rw [hc]; decide, fun ws q => by rw [hd] at q; cases q⟩
noncomputable def MapK (bad bad' : Addr → Prop) (h h' : Heap) : Prop := ∀ a o, h.get? a = some o → ¬ bad a → Plain o → ¬ bad' a ∧ h'.get? a = some o
noncomputable def MapW (wk : Bool) (h h' : Heap) : Prop := wk = true → ∀ a o, h.get? a = some o → Plain o → h'.get? a = some o
noncomputable def MapX (g : Gl) (hm hm' : Bool) (bad bad' : Addr → Prop) (h h' : Heap) : Prop := hm = true → ∀ a o c, h.get? a = some o → ¬ bad a → o.cls = .ref (g.cls c) → hm' = true ∧ ¬ bad' a ∧ h'.get? a = some o
theorem map_at {wk : Bool} {a : Addr} {o : Obj} (k : MapK bad bad' h h') (kw : MapW wk h h') (hb : wk = true ∨ ¬ bad a) (ha : h.get? a = some o) (hp : Plain o) : (wk = true ∨ ¬ bad' a) ∧ h'.get? a = some o := by
  cases hb with
  | inl q => exact ⟨.inl q, kw q a o ha hp⟩
  | inr q => exact ⟨.inr (k a o ha q hp).1, (k a o ha q hp).2⟩
theorem mapW_no : MapW false h h' := fun q => nomatch q
section
variable {wk : Bool} {v : Value} {x : V} {vs : List Value} {l : List V}
theorem Rp.map (k : MapK bad bad' h h') (kx : MapX g hm hm' bad bad' h h') (r : Rp g hm bad h wk v x) : MapW wk h h' → Rp g hm' bad' h' wk v x := by
  refine Rp.rec (motive_1 := fun wk v x _ => MapW wk h h' → Rp g hm' bad' h' wk v x) (motive_2 := fun vs l _ => RpAll g hm' bad' h' vs l) ?_ ?_ ?_ ?_ ?_ ?_ ?_ ?_ ?_ ?_ r
  · exact fun _ => .none
  · exact fun b _ => .bool b
  · exact fun i t _ => .int i t
  · exact fun t e _ => .str t e
  · exact fun hb ha hc hd _ ih kw => .list ⟨(map_at k kw hb.1 ha (plain_seq (.inl hc) hd)).1, hb.2⟩ (map_at k kw hb.1 ha (plain_seq (.inl hc) hd)).2 hc hd ih
  · exact fun hb ha hc hd _ ih kw => .tuple (k _ _ ha hb (plain_seq (.inr hc) hd)).1 (k _ _ ha hb (plain_seq (.inr hc) hd)).2 hc hd ih
  · exact fun hb ha hc hd kw => .dict0 (map_at k kw hb ha (plain_dict hc hd)).1 (map_at k kw hb ha (plain_dict hc hd)).2 hc hd
  · exact fun hh hb ha hc hx hy kw => .exc (kx hh _ _ _ ha hb hc).1 (kx hh _ _ _ ha hb hc).2.1 (kx hh _ _ _ ha hb hc).2.2 hc hx hy
  · exact .nil
  · exact fun _ _ i1 i2 => .cons (i1 mapW_no) i2
theorem RpAll.ind {D : List Value → List V → Prop} (r : RpAll g hm bad h vs l) (n : D [] []) (c : ∀ v vs x l, Rp g hm bad h false v x → RpAll g hm bad h vs l → D vs l → D (v :: vs) (x :: l)) : D vs l :=
  RpAll.rec (motive_1 := fun _ _ _ _ => True) (motive_2 := fun vs l _ => D vs l) trivial (fun _ => trivial) (fun _ _ => trivial) (fun _ _ => trivial) (fun _ _ _ _ _ _ => trivial) (fun _ _ _ _ _ _ => trivial) (fun _ _ _ _ => trivial) (fun _ _ _ _ _ _ => trivial) n (fun r rs _ i => c _ _ _ _ r rs i) r
theorem RpAll.map (k : MapK bad bad' h h') (kx : MapX g hm hm' bad bad' h h') (r : RpAll g hm bad h vs l) : RpAll g hm' bad' h' vs l :=
  r.ind .nil fun _ _ _ _ r _ i => .cons (r.map k kx mapW_no) i
theorem mapK_keep (k : KeepBut bad h h') : MapK bad bad h h' := fun a o e n p => ⟨n, (k a o e n).2 p.1⟩
theorem mapX_keep (k : KeepBut bad h h') : MapX g hm hm bad bad h h' := fun q a o c e n hc => ⟨q, n, (k a o e n).2 (by rw [hc]; intro q; cases q)⟩
theorem Rp.keep (k : KeepBut bad h h') (r : Rp g hm bad h wk v x) (w : wk = true → KeepX h h') : Rp g hm bad h' wk v x :=
  r.map (mapK_keep k) (mapX_keep k) fun q a o e p => (w q a o e).2 p.1
theorem RpAll.keep (k : KeepBut bad h h') (r : RpAll g hm bad h vs l) : RpAll g hm bad h' vs l := r.map (mapK_keep k) (mapX_keep k)
theorem Rp.keepX (r : Rp g hm bad h wk v x) (k : KeepX h h') : Rp g hm bad h' wk v x := r.keep k.but fun _ => k
theorem RpAll.keepX (r : RpAll g hm bad h vs l) (k : KeepX h h') : RpAll g hm bad h' vs l := r.keep k.but
theorem mapK_antiF (s : ∀ a o, h.get? a = some o → o.cls ≠ .type "frame" → bad' a → bad a) : MapK bad bad' h h := fun a o e n p => ⟨fun q => n (s a o e p.1 q), e⟩
theorem mapX_antiF (s : ∀ a o, h.get? a = some o → o.cls ≠ .type "frame" → bad' a → bad a) : MapX g hm hm bad bad' h h := fun q a o c e n hc => ⟨q, fun b => n (s a o e (by rw [hc]; intro q; cases q) b), e⟩
theorem mapW_same : MapW wk h h := fun _ _ _ e _ => e
theorem Rp.antiF (s : ∀ a o, h.get? a = some o → o.cls ≠ .type "frame" → bad' a → bad a) (r : Rp g hm bad h wk v x) : Rp g hm bad' h wk v x := r.map (mapK_antiF s) (mapX_antiF s) mapW_same
theorem RpAll.antiF (s : ∀ a o, h.get? a = some o → o.cls ≠ .type "frame" → bad' a → bad a) (r : RpAll g hm bad h vs l) : RpAll g hm bad' h vs l := r.map (mapK_antiF s) (mapX_antiF s)
theorem Rp.anti (s : ∀ a o, h.get? a = some o → bad' a → bad a) (r : Rp g hm bad h wk v x) : Rp g hm bad' h wk v x := r.antiF fun a o e _ => s a o e
theorem RpAll.anti (s : ∀ a o, h.get? a = some o → bad' a → bad a) (r : RpAll g hm bad h vs l) : RpAll g hm bad' h vs l := r.antiF fun a o e _ => s a o e
theorem mapK_same : MapK bad bad h h := fun _ _ e n _ => ⟨n, e⟩
theorem Rp.mode (hh : hm = true → hm' = true) (r : Rp g hm bad h wk v x) : Rp g hm' bad h wk v x := r.map mapK_same (fun q _ _ _ e n _ => ⟨hh q, n, e⟩) mapW_same
theorem RpAll.mode (hh : hm = true → hm' = true) (r : RpAll g hm bad h vs l) : RpAll g hm' bad h vs l := r.map mapK_same (fun q _ _ _ e n _ => ⟨hh q, n, e⟩)
noncomputable def KeepD (h h' : Heap) : Prop := ∀ b o, h.get? b = some o → (∀ vs, o.data ≠ .fields vs) → Kept h' b o
theorem Rp.keepD (k : KeepD h h') (r : Rp g false bad h wk v x) : Rp g false bad h' wk v x :=
  r.map (hm := false) (fun a o e n p => ⟨n, (k a o e p.2).2 p.1⟩) (fun q => nomatch q) fun _ a o e p => (k a o e p.2).2 p.1
theorem RpAll.keepD (k : KeepD h h') (r : RpAll g false bad h vs l) : RpAll g false bad h' vs l :=
  r.map (hm := false) (fun a o e n p => ⟨n, (k a o e p.2).2 p.1⟩) (fun q => nomatch q)
end
theorem Rp.weak {wk : Bool} {v : Value} {x : V} (r : Rp g hm bad h wk v x) : Rp g hm bad h true v x := by
  cases r with
  | none => exact .none
  | bool b => exact .bool b
  | int i t => exact .int i t
  | str t e => exact .str t e
  | list hb ha hc hd hl => exact .list ⟨.inl rfl, hb.2⟩ ha hc hd hl
  | tuple hb ha hc hd hl => exact .tuple hb ha hc hd hl
  | dict0 hb ha hc hd => exact .dict0 (.inl rfl) ha hc hd
  | exc hh hb ha hc hx hy => exact .exc hh hb ha hc hx hy
section
variable {vs ws : List Value} {l m : List V}
theorem RpAll.length (r : RpAll g hm bad h vs l) : vs.length = l.length := r.ind (D := fun vs l => vs.length = l.length) rfl fun _ _ _ _ _ _ i => congrArg (· + 1) i
theorem RpAll.get {i : Nat} {x : V} (r : RpAll g hm bad h vs l) : l[i]? = some x → ∃ v, vs[i]? = some v ∧ Rp g hm bad h false v x := by
  refine r.ind (D := fun vs l => ∀ i, l[i]? = some x → ∃ v, vs[i]? = some v ∧ Rp g hm bad h false v x) (fun i e => absurd (List.getElem?_nil (i := i) ▸ e) nofun) (fun v vs y l r _ ih i e => ?_) i
  cases i with
  | zero => cases e; exact ⟨_, rfl, r⟩
  | succ i => exact ih i e
theorem RpAll.append (r : RpAll g hm bad h vs l) (q : RpAll g hm bad h ws m) : RpAll g hm bad h (vs ++ ws) (l ++ m) := r.ind (D := fun vs l => RpAll g hm bad h (vs ++ ws) (l ++ m)) q fun _ _ _ _ r _ i => .cons r i
theorem RpAll.take (n : Nat) (r : RpAll g hm bad h vs l) : RpAll g hm bad h (vs.take n) (l.take n) := by
  refine r.ind (D := fun vs l => ∀ n, RpAll g hm bad h (vs.take n) (l.take n)) (fun n => ?_) (fun v vs x l r _ ih n => ?_) n
  · rw [List.take_nil, List.take_nil]; exact .nil
  · cases n with
    | zero => exact .nil
    | succ n => exact .cons r (ih n)
theorem RpAll.drop (n : Nat) (r : RpAll g hm bad h vs l) : RpAll g hm bad h (vs.drop n) (l.drop n) := by
  refine r.ind (D := fun vs l => ∀ n, RpAll g hm bad h (vs.drop n) (l.drop n)) (fun n => ?_) (fun v vs x l r rs ih n => ?_) n
  · rw [List.drop_nil, List.drop_nil]; exact .nil
  · cases n with
    | zero => exact .cons r rs
    | succ n => exact ih n
theorem RpAll.reverse (r : RpAll g hm bad h vs l) : RpAll g hm bad h vs.reverse l.reverse := by
  refine r.ind (D := fun vs l => RpAll g hm bad h vs.reverse l.reverse) .nil fun v vs x l r _ ih => ?_
  rw [List.reverse_cons, List.reverse_cons]
  exact ih.append (.cons r .nil)
end
/-! what a value is, by what it stands for -/
@[elab_as_elim] theorem Rp.none_elim {wk : Bool} {v : Value} {C : Value → Prop} (r : Rp g hm bad h wk v .none) (k : C .none) : C v := by cases r; exact k
@[elab_as_elim] theorem Rp.bool_elim {wk : Bool} {v : Value} {C : Value → Prop} {b : Bool} (r : Rp g hm bad h wk v (.bool b)) (k : C (.bool b)) : C v := by cases r; exact k
@[elab_as_elim] theorem Rp.int_elim {wk : Bool} {v : Value} {C : Value → Prop} {i : Int} (r : Rp g hm bad h wk v (.int i)) (k : ∀ t, C (.int i t)) : C v := by cases r; exact k _
@[elab_as_elim] theorem Rp.str_elim {wk : Bool} {v : Value} {C : Value → Prop} {l : List Nat} (r : Rp g hm bad h wk v (.str l)) (k : ∀ (x : Str) t, x.cps.toList = l → C (.str x t)) : C v := by cases r with | str t e => exact k _ t e
@[elab_as_elim] theorem Rp.list_elim {wk : Bool} {v : Value} {C : Value → Prop} {l : List V} (r : Rp g hm bad h wk v (.list l)) (k : ∀ a (o : Obj) vs n, (wk = true ∨ ¬ bad a) ∧ o.dict = Option.none → h.get? a = some o → o.cls = .type "list" → o.data = .seq vs n → RpAll g hm bad h vs.toList l → C (.ref a)) : C v := by
  cases r with | list hb ha hc hd hl => exact k _ _ _ _ hb ha hc hd hl
@[elab_as_elim] theorem Rp.tuple_elim {wk : Bool} {v : Value} {C : Value → Prop} {l : List V} (r : Rp g hm bad h wk v (.tuple l)) (k : ∀ a (o : Obj) vs n, ¬ bad a → h.get? a = some o → o.cls = .type "tuple" → o.data = .seq vs n → RpAll g hm bad h vs.toList l → C (.ref a)) : C v := by
  cases r with | tuple hb ha hc hd hl => exact k _ _ _ _ hb ha hc hd hl
@[elab_as_elim] theorem some_elim {α : Type} {C : α → Prop} {a b : α} (e : some a = some b) (k : C a) : C b := Option.some.inj e ▸ k
@[elab_as_elim] theorem if_elim {α : Type} {C : α → Prop} {p : Prop} [Decidable p] {a z : α} (e : (if p then some a else none) = some z) (k : p → C a) : C z := by
  by_cases h : p
  · rw [if_pos h] at e; exact some_elim e (k h)
  · rw [if_neg h] at e; cases e
@[elab_as_elim] theorem ifn_elim {α : Type} {C : α → Prop} {p : Prop} [Decidable p] {a z : α} (e : (if p then none else some a) = some z) (k : ¬ p → C a) : C z := by
  by_cases h : p
  · rw [if_pos h] at e; cases e
  · rw [if_neg h] at e; exact some_elim e (k h)
@[elab_as_elim] theorem map_elim {α β : Type} {C : β → Prop} {f : α → β} {o : Option α} {z : β} (e : o.map f = some z) (k : ∀ a, o = some a → C (f a)) : C z := by
  cases o with
  | none => cases e
  | some a => exact some_elim e (k a rfl)
theorem gen_goal {G : Prop} (h : ∀ P : Prop, (G → P) → P) : G := h G id
theorem int2_elim {α : Type} {f : Int → Int → Option α} {C : V → V → Prop} {x y : V} {z : α} (e : int2 f x y = some z) (k : ∀ a b, f a b = some z → C (.int a) (.int b)) : C x y := by
  cases x with
  | int a => cases y with
    | int b => exact k a b e
    | _ => cases e
  | _ => cases e
end
end Mine
end

noncomputable section
set_option maxRecDepth 100000
namespace Mine
open PySem PySem.Calls PyProof.Rows PySem.W

noncomputable def ExcAt (h : Heap) (lo : Heap) (e : Addr) (cls fl : Value) : Prop :=
  ∃ oe vs, h.get? e = some oe ∧ oe.cls = cls ∧ oe.dict = none ∧ oe.data = .fields vs ∧ lo.get? e = none ∧ 1 < vs.size ∧
    (vs[1]? = some .none ∨ ∃ T oT ts, vs[1]? = some (.ref T) ∧ T ≠ e ∧ lo.get? T = none ∧ h.get? T = some oT ∧ oT.data = .fields ts ∧ ts[3]? = some fl)
noncomputable def Live (h : Heap) (a : Addr) : Prop := ∃ o, h.get? a = some o
theorem none_of {lo lo' : Heap} (q : ∀ b, Live lo' b → Live lo b) {a : Addr} (h : lo.get? a = none) : lo'.get? a = none := by
  cases e : lo'.get? a with
  | none => rfl
  | some o => obtain ⟨o', e'⟩ := q a ⟨o, e⟩; rw [h] at e'; cases e'
theorem size_none (h : Heap) : h.get? h.objs.size = none := by
  cases e : h.get? h.objs.size with
  | none => rfl
  | some o => exact absurd (Heap.lt_size e) (Nat.lt_irrefl _)
theorem ExcAt.le {h : Heap} {lo lo' : Heap} {e : Addr} {cls fl : Value} (x : ExcAt h lo e cls fl) (q : ∀ b, Live lo' b → Live lo b) : ExcAt h lo' e cls fl := by
  obtain ⟨oe, vs, a, b, c, d, f, g, k⟩ := x
  refine ⟨oe, vs, a, b, c, d, none_of q f, g, k.imp id ?_⟩
  rintro ⟨T, oT, ts, a, b, c, d⟩
  exact ⟨T, oT, ts, a, b, none_of q c, d⟩

structure Noted (F : List Addr) (lo : Heap) (h h' : Heap) : Prop where
  low : ∀ b o, h.get? b = some o → Live lo b → (∃ sl, h'.get? b = some { o with slots := sl }) ∧ (b ∉ F → h'.get? b = some o)
  data : ∀ b o, h.get? b = some o → (∀ vs, o.data ≠ .fields vs) → (∃ sl, h'.get? b = some { o with slots := sl }) ∧ (b ∉ F → h'.get? b = some o)
  live : ∀ b, Live h b → Live h' b
theorem Noted.refl (F : List Addr) (lo : Heap) (h : Heap) : Noted F lo h h := ⟨fun _ o e _ => ⟨⟨o.slots, e⟩, fun _ => e⟩, fun _ o e _ => ⟨⟨o.slots, e⟩, fun _ => e⟩, fun _ l => l⟩
theorem Noted.trans {F : List Addr} {lo : Heap} {h₁ h₂ h₃ : Heap} (x : Noted F lo h₁ h₂) (y : Noted F lo h₂ h₃) : Noted F lo h₁ h₃ where
  low := fun b o e hb => by
    obtain ⟨⟨sl, e₁⟩, f₁⟩ := x.low b o e hb
    obtain ⟨⟨sl', e₂⟩, f₂⟩ := y.low b _ e₁ hb
    exact ⟨⟨sl', e₂⟩, fun hF => (y.low b _ (f₁ hF) hb).2 hF⟩
  data := fun b o e hd => by
    obtain ⟨⟨sl, e₁⟩, f₁⟩ := x.data b o e hd
    obtain ⟨⟨sl', e₂⟩, f₂⟩ := y.data b _ e₁ hd
    exact ⟨⟨sl', e₂⟩, fun hF => (y.data b _ (f₁ hF) hd).2 hF⟩
  live := fun b l => y.live b (x.live b l)
theorem Noted.frames {F : List Addr} {lo h h' base : Heap} {l : List Env} (x : Noted F lo h h') (f : h.FunFrames base l) : h'.FunFrames base l :=
  f.of_keeps fun b o ho hd => by obtain ⟨⟨sl, e⟩, _⟩ := x.data b o ho hd; exact ⟨_, e, rfl⟩
theorem Noted.le {F : List Addr} {lo lo' : Heap} {h h' : Heap} (x : Noted F lo h h') (q : ∀ b, Live lo' b → Live lo b) : Noted F lo' h h' := ⟨fun b o e hb => x.low b o e (q b hb), x.data, x.live⟩

noncomputable def frameAddrs (l : List Env) : List Addr := l.filterMap (·.frame)

section
variable {M : Model} {A : Around} {E : Value → Shared → Prop} {s : Shared} {base : Heap} {env : Env} {outer : List Env} {L e : Addr} {lo : Heap} {cls : Value}

theorem noted_write {F : List Addr} {h : Heap} {a : Addr} {o : Obj} {vs : Array Value} (ho : h.get? a = some o) (hd : o.data = .fields vs) (hlo : lo.get? a = none) (f : Array Value → Array Value) : Noted F lo h (h.update a (Obj.mapFields f)) where
  low := fun b ob eb hb => by
    have : (h.update a (Obj.mapFields f)).get? b = some ob := (Heap.get?_update_ne _ _ _ _ (by intro q; subst q; obtain ⟨_, hb⟩ := hb; rw [hlo] at hb; cases hb)).trans eb
    exact ⟨⟨ob.slots, this⟩, fun _ => this⟩
  data := fun b ob eb hn => by
    have : (h.update a (Obj.mapFields f)).get? b = some ob := (Heap.get?_update_ne _ _ _ _ (by intro q; subst q; rw [ho] at eb; cases eb; exact hn vs hd)).trans eb
    exact ⟨⟨ob.slots, this⟩, fun _ => this⟩
  live := fun b ⟨ob, eb⟩ => by
    by_cases q : b = a
    · subst q
      exact ⟨_, Heap.get?_update_self _ ho (Obj.isFreed_of_fields (Obj.data_mapFields hd f))⟩
    · exact ⟨ob, (Heap.get?_update_ne _ _ _ _ q).trans eb⟩
theorem noted_push {F : List Addr} {h : Heap} (o : Obj) : Noted F lo h (h.push o) where
  low := fun b ob eb _ => ⟨⟨ob.slots, Heap.get?_push_of_some _ eb⟩, fun _ => Heap.get?_push_of_some _ eb⟩
  data := fun b ob eb _ => ⟨⟨ob.slots, Heap.get?_push_of_some _ eb⟩, fun _ => Heap.get?_push_of_some _ eb⟩
  live := fun b ⟨ob, eb⟩ => ⟨ob, Heap.get?_push_of_some _ eb⟩
theorem noted_slots {F : List Addr} {h h' : Heap} (x : Heap.SlotsOnly F h h') : Noted F lo h h' where
  low := fun b ob eb _ => ⟨x.2.2 b ob eb, fun hF => (x.2.1 b hF).trans eb⟩
  data := fun b ob eb _ => ⟨x.2.2 b ob eb, fun hF => (x.2.1 b hF).trans eb⟩
  live := fun b ⟨ob, eb⟩ => let ⟨_, e⟩ := x.2.2 b ob eb; ⟨_, e⟩

theorem entry_ok {head : Value} {hadNext : Bool} {Q : Unit → Shared → Prop} {oe : Obj} {vs : Array Value}
    (hfr : A.frames = some (env :: outer)) (hl : s.heap.FunFrames base (env :: outer)) (hf : env.frame = some L) (hlo : ∀ b, Live lo b → Live s.heap b)
    (he : s.heap.get? e = some oe) (hc : oe.cls = cls) (hdi : oe.dict = none) (hd : oe.data = .fields vs) (hle : lo.get? e = none) (hsz : 1 < vs.size)
    (h : ∀ h', Noted (frameAddrs (env :: outer)) lo s.heap h' → ExcAt h' lo e cls (rawInt L) → Q () { s with heap := h' }) :
    wpAny M A (do let a ← frameOf env; let pl ← entryPlaceOf L hadNext; let b ← EntryCells.newEntry head a .none (rawInt L) .none pl; setField (.ref e) 1 b) Q E s := by
  have hene : e ∉ (env :: outer).filterMap (·.frame) := fun hm => by
    obtain ⟨_, o, ho, hnf⟩ := hl.mem hm
    rw [he] at ho; injection ho with ho; subst ho; exact hnf vs hd
  refine wpAny_bind (wpAny_frameOf_fun hfr hl hf fun h₁ hs₁ => ?_)
  refine wpAny_bind (wpAny_entryPlaceOf fun pl hpl => ?_)
  unfold EntryCells.newEntry newFields
  refine wpAny_bind (wpAny_newObj_type ?_ (hpl.sizeOk5 _ _ _ _ _))
  have he₁ : h₁.get? e = some oe := (hs₁.2.1 e hene).trans he
  have he₂ := Heap.get?_push_of_some (h := h₁) { cls := .type "traceback", dict := none, data := .fields ([head, .ref L, .none, rawInt L, .none] ++ (if pl.isEmpty then List.replicate 6 Value.none else pl)).toArray } he₁
  refine wpAny_setField he₂ hd hsz (h _ ?_ ?_)
  · exact ((noted_slots hs₁).trans (noted_push _)).trans (noted_write he₂ hd hle _)
  · have hTe : h₁.objs.size ≠ e := Nat.ne_of_gt (Heap.lt_size he₁)
    have hd₃ := Obj.data_mapFields hd (·.setIfInBounds 1 (Value.ref h₁.objs.size))
    have he₃ := Heap.get?_update_self (Obj.mapFields (·.setIfInBounds 1 (Value.ref h₁.objs.size))) he₂ (Obj.isFreed_of_fields hd₃)
    have hT₃ := (Heap.get?_update_other (h₁.push { cls := .type "traceback", dict := none, data := .fields ([head, .ref L, .none, rawInt L, .none] ++ (if pl.isEmpty then List.replicate 6 Value.none else pl)).toArray })
      (Obj.mapFields (·.setIfInBounds 1 (Value.ref h₁.objs.size))) (Ne.symm hTe)).trans (Heap.get?_push_size h₁ rfl)
    refine ⟨_, _, he₃, (Obj.cls_mapFields _ _).trans hc, ?_, hd₃, hle, by simpa using hsz, .inr ⟨h₁.objs.size, _, _, by simp [hsz], hTe, by rw [hs₁.1]; exact none_of hlo (size_none _), hT₃, rfl, ?_⟩⟩
    · obtain ⟨c, d, dt, sl⟩ := oe; simp only at hd hdi; subst hd; exact hdi
    · first | (simp; done) | (rcases hpl with rfl | ⟨_, _, _, _, _, _, _, rfl⟩ <;> simp)

theorem note_ok {Q : Unit → Shared → Prop} (hfr : A.frames = some (env :: outer)) (hl : s.heap.FunFrames base (env :: outer)) (hf : env.frame = some L) (hlo : ∀ b, Live lo b → Live s.heap b) (x : ExcAt s.heap lo e cls .none)
    (h : ∀ h', Noted (frameAddrs (env :: outer)) lo s.heap h' → ExcAt h' lo e cls (rawInt L) → Q () { s with heap := h' }) : wpAny M A (noteFrame (.ref e) env) Q E s := by
  obtain ⟨oe, vs, he, hc, hdi, hd, hle, hsz, hh⟩ := x
  unfold noteFrame
  simp only [hf]
  rcases hh with h1 | ⟨T, oT, ts, h1, hTe, hlT, hT, hdT, h3⟩
  · refine wpAny_bind (wpAny_field he hd h1 ?_)
    rw [if_neg (by decide)]
    exact entry_ok hfr hl hf hlo he hc hdi hd hle hsz h
  · refine wpAny_bind (wpAny_field he hd h1 ?_)
    rw [if_pos (show (Value.ref T != Value.none) = true from by simp)]
    refine wpAny_bind (wpAny_field hT hdT h3 ?_)
    rw [if_neg (show ¬ ((Value.none == rawInt L) = true) from by simp [rawInt])]
    refine wpAny_bind (wpAny_setField hT hdT (Array.getElem?_eq_some_iff.mp h3).1 ?_)
    have w := noted_write (F := frameAddrs (env :: outer)) (lo := lo) hT hdT hlT (·.setIfInBounds 3 Value.none)
    exact entry_ok (s := { s with heap := _ }) hfr (w.frames hl) hf (fun b l => w.live b (hlo b l)) ((Heap.get?_update_ne _ _ _ _ (Ne.symm hTe)).trans he) hc hdi hd hle hsz
      fun h' n x => h h' (w.trans n) x

theorem flight_ok {Q : Unit → Shared → Prop} {F : List Addr} {fl : Value} (x : ExcAt s.heap lo e cls fl)
    (h : ∀ h', Noted F lo s.heap h' → ExcAt h' lo e cls .none → Q () { s with heap := h' }) : wpAny M A (setFlight (.ref e) none) Q E s := by
  obtain ⟨oe, vs, he, hc, hdi, hd, hle, hsz, hh⟩ := x
  unfold setFlight
  rcases hh with h1 | ⟨T, oT, ts, h1, hTe, hlT, hT, hdT, h3⟩
  · refine wpAny_bind (wpAny_field he hd h1 ?_)
    rw [if_neg (by decide)]
    exact wpAny_pure (h s.heap (.refl _ _ _) ⟨oe, vs, he, hc, hdi, hd, hle, hsz, .inl h1⟩)
  · refine wpAny_bind (wpAny_field he hd h1 ?_)
    rw [if_pos (show (Value.ref T != Value.none) = true from by simp)]
    have hsz3 : 3 < ts.size := (Array.getElem?_eq_some_iff.mp h3).1
    refine wpAny_setField hT hdT hsz3 (h _ (noted_write hT hdT hlT _) ?_)
    exact ⟨oe, vs, (Heap.get?_update_ne _ _ _ _ (Ne.symm hTe)).trans he, hc, hdi, hd, hle, hsz, .inr ⟨T, _, _, h1, hTe, hlT, Heap.get?_update_self _ hT (Obj.isFreed_of_fields (Obj.data_mapFields hdT _)), Obj.data_mapFields hdT _, by simp [hsz3]⟩⟩

theorem leaving_ok {Q : Unit → Shared → Prop} (hfr : A.frames = some (env :: outer)) (hl : s.heap.FunFrames base (env :: outer)) (hf : env.frame = some L) (hlo : ∀ b, Live lo b → Live s.heap b) (x : ExcAt s.heap lo e cls .none)
    (h : ∀ h', Noted (frameAddrs (env :: outer)) lo s.heap h' → ExcAt h' lo e cls .none → Q () { s with heap := h' }) : wpAny M A (leaving env (.ref e)) Q E s := by
  unfold leaving
  exact wpAny_bind (note_ok hfr hl hf hlo x fun h₁ n₁ x₁ => flight_ok (s := { s with heap := h₁ }) x₁ fun h₂ n₂ x₂ => h h₂ (n₁.trans n₂) x₂)
end
end Mine
end

noncomputable section
set_option maxRecDepth 100000
namespace Mine
open PySem PySem.Calls PyProof.Rows PySem.W

inductive Pl where
  | ns (a : Addr) (x : Str)
  | cell (c : Addr)
  | off
noncomputable def Pl.addr : Pl → Option Addr
  | .ns a _ => some a
  | .cell c => some c
  | .off => none
noncomputable def plA (pl : Nat → Pl) (a : Addr) : Prop := ∃ k, (pl k).addr = some a
noncomputable def ownA (pl : Nat → Pl) (oa : Nat → Option Addr) (a : Addr) : Prop := plA pl a ∨ ∃ k, oa k = some a
noncomputable def PlRead (h : Heap) : Pl → Option Value → Prop
  | .ns a x, v => ∃ m, h.Ns a m ∧ m x = v
  | .cell c, v => h.IsCell c v
  | .off, v => v = none

structure Fx where
  A : Around
  env : Env
  ρ : List (Str × Nat)
  pl : Nat → Pl
  Mo : Addr → Prop
  frs : List Env
  nf : Nat
  ns : Nat
  d : Nat
noncomputable def badA (fx : Fx) (oa : Nat → Option Addr) (a : Addr) : Prop := fx.Mo a ∨ ownA fx.pl oa a

inductive SlotOk (g : Gl) (hm : Bool) (bad : Addr → Prop) (h : Heap) (oak : Option Addr) : Option Value → Slot → Prop
  | unset : oak = none → SlotOk g hm bad h oak none .unset
  | v {v : Value} {x : V} : oak = none → Rp g hm bad h false v x → SlotOk g hm bad h oak (some v) (.v x)
  | ownL {a : Addr} {l : List V} : oak = some a → Rp g hm bad h true (.ref a) (.list l) → SlotOk g hm bad h oak (some (.ref a)) (.ownL l)

structure FxOk (g : Gl) (hm : Bool) (fx : Fx) : Prop where
  hA : fx.A.frames = some fx.frs
  hand : hm = false → fx.A.handled = none
  kind : fx.env.scope.kind = .function
  globals : fx.env.globals = mainGlobals
  builtins : fx.env.builtins = builtinsNs
  vis : ∀ x k, fx.ρ.lookup x = some k → (fx.env.kindOf x = some .local ∧ fx.pl k = .ns fx.env.locals x) ∨ ((fx.env.kindOf x = some .cell ∨ fx.env.kindOf x = some .free) ∧ ∃ c, fx.env.cells.lookup x = some c ∧ fx.pl k = .cell c)
  inj : ∀ k j, fx.pl k = fx.pl j → fx.pl k ≠ .off → k = j
  apart : ∀ k j a x c, fx.pl k = .ns a x → fx.pl j = .cell c → a ≠ c
  frame : ∃ env' outer L, fx.frs = env' :: outer ∧ env'.frame = some L ∧ fx.env.frame = some L
  offs : ∀ k, fx.nf ≤ k → fx.pl k = .off
  room : fx.A.depth + fx.d < 990
  units : fx.A.units + 4 * fx.d + 100 < cLine

structure Inv (g : Gl) (hm : Bool) (fx : Fx) (oa : Nat → Option Addr) (σ : St) (s : Shared) : Prop where
  stays : g.h0.StaysIn s.heap
  os : s.os = g.os
  gens : s.gens = #[]
  frames : s.heap.FunFrames g.h0 fx.frs
  fcls : ∀ b ∈ frameAddrs fx.frs, ∃ o, s.heap.get? b = some o ∧ o.cls = .type "frame"
  slot : ∀ k, ∃ v, PlRead s.heap (fx.pl k) v ∧ SlotOk g hm (badA fx oa) s.heap (oa k) v (getSlot k σ)
  new : ∀ a, ownA fx.pl oa a → Live s.heap a ∧ g.h0.get? a = none ∧ ¬ fx.Mo a
  inj : ∀ k j a, oa k = some a → oa j = some a → k = j
  off : ∀ k a, oa k = some a → ¬ plA fx.pl a
  len : ∀ k, fx.pl k ≠ .off → k < σ.G.length
  gl : σ.G.length = fx.ns
  mo : ∀ a, fx.Mo a → Live s.heap a

structure TrX (s s' : Shared) : Prop where
  keep : KeepX s.heap s'.heap
theorem TrX.refl (s : Shared) : TrX s s := ⟨.refl _⟩
theorem TrX.trans {s₁ s₂ s₃ : Shared} (x : TrX s₁ s₂) (y : TrX s₂ s₃) : TrX s₁ s₃ := ⟨x.keep.trans y.keep⟩
theorem KeepX.live {h h' : Heap} (x : KeepX h h') : ∀ b, Live h b → Live h' b := fun b ⟨o, e⟩ => let ⟨⟨_, e'⟩, _⟩ := x b o e; ⟨_, e'⟩
theorem TrX.live {s s' : Shared} (x : TrX s s') : ∀ b, Live s.heap b → Live s'.heap b := x.keep.live

section
variable {g : Gl} {hm : Bool} {fx : Fx} {oa oa' : Nat → Option Addr} {σ σ' : St} {s s' : Shared} {h h' : Heap}

theorem PlRead.keepX {p : Pl} {v : Option Value} (k : KeepX h h') (r : PlRead h p v) : PlRead h' p v := by
  cases p with
  | ns a x =>
    obtain ⟨m, ⟨o, es, ep, ho, hd, hs, hf⟩, hv⟩ := r
    obtain ⟨⟨sl, e⟩, _⟩ := k a o ho
    exact ⟨m, ⟨_, es, ep, e, hd, hs, hf⟩, hv⟩
  | cell c =>
    obtain ⟨o, ho, hd⟩ := r
    obtain ⟨⟨sl, e⟩, _⟩ := k c o ho
    exact ⟨_, e, hd⟩
  | off => exact r
theorem SlotOk.keepX {bad : Addr → Prop} {oak : Option Addr} {v : Option Value} {sl : Slot} (k : KeepX h h') (r : SlotOk g hm bad h oak v sl) : SlotOk g hm bad h' oak v sl := by
  cases r with
  | unset e => exact .unset e
  | v e x => exact .v e (x.keepX k)
  | ownL e x => exact .ownL e (x.keepX k)
theorem frames_keepX {l : List Env} (k : KeepX h h') (f : h.FunFrames g.h0 l) : h'.FunFrames g.h0 l :=
  f.of_keeps fun b o ho _ => by obtain ⟨⟨sl, e⟩, _⟩ := k b o ho; exact ⟨_, e, rfl⟩
theorem Inv.keepX (I : Inv g hm fx oa σ s) (k : TrX s s') (st : g.h0.StaysIn s'.heap) (ho : s'.os = s.os) (hg : s'.gens = s.gens) : Inv g hm fx oa σ s' where
  stays := st
  os := ho.trans I.os
  gens := hg.trans I.gens
  frames := frames_keepX k.keep I.frames
  fcls := fun b hb => by obtain ⟨o, e, c⟩ := I.fcls b hb; obtain ⟨⟨sl, e'⟩, _⟩ := k.keep b o e; exact ⟨_, e', c⟩
  slot := fun j => let ⟨v, r, x⟩ := I.slot j; ⟨v, r.keepX k.keep, x.keepX k.keep⟩
  new := fun a q => let ⟨x, y, z⟩ := I.new a q; ⟨k.live a x, y, z⟩
  inj := I.inj
  off := I.off
  len := I.len
  gl := I.gl
  mo := fun a q => k.live a (I.mo a q)

structure Grown (s s' : Shared) : Prop where
  keeps : ∀ b o, s.heap.get? b = some o → s'.heap.get? b = some o
  os : s'.os = s.os
  gens : s'.gens = s.gens
theorem Grown.refl (s : Shared) : Grown s s := ⟨fun _ _ e => e, rfl, rfl⟩
theorem Grown.trans {s₁ s₂ s₃ : Shared} (x : Grown s₁ s₂) (y : Grown s₂ s₃) : Grown s₁ s₃ :=
  ⟨fun b o e => y.keeps b o (x.keeps b o e), y.os.trans x.os, y.gens.trans x.gens⟩
theorem Grown.trX (x : Grown s s') : TrX s s' := ⟨.of_keeps x.keeps⟩
theorem Grown.toks (s : Shared) (n : Nat) : Grown s { s with toks := n } := ⟨fun _ _ e => e, rfl, rfl⟩
theorem Grown.push (s : Shared) (o : Obj) (n : Nat) : Grown s { s with heap := s.heap.push o, toks := n } :=
  ⟨fun _ _ e => Heap.get?_push_of_some _ e, rfl, rfl⟩
theorem Inv.grown (I : Inv g hm fx oa σ s) (x : Grown s s') : Inv g hm fx oa σ s' :=
  I.keepX x.trX (fun b o e => x.keeps b o (I.stays b o e)) x.os x.gens

theorem Rp.strong {bad : Addr → Prop} {a : Addr} {x : V} (r : Rp g hm bad h true (.ref a) x) (n : ¬ bad a) : Rp g hm bad h false (.ref a) x := by
  cases r with
  | list hb ha hc hd hl => exact .list ⟨.inr n, hb.2⟩ ha hc hd hl
  | tuple hb ha hc hd hl => exact .tuple hb ha hc hd hl
  | dict0 hb ha hc hd => exact .dict0 (.inr n) ha hc hd
  | exc hh hb ha hc hx hy => exact .exc hh hb ha hc hx hy

theorem getSlot_set_self {k : Nat} {x : Slot} (hk : k < σ.G.length) : getSlot k (setSlot k x σ) = x := by
  simp [getSlot, setSlot, hk]
theorem getSlot_set_ne {k j : Nat} {x : Slot} (hk : j ≠ k) : getSlot j (setSlot k x σ) = getSlot j σ := by
  simp [getSlot, setSlot, List.getElem?_set, Ne.symm hk]

noncomputable def without (oa : Nat → Option Addr) (k : Nat) : Nat → Option Addr := fun j => if j = k then none else oa j
theorem without_le {k j : Nat} {a : Addr} (e : without oa k j = some a) : oa j = some a := by
  unfold without at e; split at e
  · cases e
  · exact e
theorem bad_without {k : Nat} {a : Addr} (b : badA fx (without oa k) a) : badA fx oa a := by
  rcases b with b | b | ⟨j, e⟩
  · exact .inl b
  · exact .inr (.inl b)
  · exact .inr (.inr ⟨j, without_le e⟩)
theorem SlotOk.anti {bad bad' : Addr → Prop} {oak : Option Addr} {v : Option Value} {sl : Slot} (q : ∀ a o, h.get? a = some o → bad' a → bad a) (r : SlotOk g hm bad h oak v sl) : SlotOk g hm bad' h oak v sl := by
  cases r with
  | unset e => exact .unset e
  | v e x => exact .v e (x.anti q)
  | ownL e x => exact .ownL e (x.anti q)
theorem Inv.freeze {k : Nat} {v : Value} {x : V} (I : Inv g hm fx oa σ s) (hr : PlRead s.heap (fx.pl k) (some v)) (hk : fx.pl k ≠ .off)
    (hx : Rp g hm (badA fx (without oa k)) s.heap false v x) : Inv g hm fx (without oa k) (setSlot k (.v x) σ) s where
  stays := I.stays
  os := I.os
  gens := I.gens
  frames := I.frames
  fcls := I.fcls
  slot := fun j => by
    by_cases e : j = k
    · subst e
      refine ⟨some v, hr, ?_⟩
      rw [getSlot_set_self (I.len _ hk)]
      exact .v (by simp [without]) hx
    · obtain ⟨u, r, y⟩ := I.slot j
      refine ⟨u, r, ?_⟩
      rw [getSlot_set_ne e]
      have : without oa k j = oa j := by simp [without, e]
      rw [this]
      exact y.anti fun a o _ b => bad_without b
  new := fun a q => I.new a (q.imp id fun ⟨j, e⟩ => ⟨j, without_le e⟩)
  inj := fun i j a e1 e2 => I.inj i j a (without_le e1) (without_le e2)
  off := fun j a e => I.off j a (without_le e)
  len := fun j e => by simpa [setSlot] using I.len j e
  gl := by simpa [setSlot] using I.gl
  mo := I.mo
theorem not_bad_own {k : Nat} {a : Addr} (I : Inv g hm fx oa σ s) (e : oa k = some a) : ¬ badA fx (without oa k) a := by
  rintro (b | b | ⟨j, b⟩)
  · exact (I.new a (.inr ⟨k, e⟩)).2.2 b
  · exact I.off k a e b
  · have : j = k := I.inj j k a (without_le b) e
    subst this; simp [without] at b

theorem Noted.keepD {F : List Addr} {lo : Heap} (n : Noted F lo h h') (f : ∀ b ∈ F, ∃ o, h.get? b = some o ∧ o.cls = .type "frame") : KeepD h h' := fun b o e hd => by
  obtain ⟨a, c⟩ := n.data b o e hd
  exact ⟨a, fun hc => c fun hF => by obtain ⟨o', e', c'⟩ := f b hF; rw [e] at e'; cases e'; exact hc c'⟩
theorem PlRead.keepD {p : Pl} {v : Option Value} (k : KeepD h h') (r : PlRead h p v) : PlRead h' p v := by
  cases p with
  | ns a x =>
    obtain ⟨m, ⟨o, es, ep, ho, hd, hs, hf⟩, hv⟩ := r
    obtain ⟨⟨sl, e⟩, _⟩ := k a o ho (by rw [hd]; intro vs q; cases q)
    exact ⟨m, ⟨_, es, ep, e, hd, hs, hf⟩, hv⟩
  | cell c =>
    obtain ⟨o, ho, hd⟩ := r
    obtain ⟨⟨sl, e⟩, _⟩ := k c o ho (by rw [hd]; intro vs q; cases q)
    exact ⟨_, e, hd⟩
  | off => exact r
theorem SlotOk.keepD {bad : Addr → Prop} {oak : Option Addr} {v : Option Value} {sl : Slot} (k : KeepD h h') (r : SlotOk g false bad h oak v sl) : SlotOk g false bad h' oak v sl := by
  cases r with
  | unset e => exact .unset e
  | v e x => exact .v e (x.keepD k)
  | ownL e x => exact .ownL e (x.keepD k)
theorem Inv.noted {lo : Heap} (I : Inv g false fx oa σ s) (n : Noted (frameAddrs fx.frs) lo s.heap h') (hlo : ∀ b, Live g.h0 b → Live lo b) : Inv g false fx oa σ { s with heap := h' } where
  stays := fun b o e => by
    have hF : b ∉ frameAddrs fx.frs := fun hF => by rw [(I.frames.mem hF).1] at e; cases e
    exact (n.low b o (I.stays b o e) (hlo b ⟨o, e⟩)).2 hF
  os := I.os
  gens := I.gens
  frames := n.frames I.frames
  fcls := fun b hb => by
    obtain ⟨o, e, c⟩ := I.fcls b hb
    obtain ⟨_, o', e', hd⟩ := I.frames.mem hb
    rw [e] at e'; cases e'
    obtain ⟨⟨sl, e''⟩, _⟩ := n.data b o e hd
    exact ⟨_, e'', c⟩
  slot := fun j => let ⟨v, r, x⟩ := I.slot j; ⟨v, r.keepD (n.keepD I.fcls), x.keepD (n.keepD I.fcls)⟩
  new := fun a q => let ⟨x, y, z⟩ := I.new a q; ⟨n.live a x, y, z⟩
  inj := I.inj
  off := I.off
  len := I.len
  gl := I.gl
  mo := fun a q => n.live a (I.mo a q)
end
end Mine
end

noncomputable section
set_option maxRecDepth 100000
namespace Mine
open PySem PySem.Calls PyProof.Rows PySem.W

noncomputable def Le (oa' oa : Nat → Option Addr) : Prop := ∀ k a, oa' k = some a → oa k = some a
theorem Le.refl (oa : Nat → Option Addr) : Le oa oa := fun _ _ e => e
theorem Le.trans {a b c : Nat → Option Addr} (x : Le a b) (y : Le b c) : Le a c := fun k e q => y k e (x k e q)
theorem Le.bad {fx : Fx} {oa' oa : Nat → Option Addr} (x : Le oa' oa) {a : Addr} (b : badA fx oa' a) : badA fx oa a := by
  rcases b with b | b | ⟨j, e⟩
  · exact .inl b
  · exact .inr (.inl b)
  · exact .inr (.inr ⟨j, x _ _ e⟩)
theorem without_Le (oa : Nat → Option Addr) (k : Nat) : Le (without oa k) oa := fun _ _ e => without_le e

noncomputable abbrev Rel (α β : Type) := (Addr → Prop) → Heap → α → β → Prop
noncomputable def PostR (g : Gl) (hm : Bool) (fx : Fx) {α β : Type} (R : Rel α β) (oa : Nat → Option Addr) (s : Shared) (r : Except Nat β) (σ' : St) (a : α) (s' : Shared) : Prop :=
  ∃ b oa', r = .ok b ∧ Le oa' oa ∧ Inv g hm fx oa' σ' s' ∧ TrX s s' ∧ R (badA fx oa') s'.heap a b
noncomputable def PostX (g : Gl) (hm : Bool) (fx : Fx) {β : Type} (oa : Nat → Option Addr) (s : Shared) (r : Except Nat β) (σ' : St) (x : Value) (s' : Shared) : Prop :=
  ∃ c e oa', r = .error c ∧ hm = false ∧ x = .ref e ∧ Le oa' oa ∧ Inv g hm fx oa' σ' s' ∧ TrX s s' ∧ ExcAt s'.heap s.heap e (.ref (g.cls c)) .none

section
variable {g : Gl} {hm : Bool} {fx : Fx} {oa oa₁ : Nat → Option Addr} {σ σ' σ₁ : St} {s s₁ s' : Shared} {α β γ δ : Type}

theorem PostR.lift {R : Rel α β} {r : Except Nat β} {a : α} (x : PostR g hm fx R oa₁ s₁ r σ' a s') (l : Le oa₁ oa) (t : TrX s s₁) : PostR g hm fx R oa s r σ' a s' := by
  obtain ⟨b, oa', e, l', I, t', q⟩ := x
  exact ⟨b, oa', e, l'.trans l, I, t.trans t', q⟩
theorem PostX.lift {r : Except Nat β} {x : Value} (p : PostX g hm fx oa₁ s₁ r σ' x s') (l : Le oa₁ oa) (t : TrX s s₁) : PostX g hm fx oa s r σ' x s' := by
  obtain ⟨c, e, oa', er, hh, ex, l', I, t', f⟩ := p
  exact ⟨c, e, oa', er, hh, ex, l'.trans l, I, t.trans t', f.le t.live⟩
theorem PostX.no {C : Prop} {y : β} {x : Value} (p : PostX g hm fx oa s (.ok y : Except Nat β) σ' x s') : C := by
  obtain ⟨_, _, _, q, _⟩ := p; cases q
theorem PostR.no {C : Prop} {R : Rel α β} {c : Nat} {a : α} (p : PostR g hm fx R oa s (.error c) σ' a s') : C := by
  obtain ⟨_, _, q, _⟩ := p; cases q
theorem PostR.ok {C : Prop} {R : Rel α β} {b : β} {a : α} (p : PostR g hm fx R oa s (.ok b) σ' a s') (k : ∀ oa', Le oa' oa → Inv g hm fx oa' σ' s' → TrX s s' → R (badA fx oa') s'.heap a b → C) : C := by
  obtain ⟨_, oa', q, l, I, t, r⟩ := p; cases q; exact k oa' l I t r
theorem PostX.err {C : Prop} {c : Nat} {x : Value} (p : PostX g hm fx oa s (.error c : Except Nat β) σ' x s') (k : ∀ e oa', hm = false → x = .ref e → Le oa' oa → Inv g hm fx oa' σ' s' → TrX s s' → ExcAt s'.heap s.heap e (.ref (g.cls c)) .none → C) : C := by
  obtain ⟨_, e, oa', q, h1, h2, l, I, t, f⟩ := p; cases q; exact k e oa' h1 h2 l I t f
theorem PostX.cast {c : Nat} {x : Value} {r : Except Nat γ} (p : PostX g hm fx oa s (.error c : Except Nat β) σ' x s') (e : r = .error c) : PostX g hm fx oa s r σ' x s' := by
  obtain ⟨c', e', oa', er, q⟩ := p
  cases er
  exact ⟨c, e', oa', e, q⟩

theorem bind_some {m : M β} {f : β → M γ} {r : Except Nat γ} (h : M.bind m f σ = some (r, σ')) : (∃ c, m σ = some (.error c, σ') ∧ r = .error c) ∨ ∃ x σ₁, m σ = some (.ok x, σ₁) ∧ f x σ₁ = some (r, σ') := by
  unfold M.bind at h
  split at h
  · cases h
  · rename_i c s₂ e; cases h; exact .inl ⟨c, e, rfl⟩
  · rename_i x s₂ e; exact .inr ⟨x, s₂, e, h⟩
@[elab_as_elim] theorem bind_elim {m : M β} {f : β → M γ} {r : Except Nat γ} {C : Except Nat γ → Prop} (h : M.bind m f σ = some (r, σ')) (k1 : ∀ c, m σ = some (.error c, σ') → C (.error c)) (k2 : ∀ x σ₁, m σ = some (.ok x, σ₁) → f x σ₁ = some (r, σ') → C r) : C r := by
  rcases bind_some h with ⟨c, e, rfl⟩ | ⟨x, σ₁, e, e'⟩
  · exact k1 c e
  · exact k2 x σ₁ e e'
theorem bind_or {m : M β} {f : β → M γ} {r : Except Nat γ} {C : Prop} (h : M.bind m f σ = some (r, σ')) (k1 : ∀ c, m σ = some (.error c, σ') → r = .error c → C) (k2 : ∀ x σ₁, m σ = some (.ok x, σ₁) → f x σ₁ = some (r, σ') → C) : C := by
  rcases bind_some h with ⟨c, e, q⟩ | ⟨x, σ₁, e, e'⟩
  · exact k1 c e q
  · exact k2 x σ₁ e e'
theorem pure_some {x : β} {r : Except Nat β} (h : M.pure x σ = some (r, σ')) : r = .ok x ∧ σ' = σ := by
  unfold M.pure at h; cases h; exact ⟨rfl, rfl⟩
theorem ofOpt_some {x : Option β} {r : Except Nat β} (h : M.ofOpt x σ = some (r, σ')) : ∃ y, x = some y ∧ r = .ok y ∧ σ' = σ := by
  unfold M.ofOpt at h
  split at h
  · cases h; exact ⟨_, rfl, rfl, rfl⟩
  · cases h

noncomputable def Sim (g : Gl) (hm : Bool) (fx : Fx) (R : Rel α β) (t : Sem α) (m : M β) : Prop :=
  ∀ oa σ s r σ', m σ = some (r, σ') → Inv g hm fx oa σ s → wpAny (model g.prog g.w) fx.A t (PostR g hm fx R oa s r σ') (PostX g hm fx oa s r σ') s
noncomputable def SimAt (g : Gl) (hm : Bool) (fx : Fx) (R : Rel α β) (oa : Nat → Option Addr) (σ : St) (s : Shared) (t : Sem α) (m : M β) : Prop :=
  ∀ r σ', m σ = some (r, σ') → wpAny (model g.prog g.w) fx.A t (PostR g hm fx R oa s r σ') (PostX g hm fx oa s r σ') s

theorem SimAt.bind {R : Rel α β} {R' : Rel γ δ} {t : Sem α} {m : M β} {k : α → Sem γ} {f : β → M δ} (x : SimAt g hm fx R oa σ s t m)
    (y : ∀ a b oa₁ σ₁ s₁, Le oa₁ oa → Inv g hm fx oa₁ σ₁ s₁ → TrX s s₁ → R (badA fx oa₁) s₁.heap a b → SimAt g hm fx R' oa₁ σ₁ s₁ (k a) (f b)) : SimAt g hm fx R' oa σ s (t >>= k) (M.bind m f) := by
  intro r σ' h
  refine bind_elim h (fun c e => ?_) fun b σ₁ e e' => ?_
  · refine wpAny_bind (wpAny_mono (x _ _ e) (fun a s₁ p => ?_) fun v s₁ p => p.cast rfl)
    exact p.no
  · refine wpAny_bind (wpAny_mono (x _ _ e) (fun a s₁ p => ?_) fun v s₁ p => ?_)
    · refine p.ok fun oa₁ l I t' rr => ?_
      exact wpAny_mono (y a b oa₁ σ₁ s₁ l I t' rr _ _ e') (fun _ _ z => z.lift l t') fun _ _ z => z.lift l t'
    · exact p.no
theorem SimAt.pure {R : Rel α β} {a : α} {b : β} (I : Inv g hm fx oa σ s) (h : R (badA fx oa) s.heap a b) : SimAt g hm fx R oa σ s (pure a) (M.pure b) := by
  intro r σ' e
  obtain ⟨rfl, rfl⟩ := pure_some e
  exact wpAny_pure ⟨b, oa, rfl, .refl _, I, .refl _, h⟩
theorem SimAt.step {R : Rel α β} {t : Sem α} {b : Option β} (I : Inv g hm fx oa σ s)
    (h : ∀ y, b = some y → ∀ E, wpAny (model g.prog g.w) fx.A t (fun a s' => Grown s s' ∧ R (badA fx oa) s'.heap a y) E s) : SimAt g hm fx R oa σ s t (M.ofOpt b) := by
  intro r σ' e
  obtain ⟨y, rfl, rfl, rfl⟩ := ofOpt_some e
  exact wpAny_mono (h y rfl _) (fun a s' p => ⟨y, oa, rfl, .refl _, I.grown p.1, p.1.trX, p.2⟩) fun _ _ z => z
theorem SimAt.mono {R R' : Rel α β} {t : Sem α} {m : M β} (x : SimAt g hm fx R oa σ s t m) (q : ∀ bad h a b, R bad h a b → R' bad h a b) : SimAt g hm fx R' oa σ s t m := fun r σ' e =>
  wpAny_mono (x r σ' e) (fun _ _ ⟨b, oa', e, l, I, t, rr⟩ => ⟨b, oa', e, l, I, t, q _ _ _ _ rr⟩) fun _ _ z => z
theorem SimAt.holding {R : Rel α β} {vs : List Value} {t : Sem α} {m : M β} (x : SimAt g hm fx R oa σ s t m) : SimAt g hm fx R oa σ s (holding vs t) m := fun r σ' e => wpAny_holding (x r σ' e)
theorem SimAt.stand {R : Rel α β} {p : Pos} {t : Unit → Sem α} {m : M β} (x : SimAt g hm fx R oa σ s (t ()) m) : SimAt g hm fx R oa σ s (standAt p >>= t) m := fun r σ' e => wpAny_bind (wpAny_standAt (x r σ' e))
theorem SimAt.of_eq {R : Rel α β} {t t' : Sem α} {m : M β} (x : SimAt g hm fx R oa σ s t m) (e : t' = t) : SimAt g hm fx R oa σ s t' m := e ▸ x
theorem SimAt.stuck {R : Rel α β} {t : Sem α} : SimAt g hm fx R oa σ s t M.stuck := fun r σ' e => by cases e

theorem wpAny_release {M : Model} {A : Around} {E : Value → Shared → Prop} {s : Shared} {vs keep : List Value} {Q : Unit → Shared → Prop} (h : Q () s) : wpAny M A (release vs keep) Q E s := by
  unfold release
  generalize (vs.filter fun | .ref _ => true | _ => false) = l
  induction l with
  | nil => exact wpAny_pure h
  | cons x r ih =>
    cases r with
    | nil => exact wpAny_pure h
    | cons y r =>
      unfold release.go
      exact wpAny_bind (wpAny_holding (wpAny_point ih))
theorem SimAt.operate {R : Rel Value β} {vs : List Value} {t : Sem Value} {m : M β} (x : SimAt g hm fx R oa σ s t m) : SimAt g hm fx R oa σ s (operate vs t) m := fun r σ' e => by
  unfold PySem.operate
  exact wpAny_bind (wpAny_holding (wpAny_mono (x r σ' e) (fun a s' p => wpAny_bind (wpAny_release (wpAny_pure p))) fun _ _ z => z))
end
end Mine
end

noncomputable section
set_option maxRecDepth 100000
namespace Mine
open PySem PySem.Calls PyProof.Rows PySem.W

/-! data, as the library's -/
mutual
noncomputable def toPy : V → PyData
  | .none => .none
  | .bool b => .bool b
  | .int i => .int i
  | .str s => .str ⟨s.toArray⟩
  | .list l => .list (toPys l)
  | .tuple l => .tuple (toPys l)
  | _ => .none
noncomputable def toPys : List V → List PyData
  | [] => []
  | x :: xs => toPy x :: toPys xs
end
theorem and_true_of {a b : Bool} (h : (a && b) = true) : a = true ∧ b = true := by cases a <;> cases b <;> first | exact ⟨rfl, rfl⟩ | cases h
theorem str_beq (a b : List Nat) : ((⟨a.toArray⟩ : Str) == ⟨b.toArray⟩) = (a == b) := by
  rw [Bool.eq_iff_iff]
  simp
theorem lay_str {s : List Nat} (h : dataV (.str s) = true) : PyData.canLay0 (.str ⟨s.toArray⟩) = true := by
  have h : s.all (· < 0x110000) = true := h
  simp only [PyData.canLay0, PyData.strOk]
  simpa using h
theorem and2 {a b : Bool} (h : a = true) (k : b = true) : (a && b) = true := by rw [h, k]; rfl
theorem V.ind {C : V → Prop} {D : List V → Prop} (n : C .none) (b : ∀ b, C (.bool b)) (i : ∀ i, C (.int i)) (s : ∀ s, C (.str s)) (l : ∀ l, D l → C (.list l)) (t : ∀ l, D l → C (.tuple l)) (d : C .dict) (e : ∀ c, C (.exc c)) (dn : D []) (dc : ∀ x l, C x → D l → D (x :: l)) (x : V) : C x :=
  V.rec (motive_1 := C) (motive_2 := D) n b i s l t d e dn dc x
theorem toPy_lay (x : V) : dataV x = true → (toPy x).canLay0 = true :=
  V.ind (C := fun x => dataV x = true → (toPy x).canLay0 = true) (D := fun l => dataVs l = true → PyData.canLayAll0 (toPys l) = true)
    (fun _ => rfl) (fun _ _ => rfl) (fun _ _ => rfl) (fun _ h => lay_str h) (fun _ ih h => ih h) (fun _ ih h => ih h) (fun h => nomatch h) (fun _ h => nomatch h) (fun _ => rfl) (fun _ _ i1 i2 h => and2 (i1 (and_true_of h).1) (i2 (and_true_of h).2)) x
theorem toPy_depth (x : V) : (toPy x).depth = depthV x :=
  V.ind (C := fun x => (toPy x).depth = depthV x) (D := fun l => PyData.depthAll (toPys l) = depthVs l)
    rfl (fun _ => rfl) (fun _ => rfl) (fun _ => rfl) (fun _ ih => congrArg (· + 1) ih) (fun _ ih => congrArg (· + 1) ih) rfl (fun _ => rfl) rfl (fun _ _ i1 i2 => (congrArg (max · _) i1).trans (congrArg (max _) i2)) x
theorem toPy_eqv (x : V) : ∀ y : V, dataV x = true → dataV y = true → PyData.eqv (toPy x) (toPy y) = eqV x y := by
  refine V.ind (C := fun x => ∀ y : V, dataV x = true → dataV y = true → PyData.eqv (toPy x) (toPy y) = eqV x y) (D := fun l => ∀ m : List V, dataVs l = true → dataVs m = true → PyData.eqvAll (toPys l) (toPys m) = eqVs l m)
    (fun y _ hy => ?_) (fun _ y _ hy => ?_) (fun _ y _ hy => ?_) (fun s y _ hy => ?_) (fun l ih y hx hy => ?_) (fun l ih y hx hy => ?_) (fun _ h => nomatch h) (fun _ _ h => nomatch h) (fun m _ _ => ?_) (fun x l i1 i2 m hx hy => ?_) x
  · cases y <;> first | rfl | cases hy
  · cases y <;> first | rfl | cases hy
  · cases y <;> first | rfl | cases hy
  · cases y with
    | str t => exact str_beq s t
    | exc c => cases hy
    | dict => cases hy
    | _ => rfl
  · cases y with
    | list m => exact ih m hx hy
    | exc c => cases hy
    | dict => cases hy
    | _ => rfl
  · cases y with
    | tuple m => exact ih m hx hy
    | exc c => cases hy
    | dict => cases hy
    | _ => rfl
  · cases m <;> rfl
  · cases m with
    | nil => rfl
    | cons y m => exact (congrArg (· && _) (i1 y (and_true_of hx).1 (and_true_of hy).1)).trans (congrArg (_ && ·) (i2 m (and_true_of hx).2 (and_true_of hy).2))

section
variable {g : Gl} {hm wk wk' : Bool} {bad : Addr → Prop} {h : Heap}
theorem str_of {x : Str} {l : List Nat} (e : x.cps.toList = l) : x = ⟨l.toArray⟩ := by cases x; subst e; simp
theorem Rp.reads {v : Value} {x : V} (r : Rp g hm bad h wk v x) : dataV x = true → ∃ as, Reads h v (toPy x) as := by
  refine Rp.rec (motive_1 := fun wk v x _ => dataV x = true → ∃ as, Reads h v (toPy x) as) (motive_2 := fun vs l _ => dataVs l = true → ∃ as, ReadsAll h vs (toPys l) as) ?_ ?_ ?_ ?_ ?_ ?_ ?_ ?_ ?_ ?_ r
  · exact fun _ => ⟨_, .none⟩
  · exact fun b _ => ⟨_, .bool b⟩
  · exact fun i t _ => ⟨_, .int i t⟩
  · intro _ x l t e _
    have := str_of e; subst this; exact ⟨[], .str _ t⟩
  · intro _ a o vs n l hb ha hc hd _ ih q
    obtain ⟨as, r⟩ := ih q
    exact ⟨_, .list ha hc hd r⟩
  · intro _ a o vs n l hb ha hc hd _ ih q
    obtain ⟨as, r⟩ := ih q
    exact ⟨_, .tuple ha hc hd r⟩
  · exact fun _ _ _ _ q => nomatch q
  · exact fun _ _ _ _ _ _ q => nomatch q
  · exact fun _ => ⟨_, .nil⟩
  · intro v vs x l _ _ i1 i2 q
    have q := and_true_of q
    obtain ⟨as, r⟩ := i1 q.1
    obtain ⟨bs, rs⟩ := i2 q.2
    exact ⟨_, .cons r rs⟩
end

/-! the operations -/
noncomputable def BOp.op : BOp → Operator
  | .add => .Add
  | .sub => .Sub
  | .mul => .Mult
  | .div => .FloorDiv
  | .mod => .Mod
noncomputable def COp.op : COp → CmpOp
  | .eq => .Eq
  | .ne => .NotEq
  | .lt => .Lt
  | .gt => .Gt
  | .isn => .Is
  | .inn => .In
  | .notin => .NotIn

theorem sz_le {n : Nat} (h : n ≤ szLine) : n ≤ sizeLine := Nat.le_trans h (by decide)

section
variable {g : Gl} {hm wk wk' : Bool} {bad : Addr → Prop} {A : Around} {E : Value → Shared → Prop} {s : Shared} {prog : Program} {w : World}

noncomputable abbrev Gives1 (g : Gl) (hm : Bool) (bad : Addr → Prop) (s : Shared) (z : V) (v : Value) (s' : Shared) : Prop := Grown s s' ∧ Rp g hm bad s'.heap false v z

theorem fresh_ok (hb : ∀ a, bad a → Live s.heap a) : ¬ bad s.heap.objs.size := fun q => by obtain ⟨o, e⟩ := hb _ q; rw [size_none] at e; cases e
theorem made_list {vs : List Value} {l : List V} {n tk : Nat} (hb : ∀ a, bad a → Live s.heap a) (r : RpAll g hm bad s.heap vs l) :
    Gives1 g hm bad s (.list l) (.ref s.heap.objs.size) { s with heap := s.heap.push { cls := .type "list", data := .seq vs.toArray n }, toks := tk } :=
  ⟨Grown.push _ _ _, .list ⟨.inr (fresh_ok hb), rfl⟩ (Heap.get?_push_size _ rfl) rfl rfl (r.keepX (.of_keeps fun _ _ e => Heap.get?_push_of_some _ e))⟩
theorem made_tuple {vs : List Value} {l : List V} {n tk : Nat} (hb : ∀ a, bad a → Live s.heap a) (r : RpAll g hm bad s.heap vs l) :
    Gives1 g hm bad s (.tuple l) (.ref s.heap.objs.size) { s with heap := s.heap.push { cls := .type "tuple", data := .seq vs.toArray n }, toks := tk } :=
  ⟨Grown.push _ _ _, .tuple (fresh_ok hb) (Heap.get?_push_size _ rfl) rfl rfl (r.keepX (.of_keeps fun _ _ e => Heap.get?_push_of_some _ e))⟩

theorem intMul_ok {a b : Int} (h : b.natAbs ≤ 1000000 ∨ a.natAbs ≤ 1000000) : IntMulOk a b := by
  rcases h with h | h
  · exact .of_right (intBits_le_64 (by omega) (by omega))
  · exact .of_left (intBits_le_64 (by omega) (by omega))

theorem int_len {sx : Str} {l : List Nat} (e : sx.cps.toList = l) : sx.cps.size = l.length := by rw [← e, Array.length_toList]
theorem add_str_ok {sx sy : Str} {l m : List Nat} {t u : Tok} (ea : sx.cps.toList = l) (eb : sy.cps.toList = m) (hsz : l.length + m.length ≤ szLine) : wpAny (model prog w) A (binaryOp .Add (.str sx t) (.str sy u)) (Gives1 g hm bad s (.str (l ++ m))) E s := by
  refine P.add_str ?_
  have la := int_len ea
  have lb := int_len eb
  split
  · rename_i h0
    have h0' : sx.cps.size = 0 := eq_of_beq h0
    rw [h0'] at la
    cases List.length_eq_zero_iff.mp la.symm
    exact ⟨Grown.refl _, .str _ eb⟩
  · split
    · rename_i h0
      have h0' : sy.cps.size = 0 := eq_of_beq h0
      rw [h0'] at lb
      cases List.length_eq_zero_iff.mp lb.symm
      rw [List.append_nil]
      exact ⟨Grown.refl _, .str _ ea⟩
    · refine ⟨?_, Grown.toks _ _, .str _ ?_⟩
      · show (_ ++ _ : Array Nat).size ≤ sizeLine
        rw [Array.size_append, la, lb]; exact sz_le hsz
      · show (_ ++ _ : Array Nat).toList = _
        rw [Array.toList_append, ea, eb]
theorem add_list_ok {a1 a2 : Addr} {o1 o2 : Obj} {vs1 vs2 : Array Value} {n1 n2 : Nat} {l m : List V} (hb : ∀ a, bad a → Live s.heap a) (ha1 : s.heap.get? a1 = some o1) (hc1 : o1.cls = .type "list") (hd1 : o1.data = .seq vs1 n1) (hl1 : RpAll g hm bad s.heap vs1.toList l)
    (ha2 : s.heap.get? a2 = some o2) (hc2 : o2.cls = .type "list") (hd2 : o2.data = .seq vs2 n2) (hl2 : RpAll g hm bad s.heap vs2.toList m) (hsz : l.length + m.length ≤ szLine) : wpAny (model prog w) A (binaryOp .Add (.ref a1) (.ref a2)) (Gives1 g hm bad s (.list (l ++ m))) E s := by
  obtain ⟨cls, dd, data, sl⟩ := o1
  obtain ⟨cls2, dd2, data2, sl2⟩ := o2
  simp only at hc1 hd1 hc2 hd2
  subst hc1 hd1 hc2 hd2
  refine concat_meets ⟨_, ha1, rfl⟩ ⟨_, ha2, rfl⟩ noFill_list_add seq_list_add PySem.F.slot_list_add PySem.F.entry_list_add (PySem.F.args_list_add_2 _ _) (list_addW a1 a2 vs1 vs2 n1 n2 dd dd2 sl sl2 ?_) ⟨ha1, ha2, ?_⟩
  · have l1 := hl1.length
    have l2 := hl2.length
    rw [Array.length_toList] at l1 l2
    rw [l1, l2]; exact sz_le hsz
  · have q := made_list (n := 0) (tk := s.toks) hb (hl1.append hl2)
    rw [show (vs1.toList ++ vs2.toList).toArray = vs1 ++ vs2 by simp] at q
    exact q
theorem add_ok {a b : Value} {x y z : V} (e : addO x y = some z) (hb : ∀ a, bad a → Live s.heap a) (ra : Rp g hm bad s.heap wk a x) (rb : Rp g hm bad s.heap wk' b y) : wpAny (model prog w) A (binaryOp .Add a b) (Gives1 g hm bad s z) E s := by
  cases x with
  | int i => cases y with
    | int j => exact some_elim e (ra.int_elim fun t => rb.int_elim fun u => PyProof.Rows.add_int ⟨Grown.toks _ _, .int _ _⟩)
    | _ => cases e
  | str l => cases y with
    | str m => exact if_elim e fun q => ra.str_elim fun sx t ea => rb.str_elim fun sy u eb => add_str_ok ea eb q
    | _ => cases e
  | list l => cases y with
    | list m => exact if_elim e fun q => ra.list_elim fun a1 o1 vs1 n1 _ ha1 hc1 hd1 hl1 => rb.list_elim fun a2 o2 vs2 n2 _ ha2 hc2 hd2 hl2 => add_list_ok hb ha1 hc1 hd1 hl1 ha2 hc2 hd2 hl2 q
    | _ => cases e
  | _ => cases e
theorem int2_ok {op : BOp} {a b : Value} {x y z : V} {f : Int → Int → Option V} (e : int2 f x y = some z) (ra : Rp g hm bad s.heap wk a x) (rb : Rp g hm bad s.heap wk' b y) (k : ∀ i j t u, f i j = some z → wpAny (model prog w) A (binaryOp op.op (.int i t) (.int j u)) (Gives1 g hm bad s z) E s) :
    wpAny (model prog w) A (binaryOp op.op a b) (Gives1 g hm bad s z) E s :=
  int2_elim (C := fun x y => Rp g hm bad s.heap wk a x → Rp g hm bad s.heap wk' b y → wpAny (model prog w) A (binaryOp op.op a b) (Gives1 g hm bad s z) E s) e (fun i j q ra rb => ra.int_elim fun t => rb.int_elim fun u => k i j t u q) ra rb
theorem bin_ok {op : BOp} {a b : Value} {x y z : V} (e : binOp op x y = some z) (hb : ∀ a, bad a → Live s.heap a) (ra : Rp g hm bad s.heap wk a x) (rb : Rp g hm bad s.heap wk' b y) :
    wpAny (model prog w) A (binaryOp op.op a b) (Gives1 g hm bad s z) E s := by
  cases op with
  | add => exact add_ok e hb ra rb
  | sub => exact int2_ok (op := .sub) e ra rb fun i j t u q => some_elim q (PyProof.Rows.sub_int ⟨Grown.toks _ _, .int _ _⟩)
  | mul => exact int2_ok (op := .mul) e ra rb fun i j t u q => if_elim q fun q => PyProof.Rows.mul_int ⟨Grown.toks _ _, .int _ _⟩ (intMul_ok q)
  | div => exact int2_ok (op := .div) e ra rb fun i j t u q => ifn_elim q fun q => floordiv_int (fun z => q (.inl z)) ⟨Grown.toks _ _, .int _ _⟩ (.inl (PyProof.noPylong_small (by omega)))
  | mod => exact int2_ok (op := .mod) e ra rb fun i j t u q => ifn_elim q fun q => PyProof.Rows.mod_int q ⟨Grown.toks _ _, .int _ _⟩
end
end Mine
end

noncomputable section
set_option maxRecDepth 100000
namespace Mine
open PySem PySem.Calls PyProof.Rows PySem.W

theorem clamp_eq {i : Int} (n : Nat) (h : 0 ≤ i) : max 0 (min (if i < 0 then i + (n : Int) else i) (n : Int)) = ((min i.toNat n : Nat) : Int) := by
  rw [if_neg (by omega)]; omega
theorem ends {i : Int} (n : Nat) (h : 0 ≤ i) : max 0 (min (if i < 0 then i + (n : Int) else i) (n : Int)) = max 0 (min (if ((min i.toNat n : Nat) : Int) < 0 then ((min i.toNat n : Nat) : Int) + (n : Int) else ((min i.toNat n : Nat) : Int)) (n : Int)) := by
  rw [clamp_eq n h, clamp_eq n (by omega)]; omega
theorem end0 (n : Nat) : (0 : Int) = max 0 (min (if ((0 : Nat) : Int) < 0 then ((0 : Nat) : Int) + (n : Int) else ((0 : Nat) : Int)) (n : Int)) := by
  rw [clamp_eq n (by decide)]; exact congrArg (Nat.cast (R := Int)) (Nat.zero_min n).symm
theorem endn (n : Nat) : (n : Int) = max 0 (min (if (n : Int) < 0 then (n : Int) + (n : Int) else (n : Int)) (n : Int)) := by
  rw [clamp_eq n (by omega)]; exact congrArg _ (Nat.min_self n).symm
theorem range2 {a b c d : Int} (h : a = c) (k : b = d) : sliceRange a b 1 = sliceRange c d 1 := by rw [h, k]
noncomputable def PosEnd (i : Option Int) : Prop := ∀ k, i = some k → 0 ≤ k
theorem range_one {lo hi : Option Int} (n : Nat) (h1 : PosEnd lo) (h2 : PosEnd hi) (hle : sliceEnd lo 0 n ≤ sliceEnd hi n n) : Builtin.Str.strSliceIndices lo hi 1 n = (List.range (sliceEnd hi n n - sliceEnd lo 0 n)).map (sliceEnd lo 0 n + ·) := by
  refine Eq.trans ?_ (StrLaws.strSliceIndices_plain (len := n) hle ?_)
  · cases lo with
    | none => cases hi with
      | none => exact range2 (end0 n) (endn n)
      | some j => exact range2 (end0 n) (ends n (h2 _ rfl))
    | some i => cases hi with
      | none => exact range2 (ends n (h1 _ rfl)) (endn n)
      | some j => exact range2 (ends n (h1 _ rfl)) (ends n (h2 _ rfl))
  · cases hi with
    | none => exact Nat.le_refl _
    | some j => exact Nat.min_le_right _ _
theorem room {i : Nat} {hi : Option Int} {n : Nat} (h : i ≤ sliceEnd hi n n) : i + (sliceEnd hi n n - i) ≤ n := by
  rw [Nat.add_sub_cancel' h]
  cases hi with
  | none => exact Nat.le_refl _
  | some j => exact Nat.min_le_right _ _
theorem pick_rev (c : Array Nat) : ((List.range c.size).map fun k => c.size - 1 - k).filterMap (c[·]?) = c.toList.reverse := by
  rw [filterMap_get _ _ fun i hi => by obtain ⟨k, hk, rfl⟩ := List.mem_map.mp hi; have := List.mem_range.mp hk; omega]
  apply List.ext_getElem
  · simp
  · intro n h1 h2
    have h1 : n < c.size := by simpa using h1
    rw [List.getElem_reverse, List.getElem_map, List.getElem_map, List.getElem_range, Array.getD, dif_pos (by omega)]
    exact (Array.getElem_toList ..).symm
theorem slicePick_eq (items : Array Value) {lo hi : Option Int} (h1 : PosEnd lo) (h2 : PosEnd hi) (hle : sliceEnd lo 0 items.toList.length ≤ sliceEnd hi items.toList.length items.toList.length) : slicePick items lo hi none = (sliceL items.toList lo hi).toArray := by
  rw [Array.length_toList] at hle
  refine congrArg List.toArray ?_
  show (Builtin.Str.strSliceIndices lo hi 1 items.size).filterMap (items[·]?) = _
  rw [range_one _ h1 h2 hle]
  have := StrLaws.picks items.toList (sliceEnd hi items.size items.size - sliceEnd lo 0 items.size) (sliceEnd lo 0 items.size) (by rw [Array.length_toList]; exact room hle)
  rw [sliceL, Array.length_toList, ← this]
  exact congrArg (List.filterMap · _) (funext fun i => (Array.getElem?_toList).symm)
theorem slicePicked_eq (x : Str) {lo hi : Option Int} (h1 : PosEnd lo) (h2 : PosEnd hi) (hle : sliceEnd lo 0 x.length ≤ sliceEnd hi x.length x.length) : ((Builtin.Str.strSliceIndices lo hi 1 x.length).filterMap (x.cps[·]?)) = sliceL x.cps.toList lo hi := by
  rw [range_one _ h1 h2 hle]
  have := StrLaws.picks x.cps.toList (sliceEnd hi x.length x.length - sliceEnd lo 0 x.length) (sliceEnd lo 0 x.length) (by rw [Array.length_toList]; exact room hle)
  rw [sliceL, Array.length_toList]
  refine Eq.trans ?_ this
  exact congrArg (List.filterMap · _) (funext fun i => (Array.getElem?_toList).symm)
section
variable {g : Gl} {hm wk wk' : Bool} {bad : Addr → Prop} {A : Around} {E : Value → Shared → Prop} {s : Shared} {prog : Program} {w : World}

theorem IsList_of {a : Addr} {l : List V} (r : Rp g hm bad s.heap wk (.ref a) (.list l)) : ∃ vs : Array Value, s.heap.IsList a vs ∧ RpAll g hm bad s.heap vs.toList l := by
  cases r with | list _ ha hc hd hl => exact ⟨_, ⟨_, ha, hc, _, hd⟩, hl⟩
theorem IsTup_of {a : Addr} {l : List V} (r : Rp g hm bad s.heap wk (.ref a) (.tuple l)) : ∃ vs : Array Value, IsTup s.heap a vs ∧ RpAll g hm bad s.heap vs.toList l := by
  cases r with | tuple _ ha hc hd hl => exact ⟨_, ⟨_, ha, hc, _, hd⟩, hl⟩

theorem okd {x : V} (h : okEq x = true) : dataV x = true ∧ depthV x ≤ 64 :=
  ((Bool.and_eq_true _ _).mp h).imp id of_decide_eq_true
noncomputable abbrev CmpPost (s : Shared) (c : Bool) (v : Value) (s' : Shared) : Prop := Grown s s' ∧ v = .bool c
theorem min_ok {m n : Nat} (hu : A.units + 70 < cLine) (h : m ≤ 64) : A.units + min m n < cLine := Nat.lt_of_le_of_lt (Nat.add_le_add_left (Nat.le_trans (Nat.min_le_left m n) h) _) (by omega)
theorem min_ok' {m n : Nat} (hu : A.units + 70 < cLine) (h : n ≤ 64) : A.units + min m n < cLine := Nat.lt_of_le_of_lt (Nat.add_le_add_left (Nat.le_trans (Nat.min_le_right m n) h) _) (by omega)
theorem eq_ok {a b : Value} {x y : V} (q : (okEq x && okEq y) = true) (hu : A.units + 70 < cLine) (ra : Rp g hm bad s.heap wk a x) (rb : Rp g hm bad s.heap wk' b y) : wpAny (model prog w) A (compareOp .Eq a b) (CmpPost s (eqV x y)) E s :=
  have q := (Bool.and_eq_true _ _).mp q
  have h1 := okd q.1
  have h2 := okd q.2
  (ra.reads h1.1).elim fun _ r1 => (rb.reads h2.1).elim fun _ r2 => SeqAt.compareEq_reads r1 r2 (toPy_lay _ h1.1) (toPy_lay _ h2.1) (by rw [toPy_depth, toPy_depth]; exact min_ok hu h1.2) ⟨Grown.refl _, by rw [toPy_eqv _ _ h1.1 h2.1]⟩
theorem ne_ok {a b : Value} {x y : V} (q : (okEq x && okEq y) = true) (hu : A.units + 70 < cLine) (ra : Rp g hm bad s.heap wk a x) (rb : Rp g hm bad s.heap wk' b y) : wpAny (model prog w) A (compareOp .NotEq a b) (CmpPost s (!eqV x y)) E s :=
  have q := (Bool.and_eq_true _ _).mp q
  have h1 := okd q.1
  have h2 := okd q.2
  (ra.reads h1.1).elim fun _ r1 => (rb.reads h2.1).elim fun _ r2 => SeqAt.compareNe_reads r1 r2 (toPy_lay _ h1.1) (toPy_lay _ h2.1) (by rw [toPy_depth, toPy_depth]; exact min_ok hu h1.2) ⟨Grown.refl _, by rw [toPy_eqv _ _ h1.1 h2.1]⟩
theorem ifo_elim {α : Type} {C : Prop} {p : Prop} [Decidable p] {a : Option α} {z : α} (e : (if p then a else none) = some z) (k : p → a = some z → C) : C := by
  by_cases h : p
  · rw [if_pos h] at e; exact k h e
  · rw [if_neg h] at e; cases e
theorem isN_elim {C : V → Bool → Prop} {x y : V} {c : Bool} (e : isN x y = some c) (k : C .none (isNone x)) : C y c := by
  cases y with
  | none => exact some_elim e k
  | _ => cases e
theorem is_ok {a : Value} {x : V} (ra : Rp g hm bad s.heap wk a x) : wpAny (model prog w) A (compareOp .Is a .none) (CmpPost s (isNone x)) E s := by
  cases ra with
  | none => exact wpAny_is_self rfl ⟨Grown.refl _, rfl⟩
  | bool b => exact is_bool_none ⟨Grown.refl _, rfl⟩
  | int i t => exact is_int_none ⟨Grown.refl _, rfl⟩
  | str t e => exact is_str_none ⟨Grown.refl _, rfl⟩
  | _ => exact is_ref_none ⟨Grown.refl _, rfl⟩
theorem elem_found {sx sy : Str} {ch : Nat} {t : List Nat} (e1 : sx.cps.toList = [ch]) (e2 : sy.cps.toList = t) : (!(Builtin.Str.occurrences sy sx 0 sy.length 1).isEmpty) = t.elem ch := by
  have := str_of e1; subst this
  rw [show (⟨[ch].toArray⟩ : Str) = ⟨#[ch]⟩ from rfl, StrLaws.found_one, e2]
  rw [Bool.eq_iff_iff]; simp
theorem in_ok {a b : Value} {x y : V} {c : Bool} (e : inO x y = some c) (_hu : A.units + 70 < cLine) (ra : Rp g hm bad s.heap wk a x) (rb : Rp g hm bad s.heap wk' b y) :
    wpAny (model prog w) A (compareOp .In a b) (CmpPost s c) E s ∧ wpAny (model prog w) A (compareOp .NotIn a b) (CmpPost s (!c)) E s := by
  cases y with
  | str t =>
    cases x with
    | str l =>
      match l, e, ra with
      | [ch], e, ra =>
        exact some_elim e (ra.str_elim fun sx u e1 => rb.str_elim fun sy v e2 => ⟨P.in_str ⟨Grown.refl _, by rw [elem_found e1 e2]⟩, P.notIn_str ⟨Grown.refl _, by rw [elem_found e1 e2]⟩⟩)
      | [], e, ra => cases e
      | _ :: _ :: _, e, ra => cases e
    | _ => cases e
  | _ => cases e
theorem cmp2_ok {op : COp} {a b : Value} {x y : V} {c : Bool} {f : Int → Int → Option Bool} (e : int2 f x y = some c) (ra : Rp g hm bad s.heap wk a x) (rb : Rp g hm bad s.heap wk' b y) (k : ∀ i j t u, f i j = some c → wpAny (model prog w) A (compareOp op.op (.int i t) (.int j u)) (CmpPost s c) E s) :
    wpAny (model prog w) A (compareOp op.op a b) (CmpPost s c) E s :=
  int2_elim (C := fun x y => Rp g hm bad s.heap wk a x → Rp g hm bad s.heap wk' b y → wpAny (model prog w) A (compareOp op.op a b) (CmpPost s c) E s) e (fun i j q ra rb => ra.int_elim fun t => rb.int_elim fun u => k i j t u q) ra rb
theorem cmp_ok {op : COp} {a b : Value} {x y : V} {c : Bool} (e : cmpOp op x y = some c) (hu : A.units + 70 < cLine) (ra : Rp g hm bad s.heap wk a x) (rb : Rp g hm bad s.heap wk' b y) :
    wpAny (model prog w) A (compareOp op.op a b) (fun v s' => Grown s s' ∧ v = .bool c) E s := by
  cases op with
  | eq => exact if_elim e fun q => eq_ok q hu ra rb
  | ne => exact map_elim e fun d e => if_elim (C := fun d => wpAny (model prog w) A (compareOp .NotEq a b) (CmpPost s (!d)) E s) e fun q => ne_ok q hu ra rb
  | lt => exact cmp2_ok (op := .lt) e ra rb fun i j t u q => some_elim q (P.lt_int ⟨Grown.refl _, rfl⟩)
  | gt => exact cmp2_ok (op := .gt) e ra rb fun i j t u q => some_elim q (P.gt_int ⟨Grown.refl _, rfl⟩)
  | isn => exact isN_elim (C := fun y c => Rp g hm bad s.heap wk' b y → wpAny (model prog w) A (compareOp .Is a b) (CmpPost s c) E s) e (fun rb => rb.none_elim (is_ok ra)) rb
  | inn => exact (in_ok e hu ra rb).1
  | notin => exact map_elim e fun d e => (in_ok e hu ra rb).2

noncomputable def HasItem (s : Shared) (a : Value) : Prop := ∃ T id, s.TypeIs a T ∧ typeLookup (.type T) "__getitem__" = pure (some (.builtin id))
theorem ix_of {i : Int} {n : Nat} (h0 : 0 ≤ i) (hl : i.toNat < n) : seqIndex? i n = some i.toNat := by
  unfold seqIndex?
  rw [if_neg (Int.not_lt.mpr h0)]
  exact if_pos (by rw [decide_eq_true h0, decide_eq_true (show i < (n : Int) by omega)]; rfl)
theorem lt_of_get {α : Type} {l : List α} {n : Nat} {x : α} (e : l[n]? = some x) : n < l.length := (List.getElem?_eq_some_iff.mp e).1
theorem get_arr {vs : Array Value} {n : Nat} {v : Value} (h : vs.toList[n]? = some v) : vs[n]? = some v := by rw [Array.getElem?_toList] at h; exact h
theorem sub_list_ok {a : Addr} {i : Int} {t : Tok} {l : List V} {z : V} (h : 0 ≤ i ∧ i < 9223372036854775808) (e : l[i.toNat]? = some z) (ra : Rp g hm bad s.heap wk (.ref a) (.list l)) :
    HasItem s (.ref a) ∧ ∀ E, wpAny (model prog w) A (getItem (.ref a) (.int i t)) (Gives1 g hm bad s z) E s :=
  (IsList_of ra).elim fun _ h' => ⟨⟨_, _, h'.1.typeIs, slot_list_getitem.lookup⟩, fun _ => (h'.2.get e).elim fun _ q => wpAny_getItem_list h'.1 h.1 h.2 (get_arr q.1) ⟨Grown.refl _, q.2⟩⟩
theorem sub_tuple_ok {a : Addr} {i : Int} {t : Tok} {l : List V} {z : V} (h : 0 ≤ i ∧ i < 9223372036854775808) (e : l[i.toNat]? = some z) (ra : Rp g hm bad s.heap wk (.ref a) (.tuple l)) :
    HasItem s (.ref a) ∧ ∀ E, wpAny (model prog w) A (getItem (.ref a) (.int i t)) (Gives1 g hm bad s z) E s :=
  (IsTup_of ra).elim fun _ h' => ⟨⟨_, _, h'.1.typeIs, slot_tuple_getitem.lookup⟩, fun _ => (h'.2.get e).elim fun _ q => getItem_tuple h'.1 (by omega) h.2 (ix_of h.1 (lt_of_get q.1)) (get_arr q.1) ⟨Grown.refl _, q.2⟩⟩
theorem sub_str_ok {sx : Str} {i : Int} {t u : Tok} {l : List Nat} {c : Nat} (h : 0 ≤ i ∧ i < 9223372036854775808) (e : l[i.toNat]? = some c) (es : sx.cps.toList = l) :
    HasItem s (.str sx u) ∧ ∀ E, wpAny (model prog w) A (getItem (.str sx u) (.int i t)) (Gives1 g hm bad s (.str [c])) E s := by
  subst es
  refine ⟨⟨_, _, typeIs_str _ _ _, PySem.F.slot_str_getitem.lookup⟩, fun E => P.getItem_str (c := c) ?_ ?_ ⟨Grown.toks _ _, .str _ rfl⟩⟩
  · rw [decide_eq_false (by omega), decide_eq_false (by omega)]; rfl
  · have hl := lt_of_get e
    rw [show seqIndex? i sx.length = some i.toNat from ix_of h.1 hl]
    rw [Array.getElem?_toList] at e
    exact e
theorem nat_elim {C : Prop} {f : Nat → Option V} {i : Int} {z : V} (e : natO f i = some z) (k : 0 ≤ i ∧ i < 9223372036854775808 → f i.toNat = some z → C) : C := by
  cases i with
  | ofNat n => exact ifo_elim e fun h e => k ⟨Int.natCast_nonneg n, Int.ofNat_lt.mpr (Nat.lt_succ_of_le (Nat.le_of_ble_eq_true h))⟩ e
  | negSucc n => cases e
theorem sub_ok {a b : Value} {x y z : V} (e : subOp x y = some z) (ra : Rp g hm bad s.heap wk a x) (rb : Rp g hm bad s.heap wk' b y) :
    HasItem s a ∧ ∀ E, wpAny (model prog w) A (getItem a b) (Gives1 g hm bad s z) E s := by
  cases y with
  | int i =>
    refine rb.int_elim fun t => ?_
    refine nat_elim e fun h e => ?_
    cases x with
    | list l => exact ra.list_elim fun a o vs n hb ha hc hd hl => sub_list_ok h e (.list hb ha hc hd hl)
    | tuple l => exact ra.tuple_elim fun a o vs n hb ha hc hd hl => sub_tuple_ok h e (.tuple (wk := wk) hb ha hc hd hl)
    | str l => exact map_elim e fun c e => ra.str_elim fun sx u es => sub_str_ok h e es
    | _ => cases e
  | _ => cases e

inductive RpO (g : Gl) (hm : Bool) (bad : Addr → Prop) (h : Heap) : Value → Option V → Prop
  | none : RpO g hm bad h .none none
  | some {wk : Bool} {v : Value} {x : V} : Rp g hm bad h wk v x → RpO g hm bad h v (some x)
theorem RpO.keepX {h h' : Heap} {v : Value} {x : Option V} (r : RpO g hm bad h v x) (k : KeepX h h') : RpO g hm bad h' v x := by
  cases r with
  | none => exact .none
  | some r => exact .some (r.keepX k)
theorem RpO.anti {h : Heap} {bad' : Addr → Prop} {v : Value} {x : Option V} (r : RpO g hm bad h v x) (k : ∀ a o, h.get? a = Option.some o → bad' a → bad a) : RpO g hm bad' h v x := by
  cases r with
  | none => exact .none
  | some r => exact .some (r.anti k)
theorem pos_elim {C : V → Int → Prop} {x : V} {i : Int} (e : posO x = some i) (k : ∀ i, 0 ≤ i → C (.int i) i) : C x i := by
  cases x with
  | int j => exact if_elim e fun h => k j h
  | _ => cases e
theorem optIx_part {h : Heap} {v : Value} {x : Option V} {i : Option Int} (e : optIx x = some i) (r : RpO g hm bad h v x) : (IsPart v i ∧ PosEnd i) ∧ ∃ p, v = partValue p ∧ p.map (·.1) = i := by
  cases r with
  | none => exact some_elim e ⟨⟨.none, fun k q => nomatch q⟩, none, rfl, rfl⟩
  | some r => exact map_elim (C := fun i => (IsPart v i ∧ PosEnd i) ∧ ∃ p, v = partValue p ∧ p.map (·.1) = i) e fun j e => pos_elim (C := fun x j => Rp g hm bad h _ v x → (IsPart v (some j) ∧ PosEnd (some j)) ∧ ∃ p, v = partValue p ∧ p.map (·.1) = some j) e (fun j hj r => r.int_elim fun t => ⟨⟨.int _ _, fun k q => by cases q; exact hj⟩, some (j, t), rfl, rfl⟩) r
theorem slice_all {vs : List Value} {l : List V} {h : Heap} (i j : Option Int) (r : RpAll g hm bad h vs l) : RpAll g hm bad h (sliceL vs i j) (sliceL l i j) := by
  unfold sliceL
  rw [r.length]; exact (r.drop _).take _
theorem slice_list_ok {a : Addr} {vl vu : Value} {l : List V} {i j : Option Int} {sl : Addr} (hz : l.length ≤ szLine ∧ sliceEnd i 0 l.length ≤ sliceEnd j l.length l.length) (hb : ∀ a, bad a → Live s.heap a) (ra : Rp g hm bad s.heap wk (.ref a) (.list l))
    (pl : IsPart vl i ∧ PosEnd i) (pu : IsPart vu j ∧ PosEnd j) (hs : s.heap.IsSliceOf sl vl vu .none) : HasItem s (.ref a) ∧ ∀ E, wpAny (model prog w) A (getItem (.ref a) (.ref sl)) (Gives1 g hm bad s (.list (sliceL l i j))) E s := by
  obtain ⟨vs, hL, hl⟩ := IsList_of ra
  refine ⟨⟨_, _, hL.typeIs, slot_list_getitem.lookup⟩, fun E => ?_⟩
  have len := hl.length
  refine wpAny_getItem_list_slice hL hs pl.1 pu.1 .none (fun q => nomatch q) ?_ (by rw [← Array.length_toList, len]; exact sz_le hz.1)
  rw [slicePick_eq _ pl.2 pu.2 (len ▸ hz.2)]
  exact made_list (tk := s.toks) hb (slice_all i j hl)
theorem slice_full {l : List Nat} {i j : Option Int} (hle : sliceEnd i 0 l.length ≤ sliceEnd j l.length l.length) (h : sliceEnd j l.length l.length - sliceEnd i 0 l.length = l.length) : sliceL l i j = l := by
  have h1 : sliceEnd j l.length l.length ≤ l.length := by
    cases j with
    | none => exact Nat.le_refl _
    | some j => exact Nat.min_le_right _ _
  unfold sliceL
  rw [h]
  have h0 : sliceEnd i 0 l.length = 0 := by omega
  rw [h0]; exact List.take_length
theorem slice_str_ok {sx : Str} {u : Tok} {vl vu : Value} {l : List Nat} {i j : Option Int} {p q : Option (Int × Tok)} {sl : Addr} (hz : l.length ≤ szLine ∧ sliceEnd i 0 l.length ≤ sliceEnd j l.length l.length) (es : sx.cps.toList = l)
    (pl : PosEnd i) (pu : PosEnd j) (ep : vl = partValue p) (eq : vu = partValue q) (hp : p.map (·.1) = i) (hq : q.map (·.1) = j) (hs : s.heap.IsSliceOf sl vl vu .none) : HasItem s (.str sx u) ∧ ∀ E, wpAny (model prog w) A (getItem (.str sx u) (.ref sl)) (Gives1 g hm bad s (.str (sliceL l i j))) E s := by
  subst ep eq
  refine ⟨⟨_, _, typeIs_str _ _ _, PySem.F.slot_str_getitem.lookup⟩, fun E => ?_⟩
  refine wpAny_getItem_str_slice (l := p) (u := q) (st := none) hs rfl ?_
  unfold sliceMade
  have len : sx.length = l.length := by rw [← es]; exact Array.length_toList.symm
  have ep : slicePicked sx p q none = Builtin.Str.strSliceIndices i j 1 sx.length := by rw [← hp, ← hq]; rfl
  have e2 := slicePicked_eq sx pl pu (len ▸ hz.2)
  have e3 := range_one sx.length pl pu (len ▸ hz.2)
  rw [ep]
  split
  · rename_i hfull
    refine ⟨Grown.refl _, .str _ ?_⟩
    have hf := eq_of_beq (and_true_of hfull).2
    rw [e3, List.length_map, List.length_range, len] at hf
    rw [slice_full hz.2 hf, es]
  · refine ⟨?_, Grown.toks _ _, .str _ ?_⟩
    · show (List.toArray _).size ≤ sizeLine
      rw [e2, List.size_toArray, sliceL, es]
      exact Nat.le_trans (List.length_take_le' ..) (Nat.le_trans (by rw [List.length_drop]; exact Nat.sub_le ..) (sz_le hz.1))
    · show (List.toArray _).toList = _
      rw [e2, es]
theorem slice_ok {a vl vu : Value} {x z : V} {lo hi : Option V} {sl : Addr} (e : sliceOp x lo hi = some z) (hb : ∀ a, bad a → Live s.heap a) (ra : Rp g hm bad s.heap wk a x) (rl : RpO g hm bad s.heap vl lo) (ru : RpO g hm bad s.heap vu hi)
    (hs : s.heap.IsSliceOf sl vl vu .none) :
    HasItem s a ∧ ∀ E, wpAny (model prog w) A (getItem a (.ref sl)) (Gives1 g hm bad s z) E s := by
  obtain ⟨i, ei, e⟩ := Option.bind_eq_some_iff.mp e
  obtain ⟨j, ej, e⟩ := Option.bind_eq_some_iff.mp e
  obtain ⟨pl, p, ep, hp⟩ := optIx_part ei rl
  obtain ⟨pu, q, eq, hq⟩ := optIx_part ej ru
  cases x with
  | list l => exact if_elim e fun hz => ra.list_elim fun a o vs n hb' ha hc hd hl => slice_list_ok hz hb (.list hb' ha hc hd hl) pl pu hs
  | str l => exact if_elim e fun hz => ra.str_elim fun sx u es => slice_str_ok hz es pl.2 pu.2 ep eq hp hq hs
  | _ => cases e
theorem rev_str_ok {sx : Str} {u tk : Tok} {l : List Nat} {sl : Addr} (hz : l.length ≤ szLine) (es : sx.cps.toList = l) (hs : s.heap.IsSliceOf sl .none .none (.int (-1) tk)) :
    HasItem s (.str sx u) ∧ ∀ E, wpAny (model prog w) A (getItem (.str sx u) (.ref sl)) (Gives1 g hm bad s (.str l.reverse)) E s := by
  refine ⟨⟨_, _, typeIs_str _ _ _, PySem.F.slot_str_getitem.lookup⟩, fun E => ?_⟩
  refine wpAny_getItem_str_slice (l := none) (u := none) (st := some (-1, tk)) hs rfl ?_
  unfold sliceMade
  have e2 : (slicePicked sx none none (some (-1, tk))).filterMap (sx.cps[·]?) = sx.cps.toList.reverse := by
    show (Builtin.Str.strSliceIndices none none (-1) sx.length).filterMap _ = _
    rw [picked_rev]
    exact pick_rev sx.cps
  rw [if_neg (by rw [show ((Option.map (fun x => x.fst) (some ((-1 : Int), tk))).getD 1 == 1) = false from rfl, Bool.false_and]; decide)]
  refine ⟨?_, Grown.toks _ _, .str _ ?_⟩
  · show (List.toArray _).size ≤ sizeLine
    rw [e2, List.size_toArray, es, List.length_reverse]; exact sz_le hz
  · show (List.toArray _).toList = _
    rw [e2, es]
theorem rev_ok {a vk : Value} {x z : V} {sl : Addr} (e : revOp x = some z) (_hb : ∀ a, bad a → Live s.heap a) (ra : Rp g hm bad s.heap wk a x) (rk : Rp g hm bad s.heap wk' vk (.int (-1)))
    (hs : s.heap.IsSliceOf sl .none .none vk) : HasItem s a ∧ ∀ E, wpAny (model prog w) A (getItem a (.ref sl)) (Gives1 g hm bad s z) E s := by
  cases x with
  | str l => exact if_elim e fun hz => ra.str_elim fun sx u es => rk.int_elim (C := fun vk => s.heap.IsSliceOf sl .none .none vk → HasItem s (.str sx u) ∧ ∀ E, wpAny (model prog w) A (getItem (.str sx u) (.ref sl)) (Gives1 g hm bad s (.str l.reverse)) E s) (fun t hs => rev_str_ok hz es hs) hs
  | _ => cases e
end
end Mine
end

noncomputable section
set_option maxRecDepth 100000
namespace Mine
open PySem PySem.Calls PyProof.Rows PySem.W

noncomputable def okName (x : Str) : Bool := !(x == ("__debug__" : Str)) && !(x == ("__classdict__" : Str))
noncomputable def isBor : E → Bool
  | .bor _ => true
  | _ => false

section
variable {g : Gl} {hm : Bool} {fx : Fx} {oa : Nat → Option Addr} {σ : St} {s : Shared}

theorem name_read {x : Str} {k : Nat} {pos : Pos} {v : Value} {Q : Value → Shared → Prop} {E : Value → Shared → Prop} (ok : FxOk g hm fx) (hx : fx.ρ.lookup x = some k) (hn : okName x = true) (r : PlRead s.heap (fx.pl k) (some v)) (h : Q v s) :
    wpAny (model g.prog g.w) fx.A (eval (.Name x pos) fx.env) Q E s := by
  unfold okName at hn
  simp only [Bool.and_eq_true, Bool.not_eq_true'] at hn
  rcases ok.vis x k hx with ⟨hl, hp⟩ | ⟨hl, c, hc, hp⟩
  · rw [hp] at r
    obtain ⟨m, hns, hv⟩ := r
    exact wpAny_Name (wpAny_loadName_local ok.kind hl hns hv h) hn.1
  · rw [hp] at r
    rcases hl with hl | hl
    · exact wpAny_Name (wpAny_loadName_cell ok.kind hl hc r h) hn.1
    · exact wpAny_Name (wpAny_loadName_free ok.kind hl hc r h hn.2) hn.1
theorem vis_on {x : Str} {k : Nat} (ok : FxOk g hm fx) (hx : fx.ρ.lookup x = some k) : fx.pl k ≠ .off := by
  rcases ok.vis x k hx with ⟨_, hp⟩ | ⟨_, c, _, hp⟩ <;> rw [hp] <;> intro q <;> cases q
theorem sim_var {x : Str} {k : Nat} {pos : Pos} (ok : FxOk g hm fx) (hx : fx.ρ.lookup x = some k) (hn : okName x = true) (I : Inv g hm fx oa σ s) :
    SimAt g hm fx (fun bad h v y => Rp g hm bad h false v y) oa σ s (eval (.Name x pos) fx.env) (readVar k) := by
  intro r σ' e
  obtain ⟨v, pr, so⟩ := I.slot k
  unfold readVar at e
  generalize hg : getSlot k σ = sl at so e
  cases so with
  | unset q => cases e
  | v q rp => cases e; exact name_read ok hx hn pr ⟨_, oa, rfl, .refl _, I, .refl _, rp⟩
  | ownL q rp =>
    cases e
    have rp' := (rp.anti (bad' := badA fx (without oa k)) fun a o _ b => bad_without b).strong (not_bad_own I q)
    exact name_read ok hx hn pr ⟨_, without oa k, rfl, without_Le _ _, I.freeze pr (vis_on ok hx) rp', .refl _, rp'⟩
theorem sim_bor {x : Str} {k : Nat} {pos : Pos} (ok : FxOk g hm fx) (hx : fx.ρ.lookup x = some k) (hn : okName x = true) (I : Inv g hm fx oa σ s) :
    SimAt g hm fx (fun bad h v y => Rp g hm bad h true v y) oa σ s (eval (.Name x pos) fx.env) (borVar k) := by
  intro r σ' e
  obtain ⟨v, pr, so⟩ := I.slot k
  unfold borVar at e
  generalize hg : getSlot k σ = sl at so e
  cases so with
  | unset q => cases e
  | v q rp => cases e; exact name_read ok hx hn pr ⟨_, oa, rfl, .refl _, I, .refl _, rp.weak⟩
  | ownL q rp => cases e; exact name_read ok hx hn pr ⟨_, oa, rfl, .refl _, I, .refl _, rp⟩

noncomputable def constIs : Const → V → Bool
  | .none, .none => true
  | .bool a, .bool b => a == b
  | .int a, .int b => a == b
  | .str a, .str b => a.cps.toList == b
  | _, _ => false
theorem sim_lit {c : Const} {x : V} {k : Nat} {pos : Pos} (hc : constIs c x = true) (I : Inv g hm fx oa σ s) :
    SimAt g hm fx (fun bad h v y => Rp g hm bad h false v y) oa σ s (eval (.Constant c k pos) fx.env) (M.pure x) := by
  intro r σ' e
  obtain ⟨rfl, rfl⟩ := pure_some e
  show wpAny _ _ (constValue fx.env c) _ _ _
  unfold constIs at hc
  split at hc
  · exact wpAny_pure ⟨_, oa, rfl, .refl _, I, .refl _, .none⟩
  · rw [beq_iff_eq.mp hc]; exact wpAny_pure ⟨_, oa, rfl, .refl _, I, .refl _, .bool _⟩
  · rw [beq_iff_eq.mp hc]; exact wpAny_mkInt ⟨_, oa, rfl, .refl _, I.grown (Grown.toks _ _), (Grown.toks _ _).trX, .int _ _⟩
  · exact wpAny_mkText ⟨_, oa, rfl, .refl _, I.grown (Grown.toks _ _), (Grown.toks _ _).trX, .str _ (beq_iff_eq.mp hc)⟩
  · cases hc

theorem Inv.badLt (I : Inv g hm fx oa σ s) : ∀ a, badA fx oa a → Live s.heap a := fun a b => by
  rcases b with b | b
  · exact I.mo a b
  · exact (I.new a b).1
end
end Mine
end

noncomputable section
set_option maxRecDepth 100000
namespace Mine
open PySem PySem.Calls PyProof.Rows PySem.W

noncomputable def notSet : Expr → Bool
  | .Set .. => false
  | _ => true
section
variable {g : Gl} {hm wk wk' : Bool} {fx : Fx} {oa oa₁ oa₂ : Nat → Option Addr} {σ : St} {s s₁ s₂ : Shared} {P : Prog} {cf : CallF}

noncomputable abbrev RV (g : Gl) (hm wk : Bool) : Rel Value V := fun bad h v y => Rp g hm bad h wk v y
noncomputable abbrev RB : Rel Bool Bool := fun _ _ a b => a = b
noncomputable abbrev RVs (g : Gl) (hm : Bool) : Rel (List Value) (List V) := fun bad h v y => RpAll g hm bad h v y

theorem Rp.on {v : Value} {x : V} (r : Rp g hm (badA fx oa) s.heap wk v x) (l : Le oa₁ oa) (t : TrX s s₁) : Rp g hm (badA fx oa₁) s₁.heap wk v x :=
  (r.keepX t.keep).anti fun _ _ _ b => l.bad b
theorem RpAll.on {v : List Value} {x : List V} (r : RpAll g hm (badA fx oa) s.heap v x) (l : Le oa₁ oa) (t : TrX s s₁) : RpAll g hm (badA fx oa₁) s₁.heap v x :=
  (r.keepX t.keep).anti fun _ _ _ b => l.bad b
theorem RpO.on {v : Value} {x : Option V} (r : RpO g hm (badA fx oa) s.heap v x) (l : Le oa₁ oa) (t : TrX s s₁) : RpO g hm (badA fx oa₁) s₁.heap v x :=
  (r.keepX t.keep).anti fun _ _ _ b => l.bad b

noncomputable def SimV (g : Gl) (hm wk : Bool) (fx : Fx) (t : Sem Value) (m : M V) : Prop := ∀ oa σ s, Inv g hm fx oa σ s → SimAt g hm fx (RV g hm wk) oa σ s t m
noncomputable def SimBo (g : Gl) (hm : Bool) (fx : Fx) (t : Sem Bool) (m : M Bool) : Prop := ∀ oa σ s, Inv g hm fx oa σ s → SimAt g hm fx RB oa σ s t m
noncomputable def SimVs (g : Gl) (hm : Bool) (fx : Fx) (t : Sem (List Value)) (m : M (List V)) : Prop := ∀ oa σ s, Inv g hm fx oa σ s → SimAt g hm fx (RVs g hm) oa σ s t m
noncomputable def SimO (g : Gl) (hm : Bool) (fx : Fx) (t : Sem Value) (m : M (Option V)) : Prop := ∀ oa σ s, Inv g hm fx oa σ s → SimAt g hm fx (fun bad h v y => RpO g hm bad h v y) oa σ s t m

theorem units_ok (ok : FxOk g hm fx) : fx.A.units + 70 < cLine := by have := ok.units; omega

theorem sim_bin {op : BOp} {l r : Expr} {pos : Pos} {a b : M V} (h1 : SimV g hm wk fx (eval l fx.env) a) (h2 : SimV g hm wk' fx (eval r fx.env) b) :
    SimV g hm false fx (eval (.BinOp l op.op r pos) fx.env) (M.bind a fun x => M.bind b fun y => M.ofOpt (binOp op x y)) := fun oa σ s I => by
  rw [eval_BinOp]
  refine SimAt.bind (h1 _ _ _ I) fun va x oa₁ σ₁ s₁ l₁ I₁ t₁ ra => SimAt.bind (SimAt.holding (h2 _ _ _ I₁)) fun vb y oa₂ σ₂ s₂ l₂ I₂ t₂ rb => SimAt.stand (SimAt.operate (SimAt.step I₂ fun z e E => ?_))
  exact bin_ok e I₂.badLt (ra.on l₂ t₂) rb
theorem not_marked {op : CmpOp} {e : Expr} {t : Sem Value} (h : notSet e = true) : markedBehindIn op e t = t :=
  markedBehindIn_of_false (by cases e <;> first | rfl | (simp [notSet] at h))
theorem sim_cmp {op : COp} {l r : Expr} {pos : Pos} {a b : M V} (ok : FxOk g hm fx) (hs : notSet r = true) (h1 : SimV g hm wk fx (eval l fx.env) a) (h2 : SimV g hm wk' fx (eval r fx.env) b) :
    SimV g hm false fx (eval (.Compare l [op.op] [r] pos) fx.env) (M.bind a fun x => M.bind b fun y => M.ofOpt ((cmpOp op x y).map .bool)) := fun oa σ s I => by
  rw [eval_Compare1, not_marked hs]
  refine SimAt.bind (h1 _ _ _ I) fun va x oa₁ σ₁ s₁ l₁ I₁ t₁ ra => SimAt.bind (SimAt.holding (h2 _ _ _ I₁)) fun vb y oa₂ σ₂ s₂ l₂ I₂ t₂ rb => SimAt.stand (SimAt.operate (SimAt.step I₂ fun z e E => ?_))
  obtain ⟨c, hc, rfl⟩ := Option.map_eq_some_iff.mp e
  exact wpAny_mono (cmp_ok hc (units_ok ok) (ra.on l₂ t₂) rb) (fun v s' q => ⟨q.1, by rw [q.2]; exact .bool _⟩) fun _ _ z => z
theorem truth_ok {v : Value} {x : V} {b : Bool} {bad : Addr → Prop} {M : Model} {A : Around} {E : Value → Shared → Prop} {Q : Bool → Shared → Prop} (e : truthV x = some b) (r : Rp g hm bad s.heap wk v x) (h : Q b s) : wpAny M A (truthy v) Q E s := by
  unfold truthV at e
  split at e
  · cases e; cases r; exact wpAny_truthy_bool h
  · cases e
theorem sim_truth {v : Value} {x : V} (I : Inv g hm fx oa σ s) (r : Rp g hm (badA fx oa) s.heap wk v x) : SimAt g hm fx RB oa σ s (truthy v) (M.ofOpt (truthV x)) :=
  SimAt.step I fun _ e _ => truth_ok e r ⟨.refl _, rfl⟩
theorem sim_test {e : Expr} {a : M V} (h : SimV g hm wk fx (eval e fx.env) a) (he : isTrue e fx.env (eval e fx.env) = (do let v ← eval e fx.env; standAt e.pos; holding [v] (truthy v))) :
    SimBo g hm fx (isTrue e fx.env (eval e fx.env)) (M.bind a fun x => M.ofOpt (truthV x)) := fun oa σ s I => by
  rw [he]
  exact SimAt.bind (h _ _ _ I) fun va x oa₁ σ₁ s₁ l₁ I₁ t₁ ra => SimAt.stand (SimAt.holding (sim_truth I₁ ra))
theorem sim_test_cmp {op : COp} {l r : Expr} {pos : Pos} {a b : M V} (ok : FxOk g hm fx) (hs : notSet r = true) (h1 : SimV g hm wk fx (eval l fx.env) a) (h2 : SimV g hm wk' fx (eval r fx.env) b) {w : Sem Value} :
    SimBo g hm fx (isTrue (.Compare l [op.op] [r] pos) fx.env w) (M.bind (M.bind a fun x => M.bind b fun y => M.ofOpt ((cmpOp op x y).map .bool)) fun x => M.ofOpt (truthV x)) := fun oa σ s I => by
  have e : isTrue (.Compare l [op.op] [r] pos) fx.env w = (eval (.Compare l [op.op] [r] pos) fx.env >>= fun c => holding [c] (truthy c)) := by
    rw [isTrue_Compare1, eval_Compare1]; simp only [bind_assoc]
  rw [e]
  exact SimAt.bind (sim_cmp ok hs h1 h2 _ _ _ I) fun va x oa₁ σ₁ s₁ l₁ I₁ t₁ ra => SimAt.holding (sim_truth I₁ ra)
theorem sim_not {x : Expr} {pos : Pos} {a : M V} (h : SimV g hm wk fx (eval x fx.env) a) :
    SimV g hm false fx (eval (.UnaryOp .Not x pos) fx.env) (M.bind a fun x => M.bind (M.ofOpt (truthV x)) fun t => M.pure (.bool (!t))) := fun oa σ s I => by
  rw [arm_eval_UnaryOp]
  refine SimAt.bind (h _ _ _ I) fun va x oa₁ σ₁ s₁ l₁ I₁ t₁ ra => SimAt.stand (SimAt.holding ?_)
  show SimAt _ _ _ _ _ _ _ (holding [va] (truthy va >>= fun t => pure (Value.bool (!t)))) _
  exact SimAt.holding (SimAt.bind (sim_truth I₁ ra) fun b c oa₂ σ₂ s₂ l₂ I₂ t₂ e => SimAt.pure I₂ (by subst e; exact .bool _))
theorem sim_neg {x : Expr} {pos : Pos} {a : M V} (h : SimV g hm wk fx (eval x fx.env) a) :
    SimV g hm false fx (eval (.UnaryOp .USub x pos) fx.env) (M.bind a fun x => M.ofOpt ((asIntV x).map fun i => .int (-i))) := fun oa σ s I => by
  rw [arm_eval_UnaryOp]
  refine SimAt.bind (h _ _ _ I) fun va x oa₁ σ₁ s₁ l₁ I₁ t₁ ra => SimAt.stand (SimAt.holding (SimAt.step I₁ fun z e E => ?_))
  obtain ⟨i, hi, rfl⟩ := Option.map_eq_some_iff.mp e
  unfold asIntV at hi
  split at hi
  · cases hi; cases ra; exact neg_int ⟨Grown.toks _ _, .int _ _⟩
  · cases hi
theorem SimAt.ite {α β : Type} {R : Rel α β} {t1 t2 : Sem α} {m1 m2 : M β} {b : Bool} (h1 : b = true → SimAt g hm fx R oa σ s t1 m1) (h2 : b = false → SimAt g hm fx R oa σ s t2 m2) :
    SimAt g hm fx R oa σ s (if b then t1 else t2) (if b then m1 else m2) := by
  cases b
  · exact h2 rfl
  · exact h1 rfl
theorem Rp.toWk {bad : Addr → Prop} {h : Heap} {v : Value} {x : V} (r : Rp g hm bad h wk v x) (q : wk = true → wk' = true) : Rp g hm bad h wk' v x := by
  cases wk' with
  | true => exact r.weak
  | false => cases wk with
    | true => exact absurd (q rfl) (by decide)
    | false => exact r
theorem SimV.toWk {t : Sem Value} {m : M V} (h : SimV g hm wk fx t m) (q : wk = true → wk' = true) : SimV g hm wk' fx t m := fun oa σ s I => (h oa σ s I).mono fun _ _ _ _ r => r.toWk q
theorem sim_ite {c a b : Expr} {pos : Pos} {mc : M Bool} {ma mb : M V} (hc : SimBo g hm fx (isTrue c fx.env (eval c fx.env)) mc) (ha : SimV g hm wk fx (eval a fx.env) ma) (hb : SimV g hm wk fx (eval b fx.env) mb) :
    SimV g hm wk fx (eval (.IfExp c a b pos) fx.env) (M.bind mc fun t => if t then ma else mb) := fun oa σ s I => by
  rw [arm_eval_IfExp]
  exact SimAt.bind (hc _ _ _ I) fun t t' oa₁ σ₁ s₁ l₁ I₁ t₁ e => by subst e; exact SimAt.ite (fun _ => ha _ _ _ I₁) fun _ => hb _ _ _ I₁
theorem sim_test_ite {c a b : Expr} {pos : Pos} {mc ma mb : M Bool} {w : Sem Value} (hc : SimBo g hm fx (isTrue c fx.env (eval c fx.env)) mc) (ha : SimBo g hm fx (isTrue a fx.env (eval a fx.env)) ma) (hb : SimBo g hm fx (isTrue b fx.env (eval b fx.env)) mb) :
    SimBo g hm fx (isTrue (.IfExp c a b pos) fx.env w) (M.bind mc fun t => if t then ma else mb) := fun oa σ s I => by
  rw [arm_isTrue_IfExp]
  exact SimAt.bind (hc _ _ _ I) fun t t' oa₁ σ₁ s₁ l₁ I₁ t₁ e => by subst e; exact SimAt.ite (fun _ => ha _ _ _ I₁) fun _ => hb _ _ _ I₁
theorem sim_test_not {x : Expr} {pos : Pos} {m : M Bool} {w : Sem Value} (h : SimBo g hm fx (isTrue x fx.env (eval x fx.env)) m) :
    SimBo g hm fx (isTrue (.UnaryOp .Not x pos) fx.env w) (M.bind m fun t => M.pure (!t)) := fun oa σ s I => by
  rw [arm_isTrue_UnaryOp]
  exact SimAt.bind (h _ _ _ I) fun t t' oa₁ σ₁ s₁ l₁ I₁ t₁ e => SimAt.pure I₁ (by subst e; rfl)
theorem sim_all_nil : SimBo g hm fx (allTrue .And [] fx.env) (M.pure true) := fun oa σ s I => by
  rw [arm_allTrue_nil]; exact SimAt.pure I rfl
theorem sim_any_nil : SimBo g hm fx (allTrue .Or [] fx.env) (M.pure false) := fun oa σ s I => by
  rw [arm_allTrue_nil]; exact SimAt.pure I rfl
theorem sim_all_cons {x : Expr} {r : List Expr} {m m' : M Bool} (h : SimBo g hm fx (isTrue x fx.env (eval x fx.env)) m) (hr : SimBo g hm fx (allTrue .And r fx.env) m') :
    SimBo g hm fx (allTrue .And (x :: r) fx.env) (M.bind m fun t => if t then m' else M.pure false) := fun oa σ s I => by
  rw [arm_allTrue_cons]
  refine SimAt.bind (h _ _ _ I) fun t t' oa₁ σ₁ s₁ l₁ I₁ t₁ e => ?_
  subst e
  cases t
  · exact SimAt.pure I₁ rfl
  · exact hr _ _ _ I₁
theorem sim_any_cons {x : Expr} {r : List Expr} {m m' : M Bool} (h : SimBo g hm fx (isTrue x fx.env (eval x fx.env)) m) (hr : SimBo g hm fx (allTrue .Or r fx.env) m') :
    SimBo g hm fx (allTrue .Or (x :: r) fx.env) (M.bind m fun t => if t then M.pure true else m') := fun oa σ s I => by
  rw [arm_allTrue_cons]
  refine SimAt.bind (h _ _ _ I) fun t t' oa₁ σ₁ s₁ l₁ I₁ t₁ e => ?_
  subst e
  cases t
  · exact hr _ _ _ I₁
  · exact SimAt.pure I₁ rfl
theorem sim_and_cons {x : Expr} {y : Sem Value} {r : List (Sem Value)} {pos : Pos} {a b : M V} (h : SimV g hm wk fx (eval x fx.env) a) (hr : SimV g hm wk fx (boolOp pos .And (y :: r)) b) :
    SimV g hm wk fx (boolOp pos .And (eval x fx.env :: y :: r)) (M.bind a fun x => M.bind (M.ofOpt (truthV x)) fun t => if t then b else M.pure x) := fun oa σ s I => by
  rw [boolOp]
  · refine SimAt.bind (h _ _ _ I) fun v x oa₁ σ₁ s₁ l₁ I₁ t₁ ra => SimAt.stand (SimAt.bind (SimAt.holding (sim_truth I₁ ra)) fun t t' oa₂ σ₂ s₂ l₂ I₂ t₂ e => ?_)
    subst e
    cases t
    · exact SimAt.pure I₂ (ra.on l₂ t₂)
    · exact hr _ _ _ I₂
  · simp
theorem sim_or_cons {x : Expr} {y : Sem Value} {r : List (Sem Value)} {pos : Pos} {a b : M V} (h : SimV g hm wk fx (eval x fx.env) a) (hr : SimV g hm wk fx (boolOp pos .Or (y :: r)) b) :
    SimV g hm wk fx (boolOp pos .Or (eval x fx.env :: y :: r)) (M.bind a fun x => M.bind (M.ofOpt (truthV x)) fun t => if t then M.pure x else b) := fun oa σ s I => by
  rw [boolOp]
  · refine SimAt.bind (h _ _ _ I) fun v x oa₁ σ₁ s₁ l₁ I₁ t₁ ra => SimAt.stand (SimAt.bind (SimAt.holding (sim_truth I₁ ra)) fun t t' oa₂ σ₂ s₂ l₂ I₂ t₂ e => ?_)
    subst e
    cases t
    · exact hr _ _ _ I₂
    · exact SimAt.pure I₂ (ra.on l₂ t₂)
  · simp
theorem sim_items_nil {pos : Pos} : SimVs g hm fx (spliced (backTo pos (starEach [] fx.env))) (M.pure []) := fun oa σ s I => SimAt.of_eq (SimAt.pure I .nil) rfl
theorem sim_items_cons {pos : Pos} {e : Expr} {r : List Expr} {a : M V} {b : M (List V)} (he : starEach (e :: r) fx.env = (false, eval e fx.env) :: starEach r fx.env) (h : SimV g hm false fx (eval e fx.env) a) (hr : SimVs g hm fx (spliced (backTo pos (starEach r fx.env))) b) :
    SimVs g hm fx (spliced (backTo pos (starEach (e :: r) fx.env))) (M.bind a fun x => M.bind b fun xs => M.pure (x :: xs)) := fun oa σ s I => by
  rw [he]
  have q : spliced (backTo pos ((false, eval e fx.env) :: starEach r fx.env)) = (eval e fx.env >>= fun v => holding [v] (spliced (backTo pos (starEach r fx.env))) >>= fun vs => pure (v :: vs)) := rfl
  rw [q]
  exact SimAt.bind (h _ _ _ I) fun v x oa₁ σ₁ s₁ l₁ I₁ t₁ ra => SimAt.bind (SimAt.holding (hr _ _ _ I₁)) fun vs xs oa₂ σ₂ s₂ l₂ I₂ t₂ rs => SimAt.pure I₂ (.cons (ra.on l₂ t₂) rs)
theorem sim_tuple {es : List Expr} {k : Nat} {pos : Pos} {b : M (List V)} (h : SimVs g hm fx (spliced (backTo pos (starEach es fx.env))) b) :
    SimV g hm false fx (eval (.Tuple es k pos) fx.env) (M.bind b fun xs => M.ofOpt (if xs.length ≤ szLine then some (.tuple xs) else none)) := fun oa σ s I => by
  rw [arm_eval_Tuple]
  refine SimAt.stand (SimAt.bind (h _ _ _ I) fun vs xs oa₁ σ₁ s₁ l₁ I₁ t₁ rs => SimAt.step I₁ fun z e E => ?_)
  split at e
  · rename_i hsz; cases e
    exact wpAny_newObj_type (made_tuple (tk := s₁.toks) I₁.badLt rs) (by show vs.toArray.size ≤ sizeLine; rw [List.size_toArray, rs.length]; exact sz_le hsz)
  · cases e
theorem sim_list {es : List Expr} {pos : Pos} {b : M (List V)} (h : SimVs g hm fx (spliced (backTo pos (starEach es fx.env))) b) :
    SimV g hm false fx (eval (.List es pos) fx.env) (M.bind b fun xs => M.ofOpt (if xs.length ≤ szLine then some (.list xs) else none)) := fun oa σ s I => by
  rw [arm_eval_List]
  refine SimAt.stand (SimAt.bind (h _ _ _ I) fun vs xs oa₁ σ₁ s₁ l₁ I₁ t₁ rs => SimAt.step I₁ fun z e E => ?_)
  split at e
  · rename_i hsz; cases e
    exact wpAny_newObj_type (made_list (tk := s₁.toks) I₁.badLt rs) (by show vs.toArray.size ≤ sizeLine; rw [List.size_toArray, rs.length]; exact sz_le hsz)
  · cases e
theorem sub_tail {value slice : Expr} {pos : Pos} {o i : Value} {y : Option V} (I : Inv g hm fx oa σ s)
    (h : ∀ z, y = some z → HasItem s o ∧ ∀ E, wpAny (model g.prog g.w) fx.A (getItem o i) (Gives1 g hm (badA fx oa) s z) E s) :
    SimAt g hm fx (RV g hm false) oa σ s (do standAt pos; let r ← subscripted slice (← getitemInPython o) o i; letTemporaryGo value o r; pure r) (M.ofOpt y) := by
  refine SimAt.stand (SimAt.step I fun z e E => ?_)
  obtain ⟨⟨T, id, hT, hl⟩, hg⟩ := h z e
  rw [getitemInPython_of_ne hT.not_modules]
  refine wpAny_bind (wpAny_bind (wpAny_specialOf hT hl ?_))
  refine wpAny_pure ?_
  have fin : ∀ vs, wpAny (model g.prog g.w) fx.A (operate vs (getItem o i) >>= fun r => letTemporaryGo value o r >>= fun _ => pure r) (Gives1 g hm (badA fx oa) s z) E s := fun vs => by
    unfold PySem.operate
    exact wpAny_bind (wpAny_bind (wpAny_holding (wpAny_mono (hg _) (fun a s' p => wpAny_bind (wpAny_release (wpAny_pure (wpAny_bind (wpAny_letTemporaryGo (wpAny_pure p)))))) fun _ _ z => z)))
  unfold subscripted
  split
  · exact fin _
  · rename_i h1; cases h1
  · exact fin _
theorem sim_sub {value slice : Expr} {pos : Pos} {a b : M V} (h1 : SimV g hm wk fx (eval value fx.env) a) (h2 : SimV g hm wk' fx (eval slice fx.env) b) :
    SimV g hm false fx (eval (.Subscript value slice pos) fx.env) (M.bind a fun x => M.bind b fun y => M.ofOpt (subOp x y)) := fun oa σ s I => by
  rw [arm_eval_Subscript]
  exact SimAt.bind (h1 _ _ _ I) fun va x oa₁ σ₁ s₁ l₁ I₁ t₁ ra => SimAt.bind (SimAt.holding (h2 _ _ _ I₁)) fun vb y oa₂ σ₂ s₂ l₂ I₂ t₂ rb => sub_tail I₂ fun z e => sub_ok e (ra.on l₂ t₂) rb
theorem M.assoc {α β γ : Type} (m : M α) (f : α → M β) (k : β → M γ) : M.bind (M.bind m f) k = M.bind m fun a => M.bind (f a) k := by
  funext σ
  simp only [M.bind]
  cases m σ with
  | none => rfl
  | some p => obtain ⟨r, σ'⟩ := p; cases r <;> rfl
theorem SimAt.pre {α β γ : Type} {R : Rel α β} {t : Sem γ} {k : γ → Sem α} {m : M β} (q : γ → Shared → Prop) (I : Inv g hm fx oa σ s) (h : ∀ E, wpAny (model g.prog g.w) fx.A t (fun a s' => Grown s s' ∧ q a s') E s)
    (y : ∀ a s', Grown s s' → q a s' → Inv g hm fx oa σ s' → SimAt g hm fx R oa σ s' (k a) m) : SimAt g hm fx R oa σ s (t >>= k) m := fun r σ' e =>
  wpAny_bind (wpAny_mono (h _) (fun a s' p => wpAny_mono (y a s' p.1 p.2 (I.grown p.1) r σ' e) (fun _ _ z => z.lift (.refl _) p.1.trX) fun _ _ z => z.lift (.refl _) p.1.trX) fun _ _ z => z)
theorem sim_part_none {oa : Nat → Option Addr} {σ : St} {s : Shared} (I : Inv g hm fx oa σ s) : SimAt g hm fx (fun bad h v y => RpO g hm bad h v y) oa σ s (valueOrNone (evalOpt none fx.env)) (M.pure none) := SimAt.of_eq (SimAt.pure I .none) rfl
theorem sim_part_some {e : Expr} {a : M V} (h : SimV g hm wk fx (eval e fx.env) a) : SimO g hm fx (valueOrNone (evalOpt (some e) fx.env)) (M.bind a fun x => M.pure (some x)) := fun oa σ s I r σ' e => by
  show wpAny _ _ (eval _ fx.env) _ _ _
  refine bind_elim e (fun c e₁ => ?_) fun b σ₁ e e' => ?_
  · exact wpAny_mono (h _ _ _ I _ _ e₁) (fun a s' p => p.no) fun v s' p => p.cast rfl
  · obtain ⟨rfl, rfl⟩ := pure_some e'
    refine wpAny_mono (h _ _ _ I _ _ e) (fun a s' p => ?_) fun v s' p => p.no
    refine p.ok fun oa' l I' t rr => ?_
    exact ⟨_, oa', rfl, l, I', t, .some rr⟩
theorem sim_slice {value : Expr} {lo hi : Option Expr} {p pos : Pos} {a : M V} {ml mh : M (Option V)} (h1 : SimV g hm wk fx (eval value fx.env) a) (h2 : SimO g hm fx (valueOrNone (evalOpt lo fx.env)) ml) (h3 : SimO g hm fx (valueOrNone (evalOpt hi fx.env)) mh) :
    SimV g hm false fx (eval (.Subscript value (.Slice lo hi none p) pos) fx.env) (M.bind a fun x => M.bind ml fun l => M.bind mh fun h => M.ofOpt (sliceOp x l h)) := fun oa σ s I => by
  rw [arm_eval_Subscript]
  refine SimAt.bind (h1 _ _ _ I) fun va x oa₁ σ₁ s₁ l₁ I₁ t₁ ra => ?_
  have em : (M.bind ml fun l => M.bind mh fun h => M.ofOpt (sliceOp x l h)) = M.bind (M.bind ml fun l => M.bind mh fun h => M.pure (l, h)) fun q => M.ofOpt (sliceOp x q.1 q.2) := by
    simp only [M.assoc]
  rw [em]
  refine SimAt.bind (R := fun bad h v q => ∃ sl vl vu, v = .ref sl ∧ h.IsSliceOf sl vl vu .none ∧ RpO g hm bad h vl q.1 ∧ RpO g hm bad h vu q.2) (SimAt.holding ?_) fun v q oa₂ σ₂ s₂ l₂ I₂ t₂ rr => ?_
  · rw [arm_eval_Slice]
    refine SimAt.bind (h2 _ _ _ I₁) fun vl xl oa₂ σ₂ s₂ l₂ I₂ t₂ rl => SimAt.bind (SimAt.holding (h3 _ _ _ I₂)) fun vu xu oa₃ σ₃ s₃ l₃ I₃ t₃ ru => ?_
    refine SimAt.pre (fun v s' => v = .none ∧ s' = s₃) I₃ (fun E => wpAny_holding (wpAny_pure ⟨.refl _, rfl, rfl⟩)) fun v s' _ hv I₄ => ?_
    obtain ⟨rfl, rfl⟩ := hv
    refine SimAt.of_eq (t := newFields "slice" [vl, vu, .none]) ?_ rfl
    refine SimAt.mono (R := fun bad h v q => ∃ sl vl vu, v = .ref sl ∧ h.IsSliceOf sl vl vu .none ∧ RpO g hm bad h vl q.1 ∧ RpO g hm bad h vu q.2) ?_ fun _ _ _ _ z => z
    refine SimAt.step (b := some (xl, xu)) I₃ fun y e E => ?_
    cases e
    refine wpAny_newObj_type ⟨Grown.push _ _ s'.toks, _, vl, vu, rfl, ?_, ?_, ?_⟩
    · exact Heap.IsSliceOf.new ..
    · exact (rl.on l₃ t₃).keepX (Grown.push s' _ s'.toks).trX.keep
    · exact ru.keepX (Grown.push s' _ s'.toks).trX.keep
  · obtain ⟨sl, vl, vu, rfl, hs, rl, ru⟩ := rr
    exact sub_tail I₂ fun z e => slice_ok e I₂.badLt (ra.on l₂ t₂) rl ru hs
theorem sim_rev {value st : Expr} {p pos : Pos} {a : M V} (h1 : SimV g hm wk fx (eval value fx.env) a) (h2 : SimV g hm false fx (eval st fx.env) (M.pure (.int (-1)))) :
    SimV g hm false fx (eval (.Subscript value (.Slice none none (some st) p) pos) fx.env) (M.bind a fun x => M.ofOpt (revOp x)) := fun oa σ s I => by
  rw [arm_eval_Subscript]
  refine SimAt.bind (h1 _ _ _ I) fun va x oa₁ σ₁ s₁ l₁ I₁ t₁ ra => ?_
  have em : M.ofOpt (revOp x) = M.bind (M.pure ()) fun _ => M.ofOpt (revOp x) := rfl
  rw [em]
  refine SimAt.bind (R := fun bad h v (_ : Unit) => ∃ sl vk, v = .ref sl ∧ h.IsSliceOf sl .none .none vk ∧ Rp g hm bad h false vk (.int (-1))) (SimAt.holding ?_) fun v q oa₂ σ₂ s₂ l₂ I₂ t₂ rr => ?_
  · rw [arm_eval_Slice]
    intro r σ' e
    obtain ⟨rfl, rfl⟩ := pure_some e
    refine wpAny_bind (wpAny_pure (wpAny_bind (wpAny_holding (wpAny_pure (wpAny_bind (wpAny_holding (wpAny_mono (h2 _ _ _ I₁ _ _ rfl) (fun vk s' p => ?_) fun _ _ p => p.no)))))))
    obtain ⟨y, oa', ey, l', I', t', rk⟩ := p
    cases ey
    have gr := Grown.push s' { cls := .type "slice", data := .fields #[.none, .none, vk] } s'.toks
    exact wpAny_newObj_type ⟨(), oa', rfl, l', I'.grown gr, t'.trans gr.trX, _, vk, rfl, Heap.IsSliceOf.new .., rk.keepX gr.trX.keep⟩
  · obtain ⟨sl, vk, rfl, hs, rk⟩ := rr
    exact sub_tail I₂ fun z e => rev_ok e I₂.badLt (ra.on l₂ t₂) rk hs
end
end Mine
end

noncomputable section
set_option maxRecDepth 100000
namespace Mine
open PySem PySem.Calls PyProof.Rows PySem.W

section
variable {g : Gl} {hm wk wk' : Bool} {bad : Addr → Prop} {A : Around} {E : Value → Shared → Prop} {s : Shared} {prog : Program} {w : World} {P : Prog}

theorem sz63 {n : Nat} (h : n ≤ szLine) : (n : Int) < 2 ^ 63 := by
  have : szLine = 1048576 := rfl
  omega
theorem seqV_elim {C : V → List V → Prop} {x : V} {l : List V} (e : seqV x = some l) (kl : ∀ l : List V, l.length ≤ szLine → C (.list l) l) (kt : ∀ l : List V, l.length ≤ szLine → C (.tuple l) l) (ks : ∀ s : List Nat, s.length ≤ szLine → C (.str s) (charsV s)) : C x l := by
  cases x with
  | list m => exact if_elim e fun h => kl m h
  | tuple m => exact if_elim e fun h => kt m h
  | str m => exact if_elim e fun h => ks m h
  | _ => cases e
theorem all_size {vs : Array Value} {l : List V} {h : Heap} (r : RpAll g hm bad h vs.toList l) : vs.size = l.length := by rw [← Array.length_toList]; exact r.length
theorem chars_size (s : List Nat) : (charsV s).length = s.length := List.length_map _
theorem len_ok {v : Value} {x : V} {l : List V} (e : seqV x = some l) (r : Rp g hm bad s.heap wk v x) : wpAny (model prog w) A (call (.builtin "len") [v]) (Gives1 g hm bad s (.int l.length)) E s :=
  seqV_elim (C := fun x l => Rp g hm bad s.heap wk v x → wpAny (model prog w) A (call (.builtin "len") [v]) (Gives1 g hm bad s (.int l.length)) E s) e
    (fun l hz r => r.list_elim fun a o vs n _ ha hc hd hl => all_size hl ▸ PyProof.Rows.len_list ⟨_, ha, hc, _, hd⟩ (by rw [all_size hl]; exact sz63 hz) ⟨Grown.toks _ _, .int _ _⟩)
    (fun l hz r => r.tuple_elim fun a o vs n _ ha hc hd hl => all_size hl ▸ PyProof.Rows.len_tuple ⟨_, ha, hc, _, hd⟩ (by rw [all_size hl]; exact sz63 hz) ⟨Grown.toks _ _, .int _ _⟩)
    (fun l hz r => r.str_elim fun sx t ea => (int_len ea).trans (chars_size l).symm ▸ P.len_str (by rw [Str.length, int_len ea]; have := sz63 hz; omega) ⟨Grown.toks _ _, .int _ _⟩) r
noncomputable def Ty.name : Ty → Option String
  | .str => some "str"
  | .tuple => some "tuple"
  | .own _ => none
theorem isT_elim {W : Value → Bool → Prop} {k : Nat} {v : Value} {x : V} {b : Bool} (e : isT k x = some b) (r : Rp g hm bad s.heap wk v x) (f0 : W .none (k == 0)) (f1 : ∀ c, W (.bool c) (k == 1 || k == 2)) (f2 : ∀ i t, W (.int i t) (k == 2)) (f3 : ∀ sx t, W (.str sx t) (k == 3))
    (f4 : ∀ a o, s.heap.get? a = some o → o.cls = .type "list" → W (.ref a) (k == 4)) (f5 : ∀ a o, s.heap.get? a = some o → o.cls = .type "tuple" → W (.ref a) (k == 5)) (f6 : ∀ a o, s.heap.get? a = some o → o.cls = .type "dict" → W (.ref a) (k == 6)) : W v b := by
  cases r with
  | none => exact some_elim e f0
  | bool c => exact some_elim e (f1 c)
  | int i t => exact some_elim e (f2 i t)
  | str t _ => exact some_elim e (f3 _ t)
  | list _ ha hc => exact some_elim e (f4 _ _ ha hc)
  | tuple _ ha hc => exact some_elim e (f5 _ _ ha hc)
  | dict0 _ ha hc => exact some_elim e (f6 _ _ ha hc)
  | exc => cases e
theorem isi_ok {t : Ty} {T : String} {v : Value} {x : V} {b : Bool} (hT : t.name = some T) (e : isInst P t x = some b) (r : Rp g hm bad s.heap wk v x) : wpAny (model prog w) A (call (.builtin "isinstance") [v, .type T]) (Gives1 g hm bad s (.bool b)) E s := by
  have G0 : ∀ {b}, Gives1 g hm bad s (.bool b) (.bool b) s := ⟨.refl _, .bool _⟩
  have G1 : ∀ {b}, Gives1 g hm bad s (.bool b) (.bool b) { s with toks := s.toks + 1 } := ⟨Grown.toks _ _, .bool _⟩
  cases t with
  | own c => cases hT
  | str =>
    exact some_elim hT (isT_elim (W := fun v b => wpAny (model prog w) A (call (.builtin "isinstance") [v, .type "str"]) (Gives1 g hm bad s (.bool b)) E s) e r (IsiPair.NoneType_str G1) (fun _ => IsiPair.bool_str G1) (fun _ _ => IsiPair.int_str G1) (fun _ _ => IsiPair.str_str G0)
      (fun _ _ ha hc => IsiPair.list_str ha hc G1) (fun _ _ ha hc => IsiPair.tuple_str ha hc G1) (fun _ _ ha hc => IsiPair.dict_str ha hc G1))
  | tuple =>
    exact some_elim hT (isT_elim (W := fun v b => wpAny (model prog w) A (call (.builtin "isinstance") [v, .type "tuple"]) (Gives1 g hm bad s (.bool b)) E s) e r (IsiPair.NoneType_tuple G1) (fun _ => IsiPair.bool_tuple G1) (fun _ _ => IsiPair.int_tuple G1) (fun _ _ => IsiPair.str_tuple G1)
      (fun _ _ ha hc => IsiPair.list_tuple ha hc G1) (fun _ _ ha hc => IsiPair.tuple_tuple ha hc G0) (fun _ _ ha hc => IsiPair.dict_tuple ha hc G1))

theorem grown_of {h' : Heap} {tk : Nat} (k : ∀ b o, s.heap.get? b = some o → h'.get? b = some o) : Grown s { s with heap := h', toks := tk } := ⟨k, rfl, rfl⟩
theorem chars_all {h : Heap} (l : List Nat) : ∀ vs : List Value, vs.length = l.length → (∀ (i : Nat) (v : Value), vs[i]? = some v → ∃ c u, l[i]? = some c ∧ v = Value.str ⟨#[c]⟩ u) → RpAll g hm bad h vs (charsV l) := by
  induction l with
  | nil => exact fun vs e _ => by cases List.length_eq_zero_iff.mp e; exact .nil
  | cons c l ih =>
    intro vs e q
    cases vs with
    | nil => cases e
    | cons v vs =>
      obtain ⟨c', u, h1, rfl⟩ := q 0 v rfl
      cases h1
      exact .cons (.str _ rfl) (ih vs (Nat.succ.inj e) fun i v hv => q (i + 1) v hv)
theorem made_at {h' : Heap} {vs : Array Value} {c tk : Nat} {l : List V} (hb : ∀ a, bad a → Live s.heap a) (k : ∀ b o, s.heap.get? b = some o → h'.get? b = some o) (hD : h'.get? s.heap.objs.size = some { cls := .type "list", dict := none, data := .seq vs c, slots := #[] }) (rr : RpAll g hm bad h' vs.toList l) :
    Gives1 g hm bad s (.list l) (.ref s.heap.objs.size) { s with heap := h', toks := tk } := ⟨grown_of k, .list ⟨.inr (fresh_ok hb), rfl⟩ hD rfl rfl rr⟩
theorem list_ok {v : Value} {x : V} {l : List V} (hh : (∃ y, x = .str y) → A.handled = none) (e : seqV x = some l) (hb : ∀ a, bad a → Live s.heap a) (r : Rp g hm bad s.heap wk v x) :
    wpAny (model prog w) A (call (.type "list") [v]) (Gives1 g hm bad s (.list l)) E s :=
  seqV_elim (C := fun x l => ((∃ y, x = .str y) → A.handled = none) → Rp g hm bad s.heap wk v x → wpAny (model prog w) A (call (.type "list") [v]) (Gives1 g hm bad s (.list l)) E s) e
    (fun l hz _ r => r.list_elim fun a o vs n _ ha hc hd hl => call_list_seq (hsz := by rw [all_size hl]; exact sz_le hz) _ (.inl rfl) ha hc hd fun h' c' hk hD => made_at (tk := s.toks) hb hk hD (hl.keepX (.of_keeps hk)))
    (fun l hz _ r => r.tuple_elim fun a o vs n _ ha hc hd hl => call_list_seq (hsz := by rw [all_size hl]; exact sz_le hz) _ (.inr rfl) ha hc hd fun h' c' hk hD => made_at (tk := s.toks) hb hk hD (hl.keepX (.of_keeps hk)))
    (fun l hz hh r => r.str_elim fun sx t ea => call_list_str (hh ⟨_, rfl⟩) _ _ (hn := by rw [int_len ea]; exact sz_le hz) fun h' tk acc c hk hD hI => made_at hb hk hD (chars_all _ _ (by rw [Array.length_toList, hI.1, int_len ea]) fun i v hv => by
      obtain ⟨c, u, hc, rfl⟩ := hI.2 i v (get_arr hv)
      exact ⟨c, u, by rw [← ea, Array.getElem?_toList]; exact hc, rfl⟩)) hh r
theorem made_tup {h' : Heap} {vs : Array Value} {l : List V} (hb : ∀ a, bad a → Live s.heap a) (hl : RpAll g hm bad s.heap vs.toList l) (hk : ∀ b o, s.heap.get? b = some o → h'.get? b = some o) : Gives1 g hm bad s (.tuple l) (.ref h'.objs.size) { s with heap := h'.push { cls := .type "tuple", data := .seq vs } } := by
  have k2 : ∀ b o, s.heap.get? b = some o → (h'.push { cls := .type "tuple", data := .seq vs }).get? b = some o := fun b o e => Heap.get?_push_of_some _ (hk b o e)
  refine ⟨grown_of (tk := s.toks) k2, .tuple (fun q => ?_) (Heap.get?_push_size _ rfl) rfl rfl (hl.keepX (.of_keeps k2))⟩
  obtain ⟨o', e'⟩ := hb _ q
  have := hk _ _ e'
  rw [size_none] at this; cases this
theorem tuple_ok {v : Value} {x : V} {l : List V} (hn : ∀ y, x ≠ .str y) (e : seqV x = some l) (hb : ∀ a, bad a → Live s.heap a) (r : Rp g hm bad s.heap wk v x) :
    wpAny (model prog w) A (call (.type "tuple") [v]) (Gives1 g hm bad s (.tuple l)) E s :=
  seqV_elim (C := fun x l => (∀ y, x ≠ .str y) → Rp g hm bad s.heap wk v x → wpAny (model prog w) A (call (.type "tuple") [v]) (Gives1 g hm bad s (.tuple l)) E s) e
    (fun l hz _ r => r.list_elim fun a o vs n _ ha hc hd hl => call_tuple_list ⟨_, ha, hc, _, hd⟩ (fun h' hk => made_tup hb hl hk) (by rw [all_size hl]; exact sz_le hz))
    (fun l hz _ r => r.tuple_elim fun a o vs n hbb ha hc hd hl => call_tuple_same ⟨_, ha, hc, _, hd⟩ ⟨.refl _, .tuple hbb ha hc hd hl⟩)
    (fun l _ hn _ => absurd rfl (hn l)) hn r
theorem strsAre_of {h : Heap} {vs : List Value} {l : List V} {ss : List (List Nat)} (e : strsL l = some ss) (r : RpAll g hm bad h vs l) : StrsAre vs (ss.map fun x => (⟨x.toArray⟩ : Str)) := by
  refine r.ind (D := fun vs l => ∀ ss, strsL l = some ss → StrsAre vs (ss.map fun x => (⟨x.toArray⟩ : Str))) (fun ss e => some_elim e .nil) (fun v vs x l r _ ih ss e => ?_) ss e
  cases x with
  | str m => exact map_elim e fun q hq => r.str_elim fun sx t ea => by rw [str_of ea]; exact .cons _ _ (ih q hq)
  | _ => cases e
theorem joinL_fold (sep : List Nat) : ∀ (ss : List (List Nat)) (a : List Nat), ((ss.map fun x => (⟨x.toArray⟩ : Str)).foldl (fun acc p => acc ++ sep.toArray ++ p.cps) a.toArray).toList = joinL sep (a :: ss)
  | [], a => by simp [joinL]
  | x :: r, a => by
    have := joinL_fold sep r (a ++ sep ++ x)
    simp only [List.map_cons, List.foldl_cons]
    rw [show a.toArray ++ sep.toArray ++ x.toArray = (a ++ sep ++ x).toArray by simp, this]
    cases r <;> simp [joinL]
theorem glued_toList (sep : List Nat) : ∀ ss : List (List Nat), (Builtin.Str.glued ⟨sep.toArray⟩ (ss.map fun x => (⟨x.toArray⟩ : Str))).cps.toList = joinL sep ss
  | [] => rfl
  | x :: r => joinL_fold sep r x
theorem join_ok {v u : Value} {sep : List Nat} {l : List V} {ss : List (List Nat)} (e : strsL l = some ss) (hz : (ss.map List.length).sum + ss.length * sep.length ≤ szLine) (rs : Rp g hm bad s.heap wk' u (.str sep)) (r : Rp g hm bad s.heap wk v (.list l)) :
    wpAny (model prog w) A (call (.builtin "str.join") [u, v]) (Gives1 g hm bad s (.str (joinL sep ss))) E s := by
  refine rs.str_elim fun sx t ea => r.list_elim fun a o vs n _ ha hc hd hl => ?_
  have := str_of ea
  subst this
  refine PyProof.Rows.join_list ⟨_, ha, hc, _, hd⟩ (strsAre_of e hl) ?_ fun t' k => ⟨Grown.toks _ _, .str _ (glued_toList _ _)⟩
  have e1 : ((ss.map fun x => (⟨x.toArray⟩ : Str)).map (·.length)) = ss.map List.length := by simp [Str.length]
  rw [e1, List.length_map]
  have : (⟨sep.toArray⟩ : Str).length = sep.length := by simp [Str.length]
  rw [this]
  have : szLine = 1048576 := rfl
  omega
theorem bools_of {h : Heap} {vs : List Value} {l : List V} {bs : List Bool} (e : boolsL l = some bs) (r : RpAll g hm bad h vs l) : ∃ as, ReadsAll h vs (bs.map .bool) as := by
  refine r.ind (D := fun vs l => ∀ bs, boolsL l = some bs → ∃ as, ReadsAll h vs (bs.map .bool) as) (fun bs e => some_elim e ⟨_, .nil⟩) (fun v vs x l r _ ih bs e => ?_) bs e
  cases x with
  | bool b => exact map_elim e fun q hq => r.bool_elim ((ih q hq).elim fun as ra => ⟨_, .cons (.bool _) ra⟩)
  | _ => cases e
theorem countIn_bools (b : Bool) : ∀ bs : List Bool, Spec.countIn (.bool b) (bs.map PyData.bool) = ((bs.count b : Nat) : Int)
  | [] => rfl
  | c :: r => by
    rw [List.map_cons, Spec.countIn, countIn_bools b r, List.count_cons]
    simp only [Spec.same]
    cases c <;> cases b <;> simp <;> omega
theorem count_ok {v : Value} {b : Bool} {l : List V} {bs : List Bool} (e : boolsL l = some bs) (r : Rp g hm bad s.heap wk v (.list l)) :
    wpAny (model prog w) A (call (.builtin "list.count") [v, .bool b]) (Gives1 g hm bad s (.int (bs.count b))) E s := by
  refine r.list_elim fun a o vs n _ ha hc hd hl => ?_
  obtain ⟨as, ra⟩ := bools_of e hl
  rw [← countIn_bools]
  exact count_list_bools (vs := vs.toList) ⟨_, ha, hc, _, hd⟩ ra (by simp [Spec.Shape.has]) ⟨Grown.toks _ _, .int _ _⟩
end
end Mine
end

noncomputable section
set_option maxRecDepth 100000
namespace Mine
open PySem PySem.Calls PyProof.Rows PySem.W

noncomputable def stepN (acc : List Nat) (x : Nat) : List Nat := if acc.any (· == x) then acc else acc ++ [x]
theorem dedupN_filter (p : Nat → Bool) : ∀ l : List Nat, dedupN (l.filter p) = (dedupN l).filter p
  | [] => rfl
  | x :: r => by
    rw [List.filter_cons]
    simp only [dedupN]
    rw [List.filter_cons]
    cases hp : p x with
    | true =>
      simp only [if_true, dedupN]
      rw [dedupN_filter p r, List.filter_filter, List.filter_filter]
      congr 2
      funext a; exact Bool.and_comm _ _
    | false =>
      simp only [Bool.false_eq_true, if_false]
      rw [dedupN_filter p r, List.filter_filter]
      apply List.filter_congr
      intro a _
      by_cases h : a = x
      · subst h; simp [hp]
      · simp [h]
theorem foldN : ∀ (l acc : List Nat), l.foldl stepN acc = acc ++ dedupN (l.filter fun x => !acc.any (· == x))
  | [], acc => by simp [dedupN]
  | x :: r, acc => by
    rw [List.foldl_cons, foldN r]
    unfold stepN
    rw [List.filter_cons]
    cases h : acc.any (· == x) with
    | true => simp
    | false =>
      simp only [Bool.false_eq_true, if_false, Bool.not_false, if_true, dedupN, List.append_assoc, List.singleton_append]
      rw [← dedupN_filter, List.filter_filter]
      congr 3
      apply List.filter_congr
      intro a _
      simp only [List.any_append, List.any_cons, List.any_nil, Bool.or_false, Bool.not_or]
      rw [Bool.and_comm]
      congr 1
      by_cases e : x = a
      · subst e; simp
      · have e' : a ≠ x := fun q => e q.symm
        simp only [bne]
        rw [Bool.eq_iff_iff]
        simp [e, e']
theorem foldN_nil (l : List Nat) : l.foldl stepN [] = dedupN l := by
  rw [foldN]
  simp only [List.any_nil, Bool.not_false, List.nil_append]
  congr 1
  exact List.filter_eq_self.mpr (by simp)

noncomputable def sOf (c : Nat) : Str := ⟨#[c]⟩
theorem sOf_inj {a b : Nat} : sOf a = sOf b ↔ a = b := by unfold sOf; simp
noncomputable def metS (l : List Nat) (i : Nat) (k : Str) : Bool := ((l.take i).foldl stepN []).any (fun c => sOf c == k)
noncomputable def metN (l : List Nat) (i : Nat) : Nat := ((l.take i).foldl stepN []).length
theorem met_succ {l : List Nat} {i c : Nat} (h : l[i]? = some c) : (l.take (i + 1)).foldl stepN [] = stepN ((l.take i).foldl stepN []) c := by
  rw [List.take_add_one, h]; simp
theorem metS_succ {l : List Nat} {i c : Nat} (h : l[i]? = some c) (k : Str) : metS l (i + 1) k = (metS l i k || decide (k = sOf c)) := by
  unfold metS
  rw [met_succ h]
  unfold stepN
  split
  · rename_i q
    obtain ⟨y, hy, e⟩ := List.any_eq_true.mp q
    have := eq_of_beq e; subst this
    by_cases hk : k = sOf y
    · subst hk
      simp only [decide_true, Bool.or_true]
      exact List.any_eq_true.mpr ⟨y, hy, by simp⟩
    · simp [hk]
  · rw [List.any_append]
    congr 1
    simp only [List.any_cons, List.any_nil, Bool.or_false]
    by_cases hk : k = sOf c
    · subst hk; simp
    · simp [hk, Ne.symm hk]
theorem metN_succ {l : List Nat} {i c : Nat} (h : l[i]? = some c) : metN l (i + 1) = if metS l i (sOf c) then metN l i else metN l i + 1 := by
  unfold metN metS
  rw [met_succ h]
  generalize List.foldl stepN [] (List.take i l) = q
  unfold stepN
  have : (q.any fun x => x == c) = (q.any fun x => sOf x == sOf c) := by
    congr 1; funext x
    by_cases e : x = c
    · subst e; simp
    · have h1 : sOf x ≠ sOf c := fun q => e (sOf_inj.mp q)
      have h2 : (x == c) = false := by simpa using e
      have h3 : (sOf x == sOf c) = false := by simpa using h1
      rw [h2, h3]
  rw [this]
  split <;> simp
theorem metN_le (l : List Nat) : ∀ i, i ≤ l.length → metN l i ≤ i
  | 0, _ => by simp [metN]
  | i + 1, h => by
    have hl : i < l.length := h
    rw [metN_succ (List.getElem?_eq_getElem hl)]
    have := metN_le l i (by omega)
    split <;> omega

section
variable {prog : Program} {w : World} {A : Around} {R : Result → Shared → Prop} {I : Addr} {fp wr : List Addr} {P : Nat → Value → Prop} {St : Nat → Heap → Prop}

theorem set_loop {l : List Nat} (W : Walks prog w A.in1 I fp wr l.length P St) (S : Addr) (hSf : S ∉ fp)
    (hval : ∀ i v, P i v → ∃ c t, l[i]? = some c ∧ v = .str (sOf c) t) (hb : l.length + 1 < scanBound) :
    ∀ (k i : Nat) (s : Shared), l.length - i = k → i ≤ l.length → St i s.heap → s.heap.SetOf (strKind prog w) S (metS l i) (metN l i) →
      (∀ h' tk, (∀ b o, b ≠ S → b ∉ wr → s.heap.get? b = some o → h'.get? b = some o) → h'.SetOf (strKind prog w) S (metS l l.length) (metN l l.length) → R (.ok (.ret .none)) { s with heap := h', toks := tk }) →
      codeAny (model prog w) A (.builtin "set.update.loop" ⟨[.ref S, .ref I], []⟩) R s := by
  have hSw : S ∉ wr := fun h => hSf (W.sub _ h)
  intro k
  induction k with
  | zero =>
    intro i s hk hi hst hS hR
    have hin : i = l.length := by omega
    subst hin
    refine codeAny_builtin PyProof.Rows.F.entry_set_update_loop ?_
    rw [Around.under_plainId PyProof.Rows.F.plain_set_update_loop _]
    show wpAny _ A.in1 (pyNext (.ref I) >>= _) _ _ s
    refine wpAny_bind (W.done s _ _ hst fun h' tk hm => ?_)
    show wpAny _ A.in1 (ret Value.none) _ _ _
    exact wpAny_pure (hR h' tk (fun b o _ hb e => hm b o hb e) (by
      obtain ⟨o, es, ep, t, ho, rest⟩ := hS
      exact ⟨o, es, ep, t, hm S _ hSw ho, rest⟩))
  | succ k ih =>
    intro i s hk hi hst hS hR
    have hlt : i < l.length := by omega
    refine codeAny_builtin PyProof.Rows.F.entry_set_update_loop ?_
    rw [Around.under_plainId PyProof.Rows.F.plain_set_update_loop _]
    show wpAny _ A.in1 (pyNext (.ref I) >>= _) _ _ s
    refine wpAny_bind (W.item i s _ _ hlt hst fun v h₁ tk₁ hP hst' hm => ?_)
    obtain ⟨c, t, hc, rfl⟩ := hval i v hP
    have hS' : h₁.SetOf (strKind prog w) S (metS l i) (metN l i) := by
      obtain ⟨o, es, ep, tb, ho, rest⟩ := hS
      exact ⟨o, es, ep, tb, hm S _ hSw ho, rest⟩
    show wpAny _ A.in1 (holding [Value.str (sOf c) t] (setAdd S (.str (sOf c) t)) >>= _) _ _ _
    refine wpAny_bind (wpAny_holding ?_)
    unfold setAdd
    refine wpAny_holding ?_
    have hkey : (strKind prog w).is (sOf c) (.str (sOf c) t) = true := by simp [PySem.strKind, PySem.Value.isStrOf]
    refine wpAny_bind ((strKind prog w).pyHash (k := sOf c) hkey ?_)
    have hroom : metN l i + 1 < scanBound := by have := metN_le l i hi; omega
    refine wpAny_setAddHashed_of (knd := strKind prog w) hkey rfl hS' hroom fun h' hsb hS2 => ?_
    have hSi : h'.SetOf (strKind prog w) S (metS l (i + 1)) (metN l (i + 1)) :=
      SetOf_congr hS2 (fun k' => by rw [metS_succ hc]) (by rw [metN_succ hc])
    refine wpAny_pure ⟨plainId_quiet PyProof.Rows.F.plain_set_update_loop _, ih (i + 1) _ (by omega) hlt (W.frame _ _ _ hst' fun b hb o e => ?_) hSi fun h'' tk'' hm'' hS'' => ?_⟩
    · exact hsb.extBut b o (fun h : b = S => hSf (by rw [← h]; exact hb)) e
    · exact hR h'' tk'' (fun b o hbS hbw e => hm'' b o hbS hbw (hsb.extBut b o hbS (hm b o hbw e))) hS''
end

section
variable {prog : Program} {w : World} {A : Around} {E : Value → Shared → Prop} {s : Shared}
theorem sub_str_set : isSubtype (.type "str") (.type "set") = pure false := by rw [isSubtype_type]; kernel_rfl
theorem sub_str_frozenset : isSubtype (.type "str") (.type "frozenset") = pure false := by rw [isSubtype_type]; kernel_rfl

set_option maxHeartbeats 3200000 in
theorem call_set_str {x : Str} {t : Tok} {Q : Value → Shared → Prop} (hh : A.handled = none) (hb : x.cps.toList.length + 1 < scanBound)
    (h : ∀ (h' : Heap) (tk : Nat), h'.SetOf (strKind prog w) s.heap.objs.size (metS x.cps.toList x.cps.toList.length) (metN x.cps.toList x.cps.toList.length) →
      (∀ b o, s.heap.get? b = some o → h'.get? b = some o) → Q (.ref s.heap.objs.size) { s with heap := h', toks := tk }) :
    wpAny (model prog w) A (call (.type "set") [.str x t]) Q E s := by
  obtain ⟨c, tl, hmro⟩ := PySem.F.called_set.mro
  have hmade := PySem.F.called_set.made
  have hsub := PySem.F.called_set.sub
  refine wpAny_call (codeAny_of_tree ?_)
  show wpAny _ _ (callAny (.type "set") _) _ _ _
  refine wpAny_pure ⟨Code.quiet_builtin _ (by decide +kernel), codeAny_builtin PySem.F.entry_type_call ?_⟩
  rw [Around.under_plain (weight_type_call_type "set" [.str x t] []) rfl]
  have h1 := PySem.F.called_set.notType
  have h2 := PySem.F.called_set.canCreate
  have hct := PySem.F.typeCall_set_1 (.str x t)
  repeat (any_goals (first | assumption | wp_step))
  refine codeAny_mono (code_set_new_1 (.str x t) (E := E) (Q₁ := fun obj s₁ => ∃ led : Bool, obj = .ref s.heap.objs.size ∧ s₁ = { s with heap := s.heap.push { cls := .type "set", dict := none, data := .set #[] 0 (.fresh 0 0 led) } }) fun led => ⟨led, rfl, rfl⟩) fun r s₁ hr => ?_
  cases r with
  | error e => exact hr
  | ok fl =>
    cases fl with
    | ret obj =>
      obtain ⟨led, rfl, rfl⟩ := hr
      have hS : (s.heap.push { cls := .type "set", dict := none, data := .set #[] 0 (.fresh 0 0 led) }).get? s.heap.objs.size = some { cls := .type "set", dict := none, data := .set #[] 0 (.fresh 0 0 led) } := Heap.get?_push_size _ rfl
      have hT : Shared.TypeIs { s with heap := s.heap.push { cls := .type "set", dict := none, data := .set #[] 0 (.fresh 0 0 led) } } (.ref s.heap.objs.size) "set" := ⟨_, hS, rfl⟩
      have hli := PySem.F.called_set.init.lookup
      have hbi := PySem.F.called_set.init.bind (.ref s.heap.objs.size)
      repeat (any_goals (first | assumption | wp_step))
      refine codeAny_mono (codeAny_call_builtin (R := wants (fun r s₂ => r = .none ∧ ∃ h' tk, s₂ = { s with heap := h', toks := tk } ∧
          h'.SetOf (strKind prog w) s.heap.objs.size (metS x.cps.toList x.cps.toList.length) (metN x.cps.toList x.cps.toList.length) ∧
          (∀ b o, s.heap.get? b = some o → h'.get? b = some o)) E) PySem.F.called_set.init.plain PySem.F.entry_set_init (check_set_init_1 hT ?_)) fun r₂ s₂ hr₂ => ?_
      · have hsls := sub_str_set
        have hslf := sub_str_frozenset
        have hne : (Value.type "str" == Value.type "dict") = false := by decide
        unfold Builtin.«set.__init__» noKeywords Builtin.Frozenset.updateFrom
        generalize hPI : pyIter = PI
        wp_walk
        subst hPI
        refine wpAny_pyIter_str fun o St W hst => ?_
        refine wpAny_bind (wpAny_runValue ?_)
        have hh3 : A.in1.in1.in1.handled = none := by simp [hh]
        have e0 : x.cps.size = x.cps.toList.length := by simp
        have W' := W _ hh3
        rw [e0] at W'
        have hSf : s.heap.objs.size ∉ [(s.heap.push { cls := .type "set", dict := none, data := .set #[] 0 (.fresh 0 0 led) }).objs.size] := by
          rw [Heap.size_push]; simp only [List.mem_cons, List.mem_singleton, List.not_mem_nil, or_false]
          exact Nat.ne_of_lt (Nat.lt_succ_self _)
        refine set_loop W' s.heap.objs.size hSf (fun i v hv => ?_) hb (x.cps.toList.length - 0) 0 _ (by omega) (Nat.zero_le _) hst ?hS0 ?hR
        · obtain ⟨c, u, hc, rfl⟩ := hv
          exact ⟨c, u, by simpa using hc, rfl⟩
        case hS0 =>
          have hget : ((s.heap.push { cls := .type "set", dict := none, data := .set #[] 0 (.fresh 0 0 led) }).push o).get? s.heap.objs.size
              = some { cls := .type "set", dict := none, data := .set #[] 0 (.fresh 0 0 led) } := Heap.get?_push_of_some _ hS
          exact SetOf_congr ((setObjOf_fresh (knd := strKind prog w) led).setOf hget (by unfold scanBound; omega)) (fun _ => rfl) rfl
        case hR =>
          intro h' tk' hm hS'
          show wpAny _ _ _ _ _ _
          refine wpAny_pure ?_
          show wpAny _ _ (ret Value.none) _ _ _
          refine wpAny_pure ⟨rfl, h', tk', rfl, hS', fun b o hb => ?_⟩
          have hb1 : b ≠ s.heap.objs.size := Nat.ne_of_lt (Heap.lt_size hb)
          have hb2 : b ≠ (s.heap.push { cls := .type "set", dict := none, data := .set #[] 0 (.fresh 0 0 led) }).objs.size := by
            rw [Heap.size_push]; exact Nat.ne_of_lt (Nat.lt_succ_of_lt (Heap.lt_size hb))
          exact hm b o hb1 (by simpa using hb2) (Heap.get?_push_of_some _ (Heap.get?_push_of_some _ hb))
      · cases r₂ with
        | error e => exact hr₂
        | ok fl₂ =>
          cases fl₂ with
          | ret r =>
            obtain ⟨rfl, h', tk, rfl, hS', hk'⟩ := hr₂
            repeat (any_goals (first | assumption | wp_step))
            exact h _ _ hS' hk'
          | _ => exact hr₂.elim
    | _ => exact hr.elim
theorem call_len_set {a : Addr} {S : Str → Bool} {n : Nat} {Q : Value → Shared → Prop} (hS : s.heap.SetOf (strKind prog w) a S n)
    (h : Q (.int n (s.toks + 1)) { s with toks := s.toks + 1 + 1 }) : wpAny (model prog w) A (call (.builtin "len") [.ref a]) Q E s := by
  obtain ⟨o, es, ep, t, ho, hex, hd, hel, hmem, hb, hf, hn⟩ := hS
  subst hn
  refine Calls.call_function_entry kind_len plain_len entry_len (args_len1 _) ?_
  exact wpAny_len_body_set ho hex hd hf (by unfold scanBound at hb; omega) h
end
end Mine
end

noncomputable section
set_option maxRecDepth 100000
namespace Mine
open PySem PySem.Calls PyProof.Rows PySem.W

structure Dl where
  fns : List (Str × Nat)
  cls : List (Str × Nat)
  cons : List (Str × V)
noncomputable def bltNames : List (Str × Value) := [("len", .builtin "len"), ("isinstance", .builtin "isinstance"), ("str", .type "str"), ("int", .type "int"), ("bool", .type "bool"), ("list", .type "list"), ("tuple", .type "tuple"),
  ("set", .type "set"), ("range", .type "range"), ("zip", .type "zip"), ("ValueError", .type "ValueError")]
inductive ConstOk : Value → V → Prop
  | int (i : Int) (t : Tok) : ConstOk (.int i t) (.int i)
  | str {x : Str} {l : List Nat} (t : Tok) : x.cps.toList = l → ConstOk (.str x t) (.str l)

structure Ground (g : Gl) (Δ : Dl) : Prop where
  main : g.h0.Ns mainGlobals g.mg
  blt : g.h0.Ns builtinsNs g.mb
  nolim : g.h0.NoLimit
  fns : ∀ x f, Δ.fns.lookup x = some f → g.mg x = some (.ref (g.fn f))
  cls : ∀ x c, Δ.cls.lookup x = some c → g.mg x = some (.ref (g.cls c))
  cons : ∀ x v, Δ.cons.lookup x = some v → ∃ u, g.mg x = some u ∧ ConstOk u v
  blts : ∀ x v, bltNames.lookup x = some v → g.mg x = none ∧ g.mb x = some v

section
variable {g : Gl} {hm wk wk' : Bool} {fx : Fx} {oa oa₁ oa₂ : Nat → Option Addr} {σ : St} {s s₁ s₂ : Shared} {P : Prog} {cf : CallF} {Δ : Dl} {α β γ δ : Type}

noncomputable def glob (sc : List (Str × NameKind)) (x : Str) : Bool := (sc.lookup x == some .globalImplicit) && okName x
theorem stays_ns {a : Addr} {m : Str → Option Value} (I : Inv g hm fx oa σ s) (n : g.h0.Ns a m) : s.heap.Ns a m := n.at' fun o e => I.stays _ o e
theorem name_main {x : Str} {v : Value} {pos : Pos} {E : Value → Shared → Prop} {Q : Value → Shared → Prop} (G : Ground g Δ) (ok : FxOk g hm fx) (I : Inv g hm fx oa σ s) (hx : glob fx.env.scope.names x = true) (hv : g.mg x = some v) (h : Q v s) :
    wpAny (model g.prog g.w) fx.A (eval (.Name x pos) fx.env) Q E s := by
  unfold glob okName at hx
  simp only [Bool.and_eq_true, Bool.not_eq_true', beq_iff_eq] at hx
  exact Name_function_global ok.kind hx.1 (loadGlobal_global (by rw [ok.globals]; exact stays_ns I G.main) hv h) hx.2.1
theorem name_blt {x : Str} {v : Value} {pos : Pos} {E : Value → Shared → Prop} {Q : Value → Shared → Prop} (G : Ground g Δ) (ok : FxOk g hm fx) (I : Inv g hm fx oa σ s) (hx : glob fx.env.scope.names x = true) (hv : bltNames.lookup x = some v) (h : Q v s) :
    wpAny (model g.prog g.w) fx.A (eval (.Name x pos) fx.env) Q E s := by
  unfold glob okName at hx
  simp only [Bool.and_eq_true, Bool.not_eq_true', beq_iff_eq] at hx
  obtain ⟨h1, h2⟩ := G.blts x v hv
  exact Name_function_global ok.kind hx.1 (loadGlobal_builtin (by rw [ok.globals]; exact stays_ns I G.main) h1 (by rw [ok.builtins]; exact stays_ns I G.blt) h2 h) hx.2.1
theorem sim_const {x : Str} {v : V} {pos : Pos} (G : Ground g Δ) (ok : FxOk g hm fx) (hx : glob fx.env.scope.names x = true) (hv : Δ.cons.lookup x = some v) : SimV g hm false fx (eval (.Name x pos) fx.env) (M.pure v) := fun oa σ s I r σ' e => by
  obtain ⟨rfl, rfl⟩ := pure_some e
  obtain ⟨u, hu, c⟩ := G.cons x v hv
  refine name_main G ok I hx hu ⟨v, oa, rfl, .refl _, I, .refl _, ?_⟩
  cases c with
  | int i t => exact .int i t
  | str t ex => exact .str t ex

theorem SimAt.seq {R : Rel α β} {R' : Rel γ δ} {t : Sem α} {m : M β} {k : α → Sem γ} {f : β → M δ} (x : SimAt g hm fx R oa σ s t m)
    (y : ∀ a b oa₁ σ₁ s₁, Le oa₁ oa → Inv g hm fx oa₁ σ₁ s₁ → TrX s s₁ → R (badA fx oa₁) s₁.heap a b → SimAt g hm fx R' oa₁ σ₁ s₁ (k a) (f b)) {r : Except Nat δ} {σ' : St} (h : M.bind m f σ = some (r, σ')) :
    wpAny (model g.prog g.w) fx.A t (fun a s₁ => wpAny (model g.prog g.w) fx.A (k a) (PostR g hm fx R' oa s r σ') (PostX g hm fx oa s r σ') s₁) (PostX g hm fx oa s r σ') s := by
  refine bind_elim h (fun c e => ?_) fun b σ₁ e e' => ?_
  · refine wpAny_mono (x _ _ e) (fun a s₁ p => ?_) fun v s₁ p => p.cast rfl
    exact p.no
  · refine wpAny_mono (x _ _ e) (fun a s₁ p => ?_) fun v s₁ p => ?_
    · refine p.ok fun oa₁ l I t' rr => ?_
      exact wpAny_mono (y a b oa₁ σ₁ s₁ l I t' rr _ _ e') (fun _ _ z => z.lift l t') fun _ _ z => z.lift l t'
    · exact p.no
theorem SimAt.args {F : Value} {x : Sem Value} {rest : List (Bool × Sem Value)} {R : Rel (List Value) β} {b : M β} (h : SimAt g hm fx R oa σ s (spliced ((false, x) :: rest)) b) :
    SimAt g hm fx (fun bad h (a : Args) xs => R bad h a.pos xs ∧ a.kw = []) oa σ s (evalArgs F true ((false, x) :: rest) []) b := fun r σ' e =>
  Calls.evalArgs_plain (wpAny_mono (h r σ' e) (fun _ _ ⟨b, oa', e, l, I, t, rr⟩ => ⟨b, oa', e, l, I, t, rr, rfl⟩) fun _ _ z => z)
theorem sim_callB {F : Value} {f : Str} {fp pos : Pos} {a0 : Expr} {rest : List Expr} {R : Rel (List Value) β} {b : M β} {op : β → Option V} (hF : ∀ oa σ s, Inv g hm fx oa σ s → ∀ Q E, Q F s → wpAny (model g.prog g.w) fx.A (eval (.Name f fp) fx.env) Q E s)
    (hk : (∃ id, F = .builtin id) ∨ ∃ T, F = .type T) (he : starEach (a0 :: rest) fx.env = (false, eval a0 fx.env) :: starEach rest fx.env) (hp : (starEach rest fx.env).all (fun q => !q.1) = true)
    (ha : ∀ oa σ s, Inv g hm fx oa σ s → SimAt g hm fx R oa σ s (spliced (backTo pos (starEach (a0 :: rest) fx.env))) b)
    (hop : ∀ oa σ s vs xs y, Inv g hm fx oa σ s → R (badA fx oa) s.heap vs xs → op xs = some y → ∀ E, wpAny (model g.prog g.w) fx.A (call F vs) (Gives1 g hm (badA fx oa) s y) E s) :
    SimV g hm false fx (eval (.Call (.Name f fp) (a0 :: rest) [] pos) fx.env) (M.bind b fun xs => M.ofOpt (op xs)) := fun oa σ s I r σ' e => by
  show wpAny _ _ (eval (.Name f fp) fx.env >>= fun F => callWith pos F [] (backTo pos (starEach (a0 :: rest) fx.env)) []) _ _ s
  refine wpAny_bind (hF oa σ s I _ _ ?_)
  have ha' := ha
  rw [he] at ha' ⊢
  have hplain : (backTo pos ((false, eval a0 fx.env) :: starEach rest fx.env)).any (·.1) = false := by
    show (false || (backTo pos (starEach rest fx.env)).any (·.1)) = false
    rw [Bool.false_or]
    have : ∀ l : List (Bool × Sem Value), l.all (fun q => !q.1) = true → (backTo pos l).any (·.1) = false := by
      intro l hl
      induction l with
      | nil => rfl
      | cons q l ih =>
        obtain ⟨q1, q2⟩ := q
        simp only [List.all_cons, Bool.and_eq_true, Bool.not_eq_true'] at hl
        cases l with
        | nil => simp [backTo, hl.1]
        | cons q' l' => simpa [backTo, hl.1] using ih hl.2
    exact this _ hp
  have main : wpAny (model g.prog g.w) fx.A (evalArgs F true (backTo pos ((false, eval a0 fx.env) :: starEach rest fx.env)) []) (fun a s₁ => wpAny (model g.prog g.w) fx.A (call F ([] ++ a.pos) a.kw) (PostR g hm fx (RV g hm false) oa s r σ') (PostX g hm fx oa s r σ') s₁) (PostX g hm fx oa s r σ') s := by
    obtain ⟨q, hq⟩ : ∃ q, backTo pos ((false, eval a0 fx.env) :: starEach rest fx.env) = (false, eval a0 fx.env) :: q := by
      cases starEach rest fx.env <;> exact ⟨_, rfl⟩
    have ha1 := ha' oa σ s I
    rw [hq] at ha1 ⊢
    refine SimAt.seq (SimAt.args ha1) (fun a xs oa₁ σ₁ s₁ l₁ I₁ t₁ ra => ?_) e
    rw [ra.2]
    exact SimAt.step I₁ fun y ey E => hop oa₁ σ₁ s₁ a.pos xs y I₁ ra.1 ey E
  rcases hk with ⟨id, rfl⟩ | ⟨T, rfl⟩
  · exact callWith_builtin hplain main
  · exact PySem.callWith_type hplain main
end
end Mine
end

noncomputable section
set_option maxRecDepth 100000
namespace Mine
open PySem PySem.Calls PyProof.Rows PySem.W

section
variable {g : Gl} {hm wk wk' : Bool} {fx : Fx} {oa oa₁ oa₂ : Nat → Option Addr} {σ : St} {s s₁ s₂ : Shared} {P : Prog} {cf : CallF} {Δ : Dl} {α β γ δ : Type}

noncomputable abbrev R1 (g : Gl) (hm : Bool) : Rel (List Value) (List V) := fun bad h vs xs => ∃ v x wk, vs = [v] ∧ xs = [x] ∧ Rp g hm bad h wk v x
theorem sim_one {pos : Pos} {e : Expr} {a : M V} (he : starEach [e] fx.env = [(false, eval e fx.env)]) (h : SimV g hm wk fx (eval e fx.env) a) : ∀ oa σ s, Inv g hm fx oa σ s →
    SimAt g hm fx (R1 g hm) oa σ s (spliced (backTo pos (starEach [e] fx.env))) (M.bind a fun x => M.bind (M.pure []) fun xs => M.pure (x :: xs)) := fun oa σ s I => by
  rw [he]
  have q : spliced (backTo pos [(false, eval e fx.env)]) = (eval e fx.env >>= fun v => holding [v] (pure []) >>= fun vs => pure (v :: vs)) := rfl
  rw [q]
  refine SimAt.bind (h _ _ _ I) fun v x oa₁ σ₁ s₁ l₁ I₁ t₁ ra => ?_
  exact SimAt.bind (R := fun _ _ a (b : List V) => a = [] ∧ b = []) (SimAt.holding (SimAt.pure I₁ ⟨rfl, rfl⟩)) fun vs xs oa₂ σ₂ s₂ l₂ I₂ t₂ rs => SimAt.pure I₂ ⟨v, x, wk, by rw [rs.1], by rw [rs.2], ra.on l₂ t₂⟩

noncomputable def plainE : Expr → Bool
  | .Starred .. => false
  | _ => true
theorem star_plain {e : Expr} {r : List Expr} {env : Env} (h : plainE e = true) : starEach (e :: r) env = (false, eval e env) :: starEach r env := by
  cases e <;> first | rfl | (simp [plainE] at h)
theorem star_all {env : Env} : ∀ {r : List Expr}, r.all plainE = true → (starEach r env).all (fun q => !q.1) = true
  | [], _ => rfl
  | e :: r, h => by
    rw [List.all_cons, Bool.and_eq_true] at h
    rw [star_plain h.1, List.all_cons, star_all h.2]; rfl

noncomputable def Bi.fn : Bi → Option Str
  | .len => some "len"
  | .listOf => some "list"
  | .tupleOf => some "tuple"
  | .intOf => some "int"
  | _ => none
theorem sim_bi1 {b : Bi} {f : Str} {fp pos : Pos} {e : Expr} {a : M V} (G : Ground g Δ) (ok : FxOk g hm fx) (hb : b.fn = some f) (hx : glob fx.env.scope.names f = true) (hp : plainE e = true) (h : SimV g hm wk fx (eval e fx.env) a) :
    SimV g hm false fx (eval (.Call (.Name f fp) [e] [] pos) fx.env) (M.bind (M.bind a fun x => M.bind (M.pure []) fun xs => M.pure (x :: xs)) fun xs => M.ofOpt (biOp P hm b xs)) := by
  have key : ∀ F, bltNames.lookup f = some F → ((∃ id, F = .builtin id) ∨ ∃ T, F = .type T) →
      (∀ oa σ s v x y wk, Inv g hm fx oa σ s → Rp g hm (badA fx oa) s.heap wk v x → biOp P hm b [x] = some y → ∀ E, wpAny (model g.prog g.w) fx.A (call F [v]) (Gives1 g hm (badA fx oa) s y) E s) →
      SimV g hm false fx (eval (.Call (.Name f fp) [e] [] pos) fx.env) (M.bind (M.bind a fun x => M.bind (M.pure []) fun xs => M.pure (x :: xs)) fun xs => M.ofOpt (biOp P hm b xs)) := fun F hF hk hop =>
    sim_callB (fun oa σ s I Q E q => name_blt G ok I hx hF q) hk (star_plain hp) rfl (sim_one (star_plain hp) h) fun oa σ s vs xs y I rr ey E => by
      obtain ⟨v, x, wk, rfl, rfl, r⟩ := rr
      exact hop _ _ _ _ _ _ _ I r ey E
  cases b with
  | len =>
    cases hb
    refine key (.builtin "len") (by decide) (.inl ⟨_, rfl⟩) fun oa σ s v x y wk I r ey E => ?_
    exact map_elim (C := fun y => wpAny (model g.prog g.w) fx.A (call (.builtin "len") [v]) (Gives1 g hm (badA fx oa) s y) E s) ey fun l hl => len_ok hl r
  | listOf =>
    cases hb
    refine key (.type "list") (by decide) (.inr ⟨_, rfl⟩) fun oa σ s v x y wk I r ey E => ?_
    have ey : listO hm x = some y := ey
    cases x with
    | list l => exact map_elim ey fun l hl => list_ok (fun ⟨y, q⟩ => nomatch q) hl I.badLt r
    | tuple l => exact map_elim ey fun l hl => list_ok (fun ⟨y, q⟩ => nomatch q) hl I.badLt r
    | str l =>
      cases hm with
      | true => cases ey
      | false => exact map_elim (show (seqV (.str l)).map V.list = some y from ey) fun l hl => list_ok (fun _ => ok.hand rfl) hl I.badLt r
    | _ => cases ey
  | tupleOf =>
    cases hb
    refine key (.type "tuple") (by decide) (.inr ⟨_, rfl⟩) fun oa σ s v x y wk I r ey E => ?_
    have ey : tupO x = some y := ey
    cases x with
    | list l => exact map_elim ey fun l hl => tuple_ok (by intro y q; cases q) hl I.badLt r
    | tuple l => exact map_elim ey fun l hl => tuple_ok (by intro y q; cases q) hl I.badLt r
    | _ => cases ey
  | intOf =>
    cases hb
    refine key (.type "int") (by decide) (.inr ⟨_, rfl⟩) fun oa σ s v x y wk I r ey E => ?_
    have ey : intO x = some y := ey
    cases x with
    | bool b => exact some_elim ey (r.bool_elim (call_int_bool ⟨Grown.toks _ _, .int _ _⟩))
    | _ => cases ey
  | _ => cases hb

noncomputable def tyName (t : Ty) : Option Str := t.name.map fun T => Str.ofString T
theorem sim_isi {t : Ty} {T : Str} {fp pos pT : Pos} {e : Expr} {a : M V} (G : Ground g Δ) (ok : FxOk g hm fx) (hT : tyName t = some T) (hx : glob fx.env.scope.names "isinstance" = true) (hy : glob fx.env.scope.names T = true) (hp : plainE e = true) (h : SimV g hm wk fx (eval e fx.env) a) :
    SimV g hm false fx (eval (.Call (.Name "isinstance" fp) [e, .Name T pT] [] pos) fx.env) (M.bind (M.bind a fun x => M.bind (M.pure []) fun xs => M.pure (x :: xs)) fun xs => M.ofOpt (biOp P hm (.isinst t) xs)) := by
  obtain ⟨T', hT', rfl⟩ := Option.map_eq_some_iff.mp hT
  have hb : bltNames.lookup (Str.ofString T') = some (.type T') := by
    cases t <;> cases hT' <;> decide
  refine sim_callB (R := fun bad h vs xs => ∃ v x wk, vs = [v, .type T'] ∧ xs = [x] ∧ Rp g hm bad h wk v x) (fun oa σ s I Q E q => name_blt (v := .builtin "isinstance") G ok I hx (by decide) q) (.inl ⟨_, rfl⟩) (star_plain hp) rfl (fun oa σ s I => ?_) fun oa σ s vs xs y I rr ey E => ?_
  · rw [star_plain hp]
    have q : spliced (backTo pos ((false, eval e fx.env) :: starEach [.Name (Str.ofString T') pT] fx.env)) = (eval e fx.env >>= fun v => holding [v] (eval (.Name (Str.ofString T') pT) fx.env >>= fun u => holding [u] (pure []) >>= fun vs => pure (u :: vs)) >>= fun vs => pure (v :: vs)) := rfl
    rw [q]
    refine SimAt.bind (h _ _ _ I) fun v x oa₁ σ₁ s₁ l₁ I₁ t₁ ra => ?_
    refine SimAt.bind (R := fun _ _ a (b : List V) => a = [.type T'] ∧ b = []) (SimAt.holding fun r σ' er => ?_) fun vs xs oa₂ σ₂ s₂ l₂ I₂ t₂ rs => SimAt.pure I₂ ⟨v, x, wk, by rw [rs.1], by rw [rs.2], ra.on l₂ t₂⟩
    obtain ⟨rfl, rfl⟩ := pure_some er
    exact wpAny_bind (name_blt G ok I₁ hy hb (wpAny_bind (wpAny_holding (wpAny_pure (wpAny_pure ⟨[], oa₁, rfl, .refl _, I₁, .refl _, rfl, rfl⟩)))))
  · obtain ⟨v, x, wk, rfl, rfl, r⟩ := rr
    exact map_elim (C := fun y => wpAny (model g.prog g.w) fx.A (call (.builtin "isinstance") [v, .type T']) (Gives1 g hm (badA fx oa) s y) E s) ey fun b hb' => isi_ok hT' hb' r
noncomputable def setLen (hm : Bool) : List V → Option Nat
  | [.str l] => if hm = false ∧ l.length < 4000 then some (dedupN l).length else none
  | _ => none
theorem setO_len (x : V) : setO hm x = (setLen hm [x]).map fun n => V.int n := by
  cases x with
  | str l =>
    show (if hm = false ∧ l.length < 4000 then some (V.int (dedupN l).length) else none) = ((if hm = false ∧ l.length < 4000 then some (dedupN l).length else none).map fun n => V.int n)
    split <;> rfl
  | _ => rfl
theorem biOp_lenSet (xs : List V) : biOp P hm .lenSet xs = (setLen hm xs).map fun n => V.int n := by
  cases xs with
  | nil => rfl
  | cons x r => cases r with
    | nil => exact setO_len x
    | cons y r => cases x <;> rfl
theorem sim_lenSet {fp fp' pos pos' : Pos} {e : Expr} {a : M V} (G : Ground g Δ) (ok : FxOk g hm fx) (hx : glob fx.env.scope.names "len" = true) (hy : glob fx.env.scope.names "set" = true) (hp : plainE e = true) (h : SimV g hm wk fx (eval e fx.env) a) :
    SimV g hm false fx (eval (.Call (.Name "len" fp) [.Call (.Name "set" fp') [e] [] pos'] [] pos) fx.env) (M.bind (M.bind a fun x => M.bind (M.pure []) fun xs => M.pure (x :: xs)) fun xs => M.ofOpt (biOp P hm .lenSet xs)) := by
  let RS : Rel (List Value) Nat := fun bad h vs n => ∃ D S, vs = [.ref D] ∧ h.SetOf (strKind g.prog g.w) D S n
  have em : (M.bind (M.bind a fun x => M.bind (M.pure []) fun xs => M.pure (x :: xs)) fun xs => M.ofOpt (biOp P hm .lenSet xs)) =
      M.bind (M.bind (M.bind a fun x => M.bind (M.pure []) fun xs => M.pure (x :: xs)) fun xs => M.ofOpt (setLen hm xs)) fun n => M.ofOpt (some (V.int n)) := by
    rw [M.assoc (M.bind a _)]
    congr 1
    funext xs
    rw [biOp_lenSet]
    cases setLen hm xs <;> rfl
  rw [em]
  refine sim_callB (R := RS) (op := fun n => some (V.int n)) (fun oa σ s I Q E q => name_blt (v := .builtin "len") G ok I hx (by decide) q) (.inl ⟨_, rfl⟩) rfl rfl (fun oa σ s I r σ' er => ?_) fun oa σ s vs n y I rr ey E => ?_
  · have q : spliced (backTo pos (starEach [.Call (.Name "set" fp') [e] [] pos'] fx.env)) = (eval (.Call (.Name "set" fp') [e] [] pos') fx.env >>= fun u => holding [u] (pure []) >>= fun vs => pure (u :: vs)) := rfl
    rw [q]
    have q2 : eval (.Call (.Name "set" fp') [e] [] pos') fx.env = (eval (.Name "set" fp') fx.env >>= fun F => callWith pos' F [] (backTo pos' (starEach [e] fx.env)) []) := rfl
    rw [q2]
    refine wpAny_bind (wpAny_bind (name_blt (v := .type "set") G ok I hy (by decide) ?_))
    have h1 := sim_one (pos := pos') (star_plain (r := []) hp) h oa σ s I
    rw [star_plain hp] at h1 ⊢
    refine PySem.callWith_type rfl (?_ : wpAny _ _ (evalArgs (.type "set") true ((false, eval e fx.env) :: []) []) _ _ _)
    refine wpAny_mono (SimAt.seq (k := fun a => call (.type "set") ([] ++ a.pos) a.kw) (R' := fun bad h v n => RS bad h [v] n) (SimAt.args h1) (fun a xs oa₁ σ₁ s₁ l₁ I₁ t₁ ra => ?_) er) (fun a s₁ hz => wpAny_mono hz (fun u s' p => wpAny_bind (wpAny_holding (wpAny_pure (wpAny_pure p)))) fun _ _ z => z) fun _ _ z => z
    rw [ra.2]
    obtain ⟨⟨v, x, wk, hv, rfl, rv⟩, _⟩ := ra
    rw [hv]
    refine SimAt.step I₁ fun n en E => ?_
    cases rv with
    | str t es =>
      simp only [setLen] at en
      split at en
      · rename_i hc
        cases en
        refine call_set_str (ok.hand hc.1) (by rw [es]; unfold scanBound; omega) fun h' tk hS hk => ?_
        have : ∀ l, metN l l.length = (dedupN l).length := fun l => by unfold metN; rw [List.take_length, foldN_nil]
        rw [this, es] at hS
        exact ⟨⟨hk, rfl, rfl⟩, _, _, rfl, hS⟩
      · cases en
    | _ => simp [setLen] at en
  · obtain ⟨D, S, rfl, hS⟩ := rr
    cases ey
    exact call_len_set hS ⟨Grown.toks _ _, .int _ _⟩
noncomputable def simpleE : Expr → Bool
  | .Constant .. => true
  | .Name .. => true
  | _ => false
theorem base_simple {o : Expr} {name : Str} {env : Env} {t : Sem Value} (h : simpleE o = true) : attributeBase o name env t = t := by
  cases o <;> first | rfl | (simp [simpleE] at h)
theorem sim_met1 {o e : Expr} {name : Str} {T id : String} {apos pos : Pos} {a b : M V} {recv : V → Option Unit} {op : List V → Option V} (ho : simpleE o = true) (hp : plainE e = true) (hline : (apos.endLine == pos.line) = true)
    (pa : PlainAttrs T) (slot : PySem.Slot T name id) (hty : typeOf (.builtin id) = pure (.type "method_descriptor")) (h1 : SimV g hm wk fx (eval o fx.env) a) (h2 : SimV g hm wk' fx (eval e fx.env) b)
    (hrecv : ∀ oa σ s v x u, Inv g hm fx oa σ s → Rp g hm (badA fx oa) s.heap wk v x → recv x = some u → s.TypeIs v T ∧ ∀ a, v = .ref a → ∃ ob, s.heap.get? a = some ob ∧ ob.dict = none)
    (hop : ∀ oa σ s u v x y z wk', Inv g hm fx oa σ s → Rp g hm (badA fx oa) s.heap wk u x → Rp g hm (badA fx oa) s.heap wk' v y → op [x, y] = some z → ∀ E, wpAny (model g.prog g.w) fx.A (call (.builtin id) [u, v]) (Gives1 g hm (badA fx oa) s z) E s) :
    SimV g hm false fx (eval (.Call (.Attribute o name apos) [e] [] pos) fx.env) (M.bind a fun x => M.bind (M.ofOpt (recv x)) fun _ => M.bind (M.bind b fun y => M.bind (M.pure []) fun ys => M.pure (y :: ys)) fun ys => M.ofOpt (op (x :: ys))) := fun oa σ s I r σ' er => by
  refine wpAny_Call_method (base_simple ho) ?_ hline pa slot hty ?_
  · rw [star_plain hp]; rfl
  refine bind_elim er (fun c e₁ => ?_) fun x σ₁ e₁ e₂ => ?_
  · refine wpAny_mono (h1 _ _ _ I _ _ e₁) (fun a s₁ p => ?_) fun v s₁ p => p.cast rfl
    exact p.no
  · refine wpAny_mono (h1 _ _ _ I _ _ e₁) (fun ov s₁ p => ?_) fun v s₁ p => p.no
    refine p.ok fun oa₁ l₁ I₁ t₁ ra => ?_
    refine bind_or e₂ (fun c e₃ _ => ?_) fun u σ₂ e₃ e₄ => ?_
    · obtain ⟨_, _, q, _⟩ := ofOpt_some e₃; cases q
    obtain ⟨u', hu, q, rfl⟩ := ofOpt_some e₃
    cases q
    obtain ⟨hT, hd⟩ := hrecv _ _ _ _ _ _ I₁ ra hu
    refine ⟨hT, hd, ?_⟩
    have hs := sim_one (pos := pos) (star_plain (r := []) hp) h2 _ _ _ I₁
    rw [star_plain hp] at hs ⊢
    refine callWith_builtin rfl (?_ : wpAny _ _ (evalArgs (.builtin id) true ((false, eval e fx.env) :: []) []) _ _ _)
    refine wpAny_mono (SimAt.seq (k := fun a => call (.builtin id) ([ov] ++ a.pos) a.kw) (R' := RV g hm false) (SimAt.args hs) (fun a ys oa₂ σ₃ s₂ l₂ I₂ t₂ rr => ?_) e₄)
      (fun a s₂ hz => wpAny_mono hz (fun _ _ z => z.lift l₁ t₁) fun _ _ z => z.lift l₁ t₁) fun _ _ z => z.lift l₁ t₁
    rw [rr.2]
    obtain ⟨⟨v, y, wk₂, hv, rfl, rv⟩, _⟩ := rr
    rw [hv]
    exact SimAt.step I₂ fun z ez E => hop _ _ _ _ _ _ _ _ _ I₂ (ra.on l₂ t₂) rv ez E
noncomputable def Bi.meth : Bi → Option Str
  | .join => some "join"
  | .count => some "count"
  | _ => none
theorem sim_met {k : Bi} {name : Str} {o e : Expr} {apos pos : Pos} {a b : M V} (hk : k.meth = some name) (ho : simpleE o = true) (hp : plainE e = true) (hline : (apos.endLine == pos.line) = true) (h1 : SimV g hm wk fx (eval o fx.env) a) (h2 : SimV g hm wk' fx (eval e fx.env) b) :
    SimV g hm false fx (eval (.Call (.Attribute o name apos) [e] [] pos) fx.env) (M.bind a fun x => M.bind (M.ofOpt (recvOk k x)) fun _ => M.bind (M.bind b fun y => M.bind (M.pure []) fun ys => M.pure (y :: ys)) fun ys => M.ofOpt (biOp P hm k (x :: ys))) := by
  cases k with
  | join =>
    cases hk
    refine sim_met1 ho hp hline PySem.F.plainAttrs_str PySem.F.slot_str_join PySem.F.type_str_join h1 h2 (fun oa σ s v x u I r e => ?_) fun oa σ s u v x y z wk' I ru rv ez E => ?_
    · have e : (if isStr x = true then some () else none) = some u := e
      cases x with
      | str l => exact r.str_elim (C := fun v => s.TypeIs v "str" ∧ ∀ a, v = .ref a → ∃ o, s.heap.get? a = some o ∧ o.dict = none) fun sx t ea => ⟨typeIs_str _ _ _, fun _ q => nomatch q⟩
      | _ => cases e
    · have ez : joinO x y = some z := ez
      cases x with
      | str sep => cases y with
        | list l =>
          obtain ⟨ss, hss, ez⟩ := Option.bind_eq_some_iff.mp ez
          exact if_elim ez fun hz => join_ok hss hz ru rv
        | _ => cases ez
      | _ => cases ez
  | count =>
    cases hk
    refine sim_met1 ho hp hline PySem.F.plainAttrs_list PySem.F.slot_list_count PySem.F.type_list_count h1 h2 (fun oa σ s v x u I r e => ?_) fun oa σ s u v x y z wk' I ru rv ez E => ?_
    · have e : (if isList x = true then some () else none) = some u := e
      cases x with
      | list l => exact r.list_elim (C := fun v => s.TypeIs v "list" ∧ ∀ a, v = .ref a → ∃ o, s.heap.get? a = some o ∧ o.dict = none) fun a o vs n hb ha hc hd hl => ⟨⟨_, ha, hc⟩, fun a q => by cases q; exact ⟨_, ha, hb.2⟩⟩
      | _ => cases e
    · have ez : countO x y = some z := ez
      cases x with
      | list l => cases y with
        | bool b => exact map_elim ez fun bs hbs => rv.bool_elim (count_ok hbs ru)
        | _ => cases ez
      | _ => cases ez
  | _ => cases hk
end
end Mine
end

noncomputable section
set_option maxRecDepth 100000
namespace Mine
open PySem PySem.Calls PyProof.Rows PySem.W

structure Base (g : Gl) (frs : List Env) (s : Shared) : Prop where
  stays : g.h0.StaysIn s.heap
  os : s.os = g.os
  gens : s.gens = #[]
  frames : s.heap.FunFrames g.h0 frs
  fcls : ∀ b ∈ frameAddrs frs, ∃ o, s.heap.get? b = some o ∧ o.cls = .type "frame"
theorem Inv.base {g : Gl} {hm : Bool} {fx : Fx} {oa : Nat → Option Addr} {σ : St} {s : Shared} (I : Inv g hm fx oa σ s) : Base g fx.frs s := ⟨I.stays, I.os, I.gens, I.frames, I.fcls⟩

inductive ResOk (g : Gl) (hm : Bool) (bad : Addr → Prop) (lo h : Heap) : Value → Slot → Prop
  | v {v : Value} {x : V} : Rp g hm bad h false v x → ResOk g hm bad lo h v (.v x)
  | ownL {a : Addr} {l : List V} : lo.get? a = none → Rp g hm (fun b => bad b ∨ b = a) h true (.ref a) (.list l) → ResOk g hm bad lo h (.ref a) (.ownL l)

noncomputable def CallR (g : Gl) (hm : Bool) (frs : List Env) (bad : Addr → Prop) (s : Shared) (r : Except Nat Slot) (v : Value) (s' : Shared) : Prop :=
  ∃ sl, r = .ok sl ∧ Base g frs s' ∧ TrX s s' ∧ ResOk g hm bad s.heap s'.heap v sl
noncomputable def CallX (g : Gl) (hm : Bool) (frs : List Env) (s : Shared) (r : Except Nat Slot) (x : Value) (s' : Shared) : Prop :=
  ∃ c e, r = .error c ∧ hm = false ∧ x = .ref e ∧ Base g frs s' ∧ TrX s s' ∧ ExcAt s'.heap s.heap e (.ref (g.cls c)) .none

noncomputable def CallOk (g : Gl) (cf : CallF) (d : Nat) : Prop := ∀ hm f args r A frs s bad vals, cf hm f args = some r → A.frames = some frs → (hm = false → A.handled = none) → A.depth + d < 990 → A.units + 4 * d + 100 < cLine →
  Base g frs s → (∀ a, bad a → Live s.heap a) → RpAll g hm bad s.heap vals args →
  (∃ o fd, g.h0.get? (g.fn f) = some o ∧ o.data = .func fd) ∧ wpAny (model g.prog g.w) A (call (.ref (g.fn f)) vals) (CallR g hm frs bad s r) (CallX g hm frs s r) s

section
variable {g : Gl} {hm wk wk' : Bool} {fx : Fx} {oa oa₁ oa₂ : Nat → Option Addr} {σ σ' : St} {s s₁ s₂ : Shared} {P : Prog} {cf : CallF} {Δ : Dl} {α β γ δ : Type}

theorem Inv.of_base (I : Inv g hm fx oa σ s) (B : Base g fx.frs s₁) (t : TrX s s₁) : Inv g hm fx oa σ s₁ := I.keepX t B.stays (B.os.trans I.os.symm) (B.gens.trans I.gens.symm)
theorem Rp.frozen {bad : Addr → Prop} {h : Heap} {a : Addr} {x : V} (r : Rp g hm (fun b => bad b ∨ b = a) h true (.ref a) x) (n : ¬ bad a) : Rp g hm bad h false (.ref a) x :=
  (r.anti fun _ _ _ b => .inl b).strong n
theorem ResOk.val {bad : Addr → Prop} {lo h : Heap} {v : Value} {sl : Slot} {x : V} (r : ResOk g hm bad lo h v sl) (hb : ∀ a, bad a → Live lo a) (e : sl.val = some x) : Rp g hm bad h false v x := by
  cases r with
  | v r => cases e; exact r
  | ownL n r => cases e; exact r.frozen fun q => by obtain ⟨o, e⟩ := hb _ q; rw [n] at e; cases e
noncomputable abbrev RSl (g : Gl) (hm : Bool) (lo : Heap) : Rel Value Slot := fun bad h v sl => ResOk g hm bad lo h v sl
theorem sim_callS {f : Nat} {vals : List Value} {args : List V} (ck : CallOk g cf fx.d) (ok : FxOk g hm fx) (I : Inv g hm fx oa σ s) (rs : RpAll g hm (badA fx oa) s.heap vals args) :
    SimAt g hm fx (RSl g hm s.heap) oa σ s (call (.ref (g.fn f)) vals) (callS cf hm f args) := fun r σ' e => by
  obtain ⟨r', e', q⟩ := Option.map_eq_some_iff.mp e
  cases q
  refine wpAny_mono (ck hm f args _ fx.A fx.frs s (badA fx oa) vals e' ok.hA ok.hand ok.room ok.units I.base I.badLt rs).2 (fun v s' p => ?_) fun x s' p => ?_
  · obtain ⟨sl, q, B, t, rr⟩ := p
    exact ⟨sl, oa, q, .refl _, I.of_base B t, t, rr⟩
  · obtain ⟨c, e, q, hh, q2, B, t, xx⟩ := p
    exact ⟨c, e, oa, q, hh, q2, .refl _, I.of_base B t, t, xx⟩
theorem sim_callR {f : Nat} {vals : List Value} {args : List V} {sl : Slot} (ck : CallOk g cf fx.d) (ok : FxOk g hm fx) (I : Inv g hm fx oa σ s) (rs : RpAll g hm (badA fx oa) s.heap vals args) (e : callS cf hm f args σ = some (.ok sl, σ')) :
    wpAny (model g.prog g.w) fx.A (call (.ref (g.fn f)) vals) (fun v s' => σ' = σ ∧ Inv g hm fx oa σ s' ∧ TrX s s' ∧ ResOk g hm (badA fx oa) s.heap s'.heap v sl) (fun _ _ => False) s := by
  obtain ⟨r', e', q⟩ := Option.map_eq_some_iff.mp e
  cases q
  refine wpAny_mono (ck hm f args _ fx.A fx.frs s (badA fx oa) vals e' ok.hA ok.hand ok.room ok.units I.base I.badLt rs).2 (fun v s' p => ?_) fun x s' p => ?_
  · obtain ⟨sl, q, B, t, rr⟩ := p
    cases q
    exact ⟨rfl, I.of_base B t, t, rr⟩
  · obtain ⟨c, e, q, _⟩ := p; cases q
theorem sim_callM {f : Nat} {vals : List Value} {args : List V} (ck : CallOk g cf fx.d) (ok : FxOk g hm fx) (I : Inv g hm fx oa σ s) (rs : RpAll g hm (badA fx oa) s.heap vals args) :
    SimAt g hm fx (RV g hm false) oa σ s (call (.ref (g.fn f)) vals) (callM cf hm f args) := fun r σ' e => by
  refine bind_elim e (fun c e₁ => ?_) fun sl σ₁ e₁ e₂ => ?_
  · refine wpAny_mono (sim_callS ck ok I rs _ _ e₁) (fun a s₁ p => ?_) fun v s₁ p => p.cast rfl
    exact p.no
  · obtain ⟨x, hx, rfl, rfl⟩ := ofOpt_some e₂
    refine wpAny_mono (sim_callS ck ok I rs _ _ e₁) (fun a s₁ p => ?_) fun v s₁ p => p.no
    refine p.ok fun oa' l I' t rr => ?_
    exact ⟨x, oa', rfl, l, I', t, rr.val (fun a b => I.badLt a (l.bad b)) hx⟩
theorem SimAt.args0 {F : Value} {b : β} (I : Inv g hm fx oa σ s) {R : Rel (List Value) β} (h : R (badA fx oa) s.heap [] b) : SimAt g hm fx (fun bad h (a : Args) xs => R bad h a.pos xs ∧ a.kw = []) oa σ s (evalArgs F true [] []) (M.pure b) := fun r σ' e => by
  obtain ⟨rfl, rfl⟩ := pure_some e
  exact PySem.evalArgs_none ⟨b, oa, rfl, .refl _, I, .refl _, h, rfl⟩
theorem sim_fncall {x : Str} {f : Nat} {fp pos : Pos} {es : List Expr} {b : M (List V)} {R : (s : Shared) → Rel Value β} {m : List V → M β} (G : Ground g Δ) (ok : FxOk g hm fx) (ck : CallOk g cf fx.d) (hx : glob fx.env.scope.names x = true) (hf : Δ.fns.lookup x = some f) (hp : es.all plainE = true)
    (hfn : ∃ o fd, g.h0.get? (g.fn f) = some o ∧ o.data = .func fd)
    (ha : SimVs g hm fx (spliced (backTo pos (starEach es fx.env))) b) (hb0 : es = [] → b = M.pure []) (I : Inv g hm fx oa σ s) {r : Except Nat β} {σ' : St}
    (hc : ∀ oa₁ σ₁ s₁ vals args, Le oa₁ oa → TrX s s₁ → Inv g hm fx oa₁ σ₁ s₁ → RpAll g hm (badA fx oa₁) s₁.heap vals args → SimAt g hm fx (R s) oa₁ σ₁ s₁ (call (.ref (g.fn f)) vals) (m args)) (e : M.bind b m σ = some (r, σ')) :
    wpAny (model g.prog g.w) fx.A (eval (.Call (.Name x fp) es [] pos) fx.env) (PostR g hm fx (R s) oa s r σ') (PostX g hm fx oa s r σ') s := by
  show wpAny _ _ (eval (.Name x fp) fx.env >>= fun F => callWith pos F [] (backTo pos (starEach es fx.env)) []) _ _ s
  refine wpAny_bind (name_main G ok I hx (G.fns x f hf) ?_)
  obtain ⟨o, fd, ho, hd⟩ := hfn
  refine callWith_function (o := o) (fd := fd) ?_
  have k : ∀ t, SimAt g hm fx (fun bad h (a : Args) xs => RpAll g hm bad h a.pos xs ∧ a.kw = []) oa σ s t b →
      wpAny (model g.prog g.w) fx.A t (fun x s₁ => (s₁.heap.get? (g.fn f) = some o ∧ o.data = .func fd) ∧ wpAny (model g.prog g.w) fx.A (call (.ref (g.fn f)) ([] ++ x.pos) x.kw) (PostR g hm fx (R s) oa s r σ') (PostX g hm fx oa s r σ') s₁) (PostX g hm fx oa s r σ') s := fun t ht => by
    refine bind_elim e (fun c e₁ => ?_) fun xs σ₁ e₁ e₂ => ?_
    · refine wpAny_mono (ht _ _ e₁) (fun a s₁ p => ?_) fun v s₁ p => p.cast rfl
      exact p.no
    · refine wpAny_mono (ht _ _ e₁) (fun a s₁ p => ?_) fun v s₁ p => p.no
      obtain ⟨xs', oa₁, q, l₁, I₁, t₁, rr, hkw⟩ := p
      cases q
      refine ⟨⟨I₁.stays _ _ ho, hd⟩, ?_⟩
      rw [hkw]
      exact wpAny_mono (hc _ _ _ _ _ l₁ t₁ I₁ rr _ _ e₂) (fun _ _ z => z.lift l₁ t₁) fun _ _ z => z.lift l₁ t₁
  cases es with
  | nil =>
    refine k _ ?_
    rw [hb0 rfl]
    exact SimAt.args0 I .nil
  | cons e0 r0 =>
    rw [List.all_cons, Bool.and_eq_true] at hp
    have h1 := ha _ _ _ I
    rw [star_plain hp.1] at h1 ⊢
    exact k _ (SimAt.args h1)
theorem sim_call {x : Str} {f : Nat} {fp pos : Pos} {es : List Expr} {b : M (List V)} (G : Ground g Δ) (ok : FxOk g hm fx) (ck : CallOk g cf fx.d) (hx : glob fx.env.scope.names x = true) (hf : Δ.fns.lookup x = some f) (hp : es.all plainE = true)
    (hfn : ∃ o fd, g.h0.get? (g.fn f) = some o ∧ o.data = .func fd) (ha : SimVs g hm fx (spliced (backTo pos (starEach es fx.env))) b) (hb0 : es = [] → b = M.pure []) :
    SimV g hm false fx (eval (.Call (.Name x fp) es [] pos) fx.env) (M.bind b fun xs => callM cf hm f xs) := fun oa σ s I r σ' e =>
  sim_fncall (R := fun _ => RV g hm false) G ok ck hx hf hp hfn ha hb0 I (fun _ _ _ _ _ _ _ I₁ rs => sim_callM ck ok I₁ rs) e
end
end Mine
end

noncomputable section
set_option maxRecDepth 100000
namespace Mine
open PySem PySem.Calls PyProof.Rows PySem.W

structure Feed (g : Gl) (A : Around) (T : Expr) (I : Addr) (fp wr : List Addr) (vals : List Value) (l0 l : List V) (St : Nat → Heap → Prop) : Prop where
  sub : ∀ b ∈ wr, b ∈ fp
  frame : ∀ i h h', St i h → (∀ b ∈ fp, ∀ o, h.get? b = some o → h'.get? b = some o) → St i h'
  cls : ∀ i h b o, St i h → b ∈ fp → h.get? b = some o → o.cls ≠ .type "frame"
  live : ∀ i h b, St i h → b ∈ fp → Live h b
  item : ∀ i x (s : Shared) hm bad (Q : Value → Shared → Prop) (E : Value → Shared → Prop), l[i]? = some x → St i s.heap → RpAll g hm bad s.heap vals l0 → (∀ a, bad a → Live s.heap a) → (∀ b ∈ wr, bad b) →
    (∀ v h' tk, St (i + 1) h' → (∀ b o, b ∉ wr → s.heap.get? b = some o → h'.get? b = some o) → Rp g hm bad h' false v x → Q v { s with heap := h', toks := tk }) →
    wpAny (model g.prog g.w) A (pyNext (.ref I)) (fun r s₁ => ∃ v, r = some v ∧ wpAny (model g.prog g.w) A (letOwnedTupleGo T (.ref I) v) (fun _ s₂ => Q v s₂) E s₁) E s
  done : ∀ (s : Shared) (Q : Shared → Prop) (E : Value → Shared → Prop), St l.length s.heap → (∀ h' tk, (∀ b o, b ∉ wr → s.heap.get? b = some o → h'.get? b = some o) → Q { s with heap := h', toks := tk }) →
    wpAny (model g.prog g.w) A (pyNext (.ref I)) (fun r s₁ => r = none ∧ Q s₁) E s
  self : ∀ i (s : Shared) (Q : Value → Shared → Prop) (E : Value → Shared → Prop), St i s.heap → Q (.ref I) s → wpAny (model g.prog g.w) A (pyIter (.ref I)) Q E s

noncomputable def GoesOn (T : Expr) (I : Addr) (h : Heap) : Prop := (∀ it v, letOwnedTupleGo T it v = pure ()) ∨ ∃ o n vs, h.get? I = some o ∧ o.cls = .type n ∧ o.data = .fields vs ∧
  ["enumerate", "zip", "dict_itemiterator", "dict_reverseitemiterator", "odict_iterator", "itertools.zip_longest", "itertools.pairwise"].contains n = false
theorem letOwned_ok {M : Model} {A : Around} {E : Value → Shared → Prop} {s : Shared} {T : Expr} {I : Addr} {v : Value} {Q : Unit → Shared → Prop} (go : GoesOn T I s.heap) (h : Q () s) : wpAny M A (letOwnedTupleGo T (.ref I) v) Q E s := by
  rcases go with go | ⟨o, n, vs, ho, hc, hd, hn⟩
  · rw [go]; exact wpAny_pure h
  · unfold letOwnedTupleGo
    split
    · cases v with
      | ref a =>
        refine wpAny_bind (wpAny_load ho ?_)
        rw [hc, hd]
        simp only [hn, Bool.false_and, Bool.false_eq_true, if_false]
        exact wpAny_pure h
      | _ => exact wpAny_pure h
    · cases v with
      | ref a =>
        refine wpAny_bind (wpAny_load ho ?_)
        rw [hc, hd]
        simp only [hn, Bool.false_and, Bool.false_eq_true, if_false]
        exact wpAny_pure h
      | _ => exact wpAny_pure h
    · exact wpAny_pure h

section
variable {g : Gl} {A : Around} {T : Expr} {I : Addr} {fp wr : List Addr} {n : Nat} {P : Nat → Value → Prop} {St : Nat → Heap → Prop} {vals : List Value} {l0 l : List V}
theorem Feed.ofWalks (W : Walks g.prog g.w A I fp wr n P St) (hn : l.length = n) (hcls : ∀ i h b o, St i h → b ∈ fp → h.get? b = some o → o.cls ≠ .type "frame") (hlive : ∀ i h b, St i h → b ∈ fp → Live h b) (hgo : ∀ i h, St i h → GoesOn T I h)
    (hP : ∀ i x v h hm bad, l[i]? = some x → P i v → RpAll g hm bad h vals l0 → Rp g hm bad h false v x) : Feed g A T I fp wr vals l0 l St where
  sub := W.sub
  frame := W.frame
  cls := hcls
  live := hlive
  item := fun i x s hm bad Q E hx hst hv hb hw hQ => by
    have hi : i < n := by rw [← hn]; exact (List.getElem?_eq_some_iff.mp hx).1
    refine W.item i s _ _ hi hst fun v h' tk hp hst' hk => ⟨v, rfl, letOwned_ok (hgo _ _ hst') (hQ v h' tk hst' hk (hP i x v h' hm bad hx hp ?_))⟩
    exact hv.keep fun b o e nb => .of_eq (hk b o (fun m => nb (hw b m)) e)
  done := fun s Q E hst hQ => W.done s _ _ (hn ▸ hst) fun h' tk hk => ⟨rfl, hQ h' tk hk⟩
  self := W.self
end

section
variable {g : Gl} {A : Around} {T : Expr}
theorem feed_list (hh : A.handled = none) (I ax : Addr) (hne : ax ≠ I) (items : Array Value) (l : List V) (hl : items.size = l.length) :
    Feed g A T I [I, ax] [I] items.toList l l (fun i h => h.IsListIter I ax i ∧ h.IsList ax items) :=
  Feed.ofWalks (Walks.list hh I ax hne items) hl.symm
    (fun i h b o st hb e => by
      rcases List.mem_cons.mp hb with rfl | hb
      · obtain ⟨o', e', c, _⟩ := st.1; rw [e] at e'; cases e'; rw [c]; decide
      · cases List.mem_singleton.mp hb; obtain ⟨o', e', c, _⟩ := st.2; rw [e] at e'; cases e'; rw [c]; decide)
    (fun i h b st hb => by
      rcases List.mem_cons.mp hb with rfl | hb
      · obtain ⟨o', e', c, _⟩ := st.1; exact ⟨_, e'⟩
      · cases List.mem_singleton.mp hb; obtain ⟨o', e', c, _⟩ := st.2; exact ⟨_, e'⟩)
    (fun i h st => by obtain ⟨o', e', c, d⟩ := st.1; exact .inr ⟨_, _, _, e', c, d, by decide⟩)
    fun i x v h hm bad hx hv r => by
      obtain ⟨v', e, rr⟩ := r.get hx
      rw [show items.toList[i]? = items[i]? by simp, hv] at e
      cases e; exact rr
theorem feed_tuple (hh : A.handled = none) (I ax : Addr) (hne : ax ≠ I) (items : Array Value) (l : List V) (hl : items.size = l.length) :
    Feed g A T I [I, ax] [I] items.toList l l (fun i h => h.IsTupleIter I ax i ∧ h.IsTuple ax items) :=
  Feed.ofWalks (Walks.tuple hh I ax hne items) hl.symm
    (fun i h b o st hb e => by
      rcases List.mem_cons.mp hb with rfl | hb
      · obtain ⟨o', e', c, _⟩ := st.1; rw [e] at e'; cases e'; rw [c]; decide
      · cases List.mem_singleton.mp hb; obtain ⟨o', e', c, _⟩ := st.2; rw [e] at e'; cases e'; rw [c]; decide)
    (fun i h b st hb => by
      rcases List.mem_cons.mp hb with rfl | hb
      · obtain ⟨o', e', c, _⟩ := st.1; exact ⟨_, e'⟩
      · cases List.mem_singleton.mp hb; obtain ⟨o', e', c, _⟩ := st.2; exact ⟨_, e'⟩)
    (fun i h st => by obtain ⟨o', e', c, d⟩ := st.1; exact .inr ⟨_, _, _, e', c, d, by decide⟩)
    fun i x v h hm bad hx hv r => by
      obtain ⟨v', e, rr⟩ := r.get hx
      rw [show items.toList[i]? = items[i]? by simp, hv] at e
      cases e; exact rr
theorem str_item {x : Str} {i : Nat} {v : Value} {y : V} {h : Heap} {hm : Bool} {bad : Addr → Prop} (hx : (charsV x.cps.toList)[i]? = some y) (hv : SignAt x i v) : Rp g hm bad h false v y := by
  obtain ⟨c, u, hc, rfl⟩ := hv
  simp only [charsV, List.getElem?_map, Array.getElem?_toList, hc, Option.map_some] at hx
  cases hx
  exact .str _ rfl
theorem feed_str (nm : String) (hnm : nm = "str_ascii_iterator" ∨ nm = "str_iterator") (I : Addr) (x : Str) (t : Tok) (W : Walks g.prog g.w A I [I] [I] x.cps.size (SignAt x) (fun i h => h.IsStrIter I nm x t i)) :
    Feed g A T I [I] [I] [] [] (charsV x.cps.toList) (fun i h => h.IsStrIter I nm x t i) :=
  Feed.ofWalks W (by simp [charsV])
    (fun i h b o st hb e => by
      cases List.mem_singleton.mp hb; obtain ⟨o', e', c, _⟩ := st; rw [e] at e'; cases e'; rw [c]; rcases hnm with rfl | rfl <;> decide)
    (fun i h b st hb => by
      cases List.mem_singleton.mp hb; obtain ⟨o', e', c, _⟩ := st; exact ⟨_, e'⟩)
    (fun i h st => by obtain ⟨o', e', c, d⟩ := st; exact .inr ⟨_, _, _, e', c, d, by rcases hnm with rfl | rfl <;> decide⟩)
    fun i x v h hm bad hx hv r => str_item hx hv
theorem feed_range (hh : A.handled = none) (I : Addr) (a b : Int) : Feed g A T I [I] [I] [] [] (rangeL a b) (fun i h => IsRangeIter h I (a + (i : Nat) * 1) (((b - a).toNat : Int) - (i : Nat)) 1) :=
  Feed.ofWalks (Walks.range hh I a 1 (b - a).toNat) (by simp [rangeL])
    (fun i h b o st hb e => by
      cases List.mem_singleton.mp hb; rw [show h.get? I = _ from st] at e; cases e; show Value.type "range_iterator" ≠ _; decide)
    (fun i h b st hb => by
      cases List.mem_singleton.mp hb; exact ⟨_, st⟩)
    (fun i h st => .inr ⟨_, _, _, st, rfl, rfl, by decide⟩)
    fun i x v h hm bad hx hv r => by
      obtain ⟨t, rfl⟩ := hv
      have hi : i < (b - a).toNat := by have := (List.getElem?_eq_some_iff.mp hx).1; simpa [rangeL] using this
      simp only [rangeL, List.getElem?_map, List.getElem?_range hi, Option.map_some] at hx
      cases hx
      rw [Int.mul_one]
      exact .int _ _
end
end Mine
end

noncomputable section
set_option maxRecDepth 100000
namespace Mine
open PySem PySem.Calls PyProof.Rows PySem.W

noncomputable def SqAt (h : Heap) (k : Bool) (l : Addr) (xs : Array Value) : Prop := match k with
  | true => h.IsList l xs
  | false => h.IsTuple l xs
noncomputable def SqIt (h : Heap) (k : Bool) (it l : Addr) (i : Nat) : Prop := match k with
  | true => h.IsListIter it l i
  | false => h.IsTupleIter it l i
theorem SqAt.at {h h' : Heap} {k : Bool} {l : Addr} {xs : Array Value} (x : SqAt h k l xs) (e : ∀ o, h.get? l = some o → h'.get? l = some o) : SqAt h' k l xs := by
  cases k
  · exact Heap.IsTuple.at x e
  · exact Heap.IsList.at x e
theorem SqIt.at {h h' : Heap} {k : Bool} {it l : Addr} {i : Nat} (x : SqIt h k it l i) (e : ∀ o, h.get? it = some o → h'.get? it = some o) : SqIt h' k it l i := by
  cases k
  · exact Heap.IsTupleIter.at x e
  · exact Heap.IsListIter.at x e
theorem SqIt.lt {h : Heap} {k : Bool} {it l : Addr} {i : Nat} (x : SqIt h k it l i) : Live h it ∧ it < h.objs.size := by
  cases k
  · obtain ⟨o, e, _⟩ := x; exact ⟨⟨o, e⟩, Heap.lt_size e⟩
  · obtain ⟨o, e, _⟩ := x; exact ⟨⟨o, e⟩, Heap.lt_size e⟩
theorem SqAt.live {h : Heap} {k : Bool} {l : Addr} {xs : Array Value} (x : SqAt h k l xs) : Live h l := by
  cases k
  · obtain ⟨o, e, _⟩ := x; exact ⟨o, e⟩
  · obtain ⟨o, e, _⟩ := x; exact ⟨o, e⟩
theorem SqAt.ncls {h : Heap} {k : Bool} {l : Addr} {xs : Array Value} {o : Obj} (x : SqAt h k l xs) (e : h.get? l = some o) : o.cls ≠ .type "frame" := by
  cases k
  · obtain ⟨o', e', c, _⟩ := x; rw [e] at e'; cases e'; rw [c]; decide
  · obtain ⟨o', e', c, _⟩ := x; rw [e] at e'; cases e'; rw [c]; decide
theorem SqIt.ncls {h : Heap} {k : Bool} {l it : Addr} {i : Nat} {o : Obj} (x : SqIt h k it l i) (e : h.get? it = some o) : o.cls ≠ .type "frame" := by
  cases k
  · obtain ⟨o', e', c, _⟩ := x; rw [e] at e'; cases e'; rw [c]; decide
  · obtain ⟨o', e', c, _⟩ := x; rw [e] at e'; cases e'; rw [c]; decide

section
variable {prog : Program} {w : World} {A : Around} {E : Value → Shared → Prop} {s : Shared}
theorem nextOf_item {k : Bool} {it l : Addr} {i : Nat} {items} {x : Value} {Q : Value → Shared → Prop} (hit : SqIt s.heap k it l i) (hl : SqAt s.heap k l items) (hx : items[i]? = some x)
    (hQ : ∀ h', SqIt h' k it l (i + 1) → Heap.SameBut it s.heap h' → Q x { s with heap := h' }) : wpAny (model prog w) A (Builtin.SmallTypes.nextOf (.ref it)) Q E s := by
  cases k with
  | true => exact wpAny_nextOf_list_item hit hl hx hQ
  | false =>
    obtain ⟨o, ho, hc, hd⟩ := id hit
    obtain ⟨ol, hol, _, nl, hdl⟩ := hl
    have hT : s.TypeIs (.ref it) "tuple_iterator" := ⟨o, ho, hc⟩
    unfold Builtin.SmallTypes.nextOf
    refine wpAny_bind (wpAny_callSpecial?_slot (name := Str.ofString "__next__") hT PySem.F.slot_tuple_iterator_next
      (wpAny_call_entry PySem.F.slot_tuple_iterator_next hT PySem.F.entry_tuple_iterator_next ?_ (PySem.F.args_tuple_iterator_next_1 _)))
    show wpAny _ _ (field (.ref it) 0 >>= _) _ _ s
    refine wpAny_bind (wpAny_field ho hd (x := .ref l) rfl ?_)
    show wpAny _ _ (if (Value.ref l == Value.none) = true then _ else _) _ _ s
    rw [if_neg (show ¬ ((Value.ref l == Value.none) = true) from Bool.false_ne_true)]
    show wpAny _ _ (field (.ref it) 1 >>= _) _ _ s
    refine wpAny_bind (wpAny_field ho hd (x := .int i 0) rfl ?_)
    show wpAny _ _ (seqItems? (.ref l) >>= _) _ _ s
    refine wpAny_bind (wpAny_seqItems hol hdl ?_)
    simp only [Int.toNat_natCast, hx]
    refine wpAny_bind (wpAny_setField ho hd (by simp) (wpAny_pure ⟨x, rfl, wpAny_pure (hQ _ ?_ (Heap.SameBut.update ..))⟩))
    exact ⟨_, Heap.get?_update_self _ ho (Obj.isFreed_of_fields (Obj.data_mapFields hd _)), (Obj.cls_mapFields ..).trans hc, by rw [Obj.data_mapFields hd]; simp [rawInt]⟩
theorem nextOf_end {k : Bool} {it l : Addr} {i : Nat} {items} {Q : Value → Shared → Prop} (hh : A.handled = none) (hit : SqIt s.heap k it l i) (hl : SqAt s.heap k l items) (hx : items[i]? = none)
    (hE : ∀ h' e, Heap.ExtBut it s.heap h' → (∃ o, h'.get? e = some o ∧ o.cls = .type "StopIteration") → E (.ref e) { s with heap := h' }) : wpAny (model prog w) A (Builtin.SmallTypes.nextOf (.ref it)) Q E s := by
  cases k with
  | true => exact wpAny_nextOf_list_end hh hit hl hx hE
  | false =>
    obtain ⟨o, ho, hc, hd⟩ := id hit
    obtain ⟨ol, hol, _, nl, hdl⟩ := hl
    have hT : s.TypeIs (.ref it) "tuple_iterator" := ⟨o, ho, hc⟩
    unfold Builtin.SmallTypes.nextOf
    refine wpAny_bind (wpAny_callSpecial?_slot (name := Str.ofString "__next__") hT PySem.F.slot_tuple_iterator_next
      (wpAny_call_entry PySem.F.slot_tuple_iterator_next hT PySem.F.entry_tuple_iterator_next ?_ (PySem.F.args_tuple_iterator_next_1 _)))
    show wpAny _ _ (field (.ref it) 0 >>= _) _ _ s
    refine wpAny_bind (wpAny_field ho hd (x := .ref l) rfl ?_)
    show wpAny _ _ (if (Value.ref l == Value.none) = true then _ else _) _ _ s
    rw [if_neg (show ¬ ((Value.ref l == Value.none) = true) from Bool.false_ne_true)]
    show wpAny _ _ (field (.ref it) 1 >>= _) _ _ s
    refine wpAny_bind (wpAny_field ho hd (x := .int i 0) rfl ?_)
    show wpAny _ _ (seqItems? (.ref l) >>= _) _ _ s
    refine wpAny_bind (wpAny_seqItems hol hdl ?_)
    simp only [Int.toNat_natCast, hx]
    refine wpAny_bind (wpAny_rule (wpAny_bind (wpAny_setField ho hd (by simp) ?_)))
    show wpAny _ _ (newExc (.type "StopIteration") [] >>= _) _ _ _
    refine wpAny_bind ?_
    simp only [newExc, newTuple]
    refine wpAny_bind (wpAny_newObj_type ?_ (by size_fits))
    refine wpAny_bind (m := firstArgMember _ _) (wpAny_of_eq (a := Value.none) (by first | rfl | (simp only [firstArgMember]; rfl)) ?_)
    refine wpAny_newObj_type ?_ (by size_fits)
    simp only [raiseNew]
    refine wpAny_bind (wpAny_handled ?_)
    first | rw [show A.in1.handled = none from hh] | rw [hh]
    refine wpAny_bind (wpAny_pure (wpAny_throw ?_))
    exact hE _ _ (((Heap.SameBut.update ..).extBut.push _).push _) ⟨_, Heap.get?_push_size _ rfl, rfl⟩

theorem zipnext_item {c1 c2 : Bool} {z TI TO i1 i2 l1 l2 : Addr} {k1 k2 : Nat} {xs ys : Array Value} {x y a b : Value} {Q : Value → Shared → Prop} (D : ZipApart z TI TO i1 i2 l1 l2)
    (hz : IsZip s.heap z TI TO .none) (hTI : IsPair s.heap TI (.ref i1) (.ref i2)) (hTO : IsPair s.heap TO a b)
    (h1 : SqIt s.heap c1 i1 l1 k1) (h2 : SqIt s.heap c2 i2 l2 k2) (hl1 : SqAt s.heap c1 l1 xs) (hl2 : SqAt s.heap c2 l2 ys) (hx : xs[k1]? = some x) (hy : ys[k2]? = some y)
    (hQ : ∀ h', IsZip h' z TI TO (rawInt s.heap.objs.size) → IsPair h' TO x y → SqIt h' c1 i1 l1 (k1 + 1) → SqIt h' c2 i2 l2 (k2 + 1) → IsPair h' s.heap.objs.size x y →
      (∀ c o, c ≠ z → c ≠ TO → c ≠ i1 → c ≠ i2 → s.heap.get? c = some o → h'.get? c = some o) → Q (.ref s.heap.objs.size) { s with heap := h' }) :
    wpAny (model prog w) A (Builtin.«zip.__next__» ⟨[.ref z], []⟩) (fun fin s' => ∃ v, fin = .done (.ret v) ∧ Q v s') E s := by
  show wpAny _ _ (field (.ref z) 2 >>= _) _ _ _
  refine wpAny_bind (wpAny_field hz rfl (x := .bool false) rfl ?_)
  show wpAny _ _ (field (.ref z) 3 >>= _) _ _ _
  refine wpAny_bind (wpAny_field hz rfl (x := .ref TI) rfl ?_)
  refine wpAny_bind (wpAny_seqItems hTI rfl ?_)
  show wpAny _ _ (Builtin.SmallTypes.ownedTupleIsFree (.ref z) >>= _) _ _ _
  refine wpAny_bind ?_
  unfold Builtin.SmallTypes.ownedTupleIsFree
  refine wpAny_bind (wpAny_field hz rfl (x := .none) rfl (wpAny_pure ?_))
  simp only [if_true]
  refine wpAny_bind (wpAny_rule ?_)
  refine wpAny_bind (wpAny_field hz rfl (x := .ref TO) rfl ?_)
  refine wpAny_bind (wpAny_setField_rec hz (by simp) fun h₁ hz₁ hs₁ => ?_)
  replace hz₁ : IsZip h₁ z TI TO .ellipsis := hz₁
  refine wpAny_bind ?_
  simp only [List.zipIdx_cons, List.zipIdx_nil, List.forIn_cons, List.forIn_nil]
  refine wpAny_bind (wpAny_bind (wpAny_onRaise ?_))
  show wpAny _ _ (Builtin.SmallTypes.nextOf (.ref i1) >>= _) _ _ _
  refine wpAny_bind (nextOf_item (h1.at fun o e => hs₁.extBut _ o D.i1z e) (hl1.at fun o e => hs₁.extBut _ o D.l1z e) hx fun h₂ h1₂ hs₂ => wpAny_pure ?_)
  have hTO₂ : IsPair h₂ TO a b := hs₂.extBut _ _ D.TOi1 (hs₁.extBut _ _ D.TOz hTO)
  refine wpAny_bind (wpAny_seqItems hTO₂ rfl ?_)
  refine wpAny_bind (wpAny_updateSeq_pair hTO₂ fun h₃ hTO₃ hs₃ => ?_)
  replace hTO₃ : IsPair h₃ TO x b := hTO₃
  refine wpAny_bind (wpAny_letGo (wpAny_pure ?_))
  refine wpAny_bind (wpAny_bind (wpAny_onRaise ?_))
  show wpAny _ _ (Builtin.SmallTypes.nextOf (.ref i2) >>= _) _ _ _
  refine wpAny_bind (nextOf_item (h2.at fun o e => hs₃.extBut _ o D.TOi2.symm (hs₂.extBut _ o D.i12.symm (hs₁.extBut _ o D.i2z e)))
    (hl2.at fun o e => hs₃.extBut _ o D.l2TO (hs₂.extBut _ o D.l2i1 (hs₁.extBut _ o D.l2z e))) hy fun h₄ h2₄ hs₄ => wpAny_pure ?_)
  have hTO₄ : IsPair h₄ TO x b := hs₄.extBut _ _ D.TOi2 hTO₃
  refine wpAny_bind (wpAny_seqItems hTO₄ rfl ?_)
  refine wpAny_bind (wpAny_updateSeq_pair hTO₄ fun h₅ hTO₅ hs₅ => ?_)
  replace hTO₅ : IsPair h₅ TO x y := hTO₅
  refine wpAny_bind (wpAny_letGo (wpAny_pure (wpAny_pure ?_)))
  refine wpAny_bind (wpAny_seqItems hTO₅ rfl ?_)
  refine wpAny_bind (wpAny_newTuple ?_)
  have hsz : h₅.objs.size = s.heap.objs.size := by rw [hs₅.1, hs₄.1, hs₃.1, hs₂.1, hs₁.1]
  have hz₅ : IsZip h₅ z TI TO .ellipsis := hs₅.extBut _ _ D.TOz.symm (hs₄.extBut _ _ D.i2z.symm (hs₃.extBut _ _ D.TOz.symm (hs₂.extBut _ _ D.i1z.symm hz₁)))
  have hk₅ : ∀ c o, c ≠ z → c ≠ TO → c ≠ i1 → c ≠ i2 → s.heap.get? c = some o → h₅.get? c = some o := fun c o c1 c2 c3 c4 e =>
    hs₅.extBut _ _ c2 (hs₄.extBut _ _ c4 (hs₃.extBut _ _ c2 (hs₂.extBut _ _ c3 (hs₁.extBut _ _ c1 e))))
  have h1₅ : SqIt h₅ c1 i1 l1 (k1 + 1) := h1₂.at fun o e => hs₅.extBut _ o D.TOi1.symm (hs₄.extBut _ o D.i12 (hs₃.extBut _ o D.TOi1.symm e))
  have h2₅ : SqIt h₅ c2 i2 l2 (k2 + 1) := h2₄.at fun o e => hs₅.extBut _ o D.TOi2.symm e
  have hzlt : z < h₅.objs.size := Heap.lt_size hz₅
  show wpAny _ _ (Builtin.SmallTypes.ownedTupleHandOut (.ref z) (.ref h₅.objs.size) >>= _) _ _ _
  refine wpAny_bind ?_
  unfold Builtin.SmallTypes.ownedTupleHandOut
  have hz₆ : IsZip (h₅.push { cls := .type "tuple", data := .seq #[x, y] }) z TI TO .ellipsis := Heap.get?_push_of_some _ hz₅
  refine wpAny_bind (wpAny_setField_rec hz₆ (by simp) fun h₇ hz₇ hs₇ => ?_)
  replace hz₇ : IsZip h₇ z TI TO (rawInt h₅.objs.size) := hz₇
  refine wpAny_setField_rec hz₇ (by simp) fun h₈ hz₈ hs₈ => ?_
  replace hz₈ : IsZip h₈ z TI TO (rawInt h₅.objs.size) := hz₈
  have up : ∀ c o, c ≠ z → h₅.get? c = some o → h₈.get? c = some o := fun c o c1 e => hs₈.extBut _ _ c1 (hs₇.extBut _ _ c1 (Heap.get?_push_of_some _ e))
  have hT₈ : IsPair h₈ h₅.objs.size x y := hs₈.extBut _ _ (Nat.ne_of_gt hzlt) (hs₇.extBut _ _ (Nat.ne_of_gt hzlt) (Heap.get?_push_size _ rfl))
  rw [hsz] at hz₈ hT₈
  refine wpAny_pure ⟨_, rfl, ?_⟩
  show Q (.ref h₅.objs.size) _
  rw [hsz]
  exact hQ h₈ hz₈ (up _ _ D.TOz hTO₅) (h1₅.at fun o e => up _ o D.i1z e) (h2₅.at fun o e => up _ o D.i2z e) hT₈ fun c o c1 c2 c3 c4 e => up c o c1 (hk₅ c o c1 c2 c3 c4 e)
theorem zipnext_end {c1 c2 : Bool} {z TI TO i1 i2 l1 l2 : Addr} {k1 k2 : Nat} {xs ys : Array Value} {a b : Value} {Q : Fin → Shared → Prop} (hh : A.handled = none) (D : ZipApart z TI TO i1 i2 l1 l2)
    (hz : IsZip s.heap z TI TO .none) (hTI : IsPair s.heap TI (.ref i1) (.ref i2)) (hTO : IsPair s.heap TO a b)
    (h1 : SqIt s.heap c1 i1 l1 k1) (h2 : SqIt s.heap c2 i2 l2 k2) (hl1 : SqAt s.heap c1 l1 xs) (hl2 : SqAt s.heap c2 l2 ys) (hend : xs[k1]? = none ∨ ys[k2]? = none)
    (hE : ∀ h' e, (∀ c o, c ≠ z → c ≠ TO → c ≠ i1 → c ≠ i2 → s.heap.get? c = some o → h'.get? c = some o) → (∃ o, h'.get? e = some o ∧ o.cls = .type "StopIteration") → E (.ref e) { s with heap := h' }) :
    wpAny (model prog w) A (Builtin.«zip.__next__» ⟨[.ref z], []⟩) Q E s := by
  show wpAny _ _ (field (.ref z) 2 >>= _) _ _ _
  refine wpAny_bind (wpAny_field hz rfl (x := .bool false) rfl ?_)
  show wpAny _ _ (field (.ref z) 3 >>= _) _ _ _
  refine wpAny_bind (wpAny_field hz rfl (x := .ref TI) rfl ?_)
  refine wpAny_bind (wpAny_seqItems hTI rfl ?_)
  show wpAny _ _ (Builtin.SmallTypes.ownedTupleIsFree (.ref z) >>= _) _ _ _
  refine wpAny_bind ?_
  unfold Builtin.SmallTypes.ownedTupleIsFree
  refine wpAny_bind (wpAny_field hz rfl (x := .none) rfl (wpAny_pure ?_))
  simp only [if_true]
  refine wpAny_bind (wpAny_rule ?_)
  refine wpAny_bind (wpAny_field hz rfl (x := .ref TO) rfl ?_)
  refine wpAny_bind (wpAny_setField_rec hz (by simp) fun h₁ hz₁ hs₁ => ?_)
  replace hz₁ : IsZip h₁ z TI TO .ellipsis := hz₁
  refine wpAny_bind ?_
  simp only [List.zipIdx_cons, List.zipIdx_nil, List.forIn_cons, List.forIn_nil]
  refine wpAny_bind (wpAny_bind (wpAny_onRaise ?_))
  show wpAny _ _ (Builtin.SmallTypes.nextOf (.ref i1) >>= _) _ _ _
  cases hx : xs[k1]? with
  | none =>
    refine wpAny_bind (nextOf_end hh (h1.at fun o e => hs₁.extBut _ o D.i1z e) (hl1.at fun o e => hs₁.extBut _ o D.l1z e) hx fun h₂ e hs₂ he => ?_)
    obtain ⟨oe, hoe, hce⟩ := he
    have hz₂ : IsZip h₂ z TI TO .ellipsis := hs₂ _ _ D.i1z.symm hz₁
    have hez : e ≠ z := fun x => by subst x; rw [hz₂] at hoe; cases hoe; simp at hce
    refine wpAny_setField_rec hz₂ (by simp) fun h₃ _ hs₃ => hE h₃ e (fun c o c1 _ c3 _ x => hs₃.extBut _ _ c1 (hs₂ _ _ c3 (hs₁.extBut _ _ c1 x))) ⟨oe, hs₃.extBut _ _ hez hoe, hce⟩
  | some x =>
    have hy : ys[k2]? = none := by rcases hend with h | h; rw [hx] at h; cases h; exact h
    refine wpAny_bind (nextOf_item (h1.at fun o e => hs₁.extBut _ o D.i1z e) (hl1.at fun o e => hs₁.extBut _ o D.l1z e) hx fun h₂ h1₂ hs₂ => wpAny_pure ?_)
    have hTO₂ : IsPair h₂ TO a b := hs₂.extBut _ _ D.TOi1 (hs₁.extBut _ _ D.TOz hTO)
    refine wpAny_bind (wpAny_seqItems hTO₂ rfl ?_)
    refine wpAny_bind (wpAny_updateSeq_pair hTO₂ fun h₃ hTO₃ hs₃ => ?_)
    refine wpAny_bind (wpAny_letGo (wpAny_pure ?_))
    refine wpAny_bind (wpAny_bind (wpAny_onRaise ?_))
    show wpAny _ _ (Builtin.SmallTypes.nextOf (.ref i2) >>= _) _ _ _
    refine wpAny_bind (nextOf_end hh (h2.at fun o e => hs₃.extBut _ o D.TOi2.symm (hs₂.extBut _ o D.i12.symm (hs₁.extBut _ o D.i2z e)))
      (hl2.at fun o e => hs₃.extBut _ o D.l2TO (hs₂.extBut _ o D.l2i1 (hs₁.extBut _ o D.l2z e))) hy fun h₄ e hs₄ he => ?_)
    obtain ⟨oe, hoe, hce⟩ := he
    have hz₄ : IsZip h₄ z TI TO .ellipsis := hs₄ _ _ D.i2z.symm (hs₃.extBut _ _ D.TOz.symm (hs₂.extBut _ _ D.i1z.symm hz₁))
    have hez : e ≠ z := fun x => by subst x; rw [hz₄] at hoe; cases hoe; simp at hce
    refine wpAny_setField_rec hz₄ (by simp) fun h₅ _ hs₅ => hE h₅ e (fun c o c1 c2 c3 c4 x => hs₅.extBut _ _ c1 (hs₄ _ _ c4 (hs₃.extBut _ _ c2 (hs₂.extBut _ _ c3 (hs₁.extBut _ _ c1 x))))) ⟨oe, hs₅.extBut _ _ hez hoe, hce⟩
end

structure ZipSt (c1 c2 : Bool) (z TI TO i1 i2 l1 l2 : Addr) (xs ys : Array Value) (i : Nat) (h : Heap) : Prop where
  z : IsZip h z TI TO .none
  ti : IsPair h TI (.ref i1) (.ref i2)
  to : ∃ a b, IsPair h TO a b
  h1 : SqIt h c1 i1 l1 i
  h2 : SqIt h c2 i2 l2 i
  hl1 : SqAt h c1 l1 xs
  hl2 : SqAt h c2 l2 ys
theorem zipL_get : ∀ {l r : List V} {i : Nat} {x : V}, (zipL l r)[i]? = some x → ∃ a b, l[i]? = some a ∧ r[i]? = some b ∧ x = .tuple [a, b]
  | [], _, _, _, e => by simp [zipL] at e
  | _ :: _, [], _, _, e => by simp [zipL] at e
  | a :: l, b :: r, 0, x, e => by simp [zipL] at e; exact ⟨a, b, rfl, rfl, e.symm⟩
  | a :: l, b :: r, i + 1, x, e => by simp [zipL] at e; simpa using zipL_get e
theorem zipL_length : ∀ l r : List V, (zipL l r).length = min l.length r.length
  | [], _ => by simp [zipL]
  | _ :: _, [] => by simp [zipL]
  | a :: l, b :: r => by simp [zipL, zipL_length l r]
theorem feed_zip {g : Gl} {A : Around} (hh : A.handled = none) {elts : List Expr} {kk : Nat} {pos : Pos} {c1 c2 : Bool} {z TI TO i1 i2 l1 l2 : Addr} (D : ZipApart z TI TO i1 i2 l1 l2) (xs ys : Array Value) (la lb : List V) (hla : xs.size = la.length) (hlb : ys.size = lb.length) :
    Feed g A (.Tuple elts kk pos) z [z, TI, TO, i1, i2, l1, l2] [z, TO, i1, i2] (xs.toList ++ ys.toList) (la ++ lb) (zipL la lb) (ZipSt c1 c2 z TI TO i1 i2 l1 l2 xs ys) where
  sub := fun c hc => by simp at hc ⊢; rcases hc with rfl | rfl | rfl | rfl <;> simp
  frame := fun i h h' st hk => ⟨hk z (by simp) _ st.z, hk TI (by simp) _ st.ti, let ⟨a, b, e⟩ := st.to; ⟨a, b, hk TO (by simp) _ e⟩, st.h1.at fun o e => hk i1 (by simp) o e, st.h2.at fun o e => hk i2 (by simp) o e,
      st.hl1.at fun o e => hk l1 (by simp) o e, st.hl2.at fun o e => hk l2 (by simp) o e⟩
  cls := fun i h b o st hb e => by
    have st' := st
    obtain ⟨a, b', hto⟩ := st.to
    simp only [List.mem_cons, List.not_mem_nil, or_false] at hb
    rcases hb with rfl | rfl | rfl | rfl | rfl | rfl | rfl
    · rw [st.z] at e; cases e; show Value.type "zip" ≠ _; decide
    · rw [st.ti] at e; cases e; show Value.type "tuple" ≠ _; decide
    · rw [hto] at e; cases e; show Value.type "tuple" ≠ _; decide
    · exact st.h1.ncls e
    · exact st.h2.ncls e
    · exact st.hl1.ncls e
    · exact st.hl2.ncls e
  live := fun i h b st hb => by
    obtain ⟨a, b', hto⟩ := st.to
    simp only [List.mem_cons, List.not_mem_nil, or_false] at hb
    rcases hb with rfl | rfl | rfl | rfl | rfl | rfl | rfl
    · exact ⟨_, st.z⟩
    · exact ⟨_, st.ti⟩
    · exact ⟨_, hto⟩
    · exact st.h1.lt.1
    · exact st.h2.lt.1
    · exact st.hl1.live
    · exact st.hl2.live
  item := fun i x s hm bad Q E hx st hv hb hw hQ => by
    obtain ⟨xa, xb, ha, hbb, rfl⟩ := zipL_get hx
    have h1 := (List.getElem?_eq_some_iff.mp ha).1
    have h2 := (List.getElem?_eq_some_iff.mp hbb).1
    obtain ⟨va, eva, ra⟩ := hv.get (i := i) (x := xa) (by rw [List.getElem?_append_left h1]; exact ha)
    obtain ⟨vb, evb, rb⟩ := hv.get (i := la.length + i) (x := xb) (by rw [List.getElem?_append_right (by omega)]; simpa using hbb)
    rw [List.getElem?_append_left (by simp; omega)] at eva
    rw [List.getElem?_append_right (by simp; omega)] at evb
    simp only [Array.getElem?_toList, Array.length_toList, hla, Nat.add_sub_cancel_left] at eva evb
    obtain ⟨a, b, hto⟩ := st.to
    have hT : s.TypeIs (.ref z) "zip" := ⟨_, st.z, rfl⟩
    unfold pyNext
    refine wpAny_bind (wpAny_attempt (wpAny_callSpecial?_slot (name := Str.ofString "__next__") hT PySem.F.slot_zip_next
      (wpAny_call_entry PySem.F.slot_zip_next hT PySem.F.entry_zip_next
        (zipnext_item D st.z st.ti hto st.h1 st.h2 st.hl1 st.hl2 eva evb fun h' a1 a2 a3 a4 a5 hk => wpAny_pure ?_) (PySem.F.args_zip_next_1 _))))
    refine ⟨_, rfl, wpAny_letOwnedTupleGo_zip a1 fun h'' hz' hs' => ?_⟩
    have up : ∀ c o, c ∉ [z, TO, i1, i2] → s.heap.get? c = some o → h''.get? c = some o := fun c o hc e => by
      simp only [List.mem_cons, List.not_mem_nil, or_false, not_or] at hc
      exact hs'.extBut _ _ hc.1 (hk c o hc.1 hc.2.1 hc.2.2.1 hc.2.2.2 e)
    have hnew : s.heap.objs.size ≠ z := Nat.ne_of_gt (Heap.lt_size st.z)
    have kb : KeepBut bad s.heap h'' := fun c o e nb => .of_eq (up c o (fun m => nb (hw c m)) e)
    refine hQ _ h'' s.toks ⟨hz', ?_, ⟨_, _, hs'.extBut _ _ D.TOz a2⟩, a3.at fun o e => hs'.extBut _ o D.i1z e, a4.at fun o e => hs'.extBut _ o D.i2z e, ?_, ?_⟩ up (.tuple (fresh_ok hb) (hs'.extBut _ _ hnew a5) rfl rfl ?_)
    · exact hs'.extBut _ _ D.TIz (hk _ _ D.TIz D.TITO D.TIi1 D.TIi2 st.ti)
    · exact st.hl1.at fun o e => hs'.extBut _ o D.l1z (hk _ o D.l1z D.l1TO D.l1i1 D.l1i2 e)
    · exact st.hl2.at fun o e => hs'.extBut _ o D.l2z (hk _ o D.l2z D.l2TO D.l2i1 D.l2i2 e)
    · exact .cons (ra.keep kb (by intro q; cases q)) (.cons (rb.keep kb (by intro q; cases q)) .nil)
  done := fun s Q E st hQ => by
    obtain ⟨a, b, hto⟩ := st.to
    have hT : s.TypeIs (.ref z) "zip" := ⟨_, st.z, rfl⟩
    unfold pyNext
    refine wpAny_bind (wpAny_attempt (wpAny_callSpecial?_slot (name := Str.ofString "__next__") hT PySem.F.slot_zip_next
      (wpAny_call_entry PySem.F.slot_zip_next hT PySem.F.entry_zip_next (zipnext_end hh D st.z st.ti hto st.h1 st.h2 st.hl1 st.hl2 ?_ fun h' e hk he => ?_) (PySem.F.args_zip_next_1 _))))
    · rw [zipL_length]
      rcases Nat.le_total la.length lb.length with q | q
      · left; rw [Nat.min_eq_left q, ← hla]; simp
      · right; rw [Nat.min_eq_right q, ← hlb]; simp
    · obtain ⟨o, ho, hc⟩ := he
      refine wpAny_bind (wpAny_isInstance (T := "StopIteration") (b := true) ⟨o, ho, hc⟩ isSubtype_stop ?_)
      refine wpAny_pure ⟨rfl, hQ _ s.toks fun c o hc e => ?_⟩
      simp only [List.mem_cons, List.not_mem_nil, or_false, not_or] at hc
      exact hk c o hc.1 hc.2.1 hc.2.2.1 hc.2.2.2 e
  self := fun i s Q E st hQ => wpAny_pyIter_zip st.z hQ
end Mine
end

noncomputable section
set_option maxRecDepth 100000
namespace Mine
open PySem PySem.Calls PyProof.Rows PySem.W

noncomputable def FeedAt (g : Gl) (hm : Bool) (A : Around) (T : Expr) (wk : Bool) (bad : Addr → Prop) (s₀ s₂ : Shared) (it : Value) (l : List V) : Prop :=
  ∃ I fp wr vals l0 St, it = .ref I ∧ Feed g A T I fp wr vals l0 l St ∧ St 0 s₂.heap ∧ RpAll g hm bad s₀.heap vals l0 ∧ (∀ b ∈ wr, s₀.heap.get? b = none) ∧ (∀ b ∈ fp, s₀.heap.get? b = none ∨ (wk = false → ¬ bad b)) ∧ l.length ≤ szLine

section
variable {g : Gl} {hm wk : Bool} {bad : Addr → Prop} {A : Around} {E : Value → Shared → Prop} {s : Shared} {T : Expr}

theorem rne {b : Addr} {o : Obj} (e : s.heap.get? b = some o) : b ≠ s.heap.objs.size := Nat.ne_of_lt (Heap.lt_size e)
theorem iter_e {v : Value} {x : V} {l : List V} (hh : A.handled = none) (e : seqV x = some l) (r : Rp g hm bad s.heap wk v x) :
    wpAny (model g.prog g.w) A (pyIter v) (fun it s' => Grown s s' ∧ FeedAt g hm A T wk bad s s' it l) E s := by
  unfold seqV at e
  split at e
  · split at e
    case isFalse => cases e
    rename_i hsz; cases e
    cases r with | @list _ a o vs n _ hb ha hc hd hl => ?_
    have len := hl.length
    simp only [Array.length_toList] at len
    have hL : s.heap.IsList a vs := ⟨_, ha, hc, _, hd⟩
    refine wpAny_pyIter_list hL ⟨Grown.push s _ s.toks, _, _, _, _, _, _, rfl, feed_list hh _ a (rne ha) vs l len, ⟨⟨_, Heap.get?_push_size _ rfl, rfl, rfl⟩, hL.push _⟩, hl, fun b q => ?_, fun b q => ?_, hsz⟩
    · cases List.mem_singleton.mp q; exact size_none _
    · rcases List.mem_cons.mp q with rfl | q
      · exact .inl (size_none _)
      · cases List.mem_singleton.mp q
        exact .inr fun hw => hb.1.resolve_left (by rw [hw]; decide)
  · split at e
    case isFalse => cases e
    rename_i hsz; cases e
    cases r with | @tuple _ a o vs n _ hb ha hc hd hl => ?_
    have len := hl.length
    simp only [Array.length_toList] at len
    have hL : s.heap.IsTuple a vs := ⟨_, ha, hc, _, hd⟩
    refine wpAny_pyIter_tuple hL ⟨Grown.push s _ s.toks, _, _, _, _, _, _, rfl, feed_tuple hh _ a (rne ha) vs l len, ⟨⟨_, Heap.get?_push_size _ rfl, rfl, rfl⟩, hL.at fun o e => Heap.get?_push_of_some _ e⟩, hl, fun b q => ?_, fun b q => ?_, hsz⟩
    · cases List.mem_singleton.mp q; exact size_none _
    · rcases List.mem_cons.mp q with rfl | q
      · exact .inl (size_none _)
      · cases List.mem_singleton.mp q
        exact .inr fun _ => hb
  · split at e
    case isFalse => cases e
    rename_i y hsz; cases e
    cases r with | @str _ xs _ t ea => ?_
    subst ea
    have mk : ∀ nm (hnm : nm = "str_ascii_iterator" ∨ nm = "str_iterator") (o : Obj), Walks g.prog g.w A s.heap.objs.size [s.heap.objs.size] [s.heap.objs.size] xs.cps.size (SignAt xs) (fun i h => h.IsStrIter s.heap.objs.size nm xs t i) → (s.heap.push o).IsStrIter s.heap.objs.size nm xs t 0 →
        Grown s { s with heap := s.heap.push o } ∧ FeedAt g hm A T wk bad s { s with heap := s.heap.push o } (.ref s.heap.objs.size) (charsV xs.cps.toList) := fun nm hnm o W st =>
      ⟨Grown.push s _ s.toks, _, _, _, _, _, _, rfl, feed_str nm hnm _ xs t W, st, .nil, fun b q => by cases List.mem_singleton.mp q; exact size_none _, fun b q => by cases List.mem_singleton.mp q; exact .inl (size_none _), by simpa [charsV] using hsz⟩
    cases ha : xs.cps.all (· < 128)
    · exact wpAny_pyIter_wide ha (mk _ (.inr rfl) _ (Walks.strWide hh _ xs t) ⟨_, Heap.get?_push_size _ rfl, rfl, rfl⟩)
    · exact wpAny_pyIter_ascii ha (mk _ (.inl rfl) _ (Walks.strAscii hh _ xs t) ⟨_, Heap.get?_push_size _ rfl, rfl, rfl⟩)
  · cases e
theorem iter_range {a b : Int} {l : List V} {r : Addr} {t u v : Tok} {s₀ : Shared} (hh : A.handled = none) (e : rangeO a b = some l) (hr : IsRange s.heap r a b 1 t u v) (gr : Grown s₀ s) :
    wpAny (model g.prog g.w) A (pyIter (.ref r)) (fun it s' => Grown s₀ s' ∧ FeedAt g hm A T wk bad s₀ s' it l) E s := by
  unfold rangeO at e
  split at e
  · rename_i q
    cases e
    obtain ⟨qa, qb, qc⟩ := q
    have q := And.intro (rOk_of qa) (And.intro (rOk_of qb) qc)
    refine wpAny_pyIter_range hr (small_one q.1.1 q.1.2 q.2.1.1 q.2.1.2) ?_
    have n0 : s₀.heap.get? s.heap.objs.size = none := none_of gr.trX.live (size_none _)
    refine ⟨gr.trans (Grown.push s _ s.toks), _, _, _, _, _, _, rfl, feed_range hh _ a b, ?_, .nil, fun c hc => by cases List.mem_singleton.mp hc; exact n0, fun c hc => by cases List.mem_singleton.mp hc; exact .inl n0, by simpa [rangeL] using q.2.2⟩
    have e1 : a + ((0 : Nat) : Int) * 1 = a := by simp
    have e2 : ((b - a).toNat : Int) - ((0 : Nat) : Int) = Builtin.Range.rangeSize a b 1 := by rw [rangeSize_one]; split <;> omega
    show IsRangeIter _ _ (a + ((0 : Nat) : Int) * 1) (((b - a).toNat : Int) - ((0 : Nat) : Int)) 1
    rw [e1, e2]
    exact Heap.get?_push_size _ rfl
  · cases e
noncomputable def itObj (c : Bool) (l : Addr) : Obj := { cls := .type (if c then "list_iterator" else "tuple_iterator"), data := .fields #[.ref l, .int 0 0] }
theorem itObj_at {h : Heap} {c : Bool} {l i : Addr} (e : h.get? i = some (itObj c l)) : SqIt h c i l 0 := by
  cases c
  · exact ⟨_, e, rfl, rfl⟩
  · exact ⟨_, e, rfl, rfl⟩
theorem pyIter_sq {prog : Program} {w : World} {c : Bool} {l : Addr} {xs : Array Value} {Q : Value → Shared → Prop} (h : SqAt s.heap c l xs) (hQ : Q (.ref s.heap.objs.size) { s with heap := s.heap.push (itObj c l) }) : wpAny (model prog w) A (pyIter (.ref l)) Q E s := by
  cases c
  · exact wpAny_pyIter_tuple h hQ
  · exact wpAny_pyIter_list h hQ
noncomputable def zH1 (h : Heap) (c1 : Bool) (l1 : Addr) : Heap := h.push (itObj c1 l1)
noncomputable def zH2 (h : Heap) (c1 c2 : Bool) (l1 l2 : Addr) : Heap := (zH1 h c1 l1).push (itObj c2 l2)
noncomputable def zH3 (h : Heap) (c1 c2 : Bool) (l1 l2 : Addr) : Heap := (zH2 h c1 c2 l1 l2).push { cls := .type "tuple", data := .seq #[.ref h.objs.size, .ref (zH1 h c1 l1).objs.size] }
noncomputable def zH4 (h : Heap) (c1 c2 : Bool) (l1 l2 : Addr) : Heap := (zH3 h c1 c2 l1 l2).push { cls := .type "tuple", data := .seq #[.none, .none] }
noncomputable def zH5 (h : Heap) (c1 c2 : Bool) (l1 l2 : Addr) : Heap := (zH4 h c1 c2 l1 l2).push { cls := .type "zip", data := .fields #[.none, .bool false, .bool false, .ref (zH2 h c1 c2 l1 l2).objs.size, .ref (zH3 h c1 c2 l1 l2).objs.size] }
theorem zip_meets (c1 c2 : Bool) (l1 l2 : Addr) (xs ys : Array Value) :
    Meets (Builtin.«zip.__new__» ⟨[.type "zip", .ref l1, .ref l2], []⟩) (fun _ R s => SqAt s.heap c1 l1 xs ∧ SqAt s.heap c2 l2 ys ∧
      R (.ok (.ret (.ref (zH4 s.heap c1 c2 l1 l2).objs.size))) { s with heap := zH5 s.heap c1 c2 l1 l2 }) :=
  .of_wp fun prog w A R s h => by
    obtain ⟨hp, g, d, tk, os⟩ := s; obtain ⟨hl1, hl2, h⟩ := h
    have hsub := sub_zip
    have hL1 : SqAt (Shared.heap ⟨hp, g, d, tk, os⟩) c1 l1 xs := hl1
    have hL2 : SqAt (Shared.heap ⟨hp.push (itObj c1 l1), g, d, tk, os⟩) c2 l2 ys := hl2.at fun o e => Heap.get?_push_of_some _ e
    wp_walk using pyIter_sq hL1, pyIter_sq hL2
    exact ⟨_, rfl, h⟩
theorem make_zip {prog : Program} {w : World} {c1 c2 : Bool} {l1 l2 : Addr} {xs ys : Array Value} {Q : Value → Shared → Prop} (hl1 : SqAt s.heap c1 l1 xs) (hl2 : SqAt s.heap c2 l2 ys)
    (h : ∀ h', IsZip h' (s.heap.objs.size + 4) (s.heap.objs.size + 2) (s.heap.objs.size + 3) .none → IsPair h' (s.heap.objs.size + 2) (.ref s.heap.objs.size) (.ref (s.heap.objs.size + 1)) →
      IsPair h' (s.heap.objs.size + 3) .none .none → SqIt h' c1 s.heap.objs.size l1 0 → SqIt h' c2 (s.heap.objs.size + 1) l2 0 →
      (∀ c o, s.heap.get? c = some o → h'.get? c = some o) → Q (.ref (s.heap.objs.size + 4)) { s with heap := h' }) :
    wpAny (model prog w) A (call (.type "zip") [.ref l1, .ref l2]) Q E s := by
  refine callType_new PySem.F.called_zip (by decide) (PySem.F.typeCall_zip_2 _ _) (PySem.F.newCall_zip_2 _ _) (fun obj => PySem.F.args_object_init_3 obj _ _) PySem.F.entry_zip_new
    (zip_meets c1 c2 l1 l2 xs ys) ⟨hl1, hl2, ?_⟩
  have z1 : (zH1 s.heap c1 l1).objs.size = s.heap.objs.size + 1 := Heap.size_push ..
  have z2 : (zH2 s.heap c1 c2 l1 l2).objs.size = s.heap.objs.size + 2 := by unfold zH2; rw [Heap.size_push, z1]
  have z3 : (zH3 s.heap c1 c2 l1 l2).objs.size = s.heap.objs.size + 3 := by unfold zH3; rw [Heap.size_push, z2]
  have z4 : (zH4 s.heap c1 c2 l1 l2).objs.size = s.heap.objs.size + 4 := by unfold zH4; rw [Heap.size_push, z3]
  have g5 : (zH5 s.heap c1 c2 l1 l2).get? (zH4 s.heap c1 c2 l1 l2).objs.size = some _ := Heap.get?_push_size _ rfl
  have g4 : (zH5 s.heap c1 c2 l1 l2).get? (zH3 s.heap c1 c2 l1 l2).objs.size = some _ := Heap.get?_push_of_some _ (Heap.get?_push_size _ rfl)
  have g3 : (zH5 s.heap c1 c2 l1 l2).get? (zH2 s.heap c1 c2 l1 l2).objs.size = some _ := Heap.get?_push_of_some _ (Heap.get?_push_of_some _ (Heap.get?_push_size _ rfl))
  have g2 : (zH5 s.heap c1 c2 l1 l2).get? (zH1 s.heap c1 l1).objs.size = some _ := Heap.get?_push_of_some _ (Heap.get?_push_of_some _ (Heap.get?_push_of_some _ (Heap.get?_push_size _ rfl)))
  have g1 : (zH5 s.heap c1 c2 l1 l2).get? s.heap.objs.size = some _ := Heap.get?_push_of_some _ (Heap.get?_push_of_some _ (Heap.get?_push_of_some _ (Heap.get?_push_of_some _ (Heap.get?_push_size _ rfl))))
  show _ ∧ _
  rw [z2, z3, z4] at g5
  rw [z1, z2] at g3
  rw [z3] at g4
  rw [z1] at g2
  rw [z4]
  exact ⟨⟨_, g5, rfl⟩, h _ g5 g3 g4 (itObj_at g1) (itObj_at g2) fun c o x =>
    Heap.get?_push_of_some _ (Heap.get?_push_of_some _ (Heap.get?_push_of_some _ (Heap.get?_push_of_some _ (Heap.get?_push_of_some _ x))))⟩
theorem sq_of {v : Value} {x : V} {l : List V} (e : pairO x = some l) (r : Rp g hm bad s.heap wk v x) : ∃ c a xs, v = .ref a ∧ SqAt s.heap c a xs ∧ RpAll g hm bad s.heap xs.toList l ∧ xs.size = l.length ∧ (wk = false → ¬ bad a) ∧ l.length ≤ szLine := by
  unfold pairO at e
  split at e
  · split at e
    case isFalse => cases e
    rename_i hsz; cases e
    cases r with | @list _ a o vs n _ hb ha hc hd hl => ?_
    have len := hl.length
    simp only [Array.length_toList] at len
    exact ⟨true, a, vs, rfl, ⟨_, ha, hc, _, hd⟩, hl, len, fun hw => hb.1.resolve_left (by rw [hw]; decide), hsz⟩
  · split at e
    case isFalse => cases e
    rename_i hsz; cases e
    cases r with | @tuple _ a o vs n _ hb ha hc hd hl => ?_
    have len := hl.length
    simp only [Array.length_toList] at len
    exact ⟨false, a, vs, rfl, ⟨_, ha, hc, _, hd⟩, hl, len, fun _ => hb, hsz⟩
  · cases e
theorem apartN (n a b : Nat) (h1 : a < n) (h2 : b < n) : ZipApart (n + 4) (n + 2) (n + 3) n (n + 1) a b := by
  constructor <;> exact fun h => by (have h' : (_ : Nat) = (_ : Nat) := h); omega
theorem iter_zip {elts : List Expr} {kk : Nat} {pos : Pos} {v1 v2 : Value} {x y : V} {la lb : List V} (hh : A.handled = none) (e1 : pairO x = some la) (e2 : pairO y = some lb) (r1 : Rp g hm bad s.heap wk v1 x) (r2 : Rp g hm bad s.heap wk v2 y) :
    wpAny (model g.prog g.w) A (call (.type "zip") [v1, v2]) (fun z s₁ => wpAny (model g.prog g.w) A (pyIter z) (fun it s' => Grown s s' ∧ FeedAt g hm A (.Tuple elts kk pos) wk bad s s' it (zipL la lb)) E s₁) E s := by
  obtain ⟨c1, a1, xs, rfl, h1, rr1, len1, nb1, sz1⟩ := sq_of e1 r1
  obtain ⟨c2, a2, ys, rfl, h2, rr2, len2, nb2, _⟩ := sq_of e2 r2
  refine make_zip h1 h2 fun h' hz hti hto hi1 hi2 hk => wpAny_pyIter_zip hz ⟨⟨hk, rfl, rfl⟩, ?_⟩
  have fresh : ∀ k, s.heap.get? (s.heap.objs.size + k) = none := fun k => by
    cases e : s.heap.get? (s.heap.objs.size + k) with
    | none => rfl
    | some o => exact absurd (Heap.lt_size e) (Nat.not_lt.mpr (Nat.le_add_right _ _))
  have lt1 : a1 < s.heap.objs.size := by obtain ⟨o, e⟩ := h1.live; exact Heap.lt_size e
  have lt2 : a2 < s.heap.objs.size := by obtain ⟨o, e⟩ := h2.live; exact Heap.lt_size e
  have D : ZipApart (s.heap.objs.size + 4) (s.heap.objs.size + 2) (s.heap.objs.size + 3) s.heap.objs.size (s.heap.objs.size + 1) a1 a2 := apartN _ _ _ lt1 lt2
  refine ⟨_, _, _, _, _, _, rfl, feed_zip hh (c1 := c1) (c2 := c2) D xs ys la lb len1 len2, ⟨hz, hti, ⟨_, _, hto⟩, hi1, hi2, h1.at fun o e => hk _ o e, h2.at fun o e => hk _ o e⟩, rr1.append rr2, fun b hb => ?_, fun b hb => ?_, ?_⟩
  · simp only [List.mem_cons, List.not_mem_nil, or_false] at hb
    rcases hb with rfl | rfl | rfl | rfl
    · exact fresh 4
    · exact fresh 3
    · exact fresh 0
    · exact fresh 1
  · simp only [List.mem_cons, List.not_mem_nil, or_false] at hb
    rcases hb with rfl | rfl | rfl | rfl | rfl | rfl | rfl
    · exact .inl (fresh 4)
    · exact .inl (fresh 2)
    · exact .inl (fresh 3)
    · exact .inl (fresh 0)
    · exact .inl (fresh 1)
    · exact .inr nb1
    · exact .inr nb2
  · rw [zipL_length]; omega
end
end Mine
end

noncomputable section
set_option maxRecDepth 100000
namespace Mine
open PySem PySem.Calls PyProof.Rows PySem.W

noncomputable def SimSrc (g : Gl) (hm wk : Bool) (fx : Fx) (T iter : Expr) (m : M (List V)) : Prop := ∀ oa σ s r σ₁, Inv g hm fx oa σ s → m σ = some (r, σ₁) → ∀ (Q : Value → Shared → Prop) (E : Value → Shared → Prop),
  (∀ l oa₁ s₀ it s₂, r = .ok l → Le oa₁ oa → Inv g hm fx oa₁ σ₁ s₀ → TrX s s₀ → Grown s₀ s₂ → FeedAt g hm fx.A T wk (badA fx oa₁) s₀ s₂ it l → Q it s₂) →
  (∀ x s', PostX g hm fx oa s r σ₁ x s' → E x s') →
  wpAny (model g.prog g.w) fx.A (eval iter fx.env) (fun x s₁ => wpAny (model g.prog g.w) fx.A (pyIter x) Q E s₁) E s

section
variable {g : Gl} {hm wk : Bool} {fx : Fx} {oa oa₁ : Nat → Option Addr} {σ σ' : St} {s s₁ : Shared} {Δ : Dl} {T : Expr}
theorem src_e {e : Expr} {a : M V} (hh : fx.A.handled = none) (h : SimV g hm wk fx (eval e fx.env) a) : SimSrc g hm wk fx T e (M.bind a fun v => M.ofOpt (seqV v)) := fun oa σ s r σ₁ I er Q E hQ hE => by
  refine bind_or er (fun c e₁ q => ?_) fun x σ₂ e₁ e₂ => ?_
  · refine wpAny_mono (h _ _ _ I _ _ e₁) (fun a s₁ p => ?_) fun v s₁ p => hE _ _ (p.cast q)
    exact p.no
  · refine wpAny_mono (h _ _ _ I _ _ e₁) (fun a s₁ p => ?_) fun v s₁ p => p.no
    refine p.ok fun oa₁ l₁ I₁ t₁ ra => ?_
    obtain ⟨l, hl, rfl, rfl⟩ := ofOpt_some e₂
    exact wpAny_mono (iter_e hh hl ra) (fun it s₂ p => hQ _ _ _ _ _ rfl l₁ I₁ t₁ p.1 p.2) fun _ _ z => z
theorem src_call {f : Str} {F : String} {fp pos : Pos} {a0 : Expr} {rest : List Expr} {b : M (List V)} {op : List V → Option (List V)} (G : Ground g Δ) (ok : FxOk g hm fx) (hx : glob fx.env.scope.names f = true) (hF : bltNames.lookup f = some (.type F)) (hp : plainE a0 = true) (hr : rest.all plainE = true)
    (ha : SimVs g hm fx (spliced (backTo pos (starEach (a0 :: rest) fx.env))) b)
    (hop : ∀ oa s vs xs y, RpAll g hm (badA fx oa) s.heap vs xs → op xs = some y → ∀ E, wpAny (model g.prog g.w) fx.A (call (.type F) vs) (fun z s₁ => wpAny (model g.prog g.w) fx.A (pyIter z) (fun it s' => Grown s s' ∧ FeedAt g hm fx.A T wk (badA fx oa) s s' it y) E s₁) E s) :
    SimSrc g hm wk fx T (.Call (.Name f fp) (a0 :: rest) [] pos) (M.bind b fun xs => M.ofOpt (op xs)) := fun oa σ s r σ₁ I er Q E hQ hE => by
  show wpAny _ _ (eval (.Name f fp) fx.env >>= fun F => callWith pos F [] (backTo pos (starEach (a0 :: rest) fx.env)) []) _ _ s
  refine wpAny_bind (name_blt G ok I hx hF ?_)
  have h1 := ha _ _ _ I
  have hpl : (backTo pos (starEach rest fx.env)).any (·.1) = false := by
    have := star_all (env := fx.env) hr
    generalize starEach rest fx.env = q at this
    induction q with
    | nil => rfl
    | cons p q ih =>
      obtain ⟨p1, p2⟩ := p
      simp only [List.all_cons, Bool.and_eq_true, Bool.not_eq_true'] at this
      show (p1 || (backTo pos q).any (·.1)) = false
      rw [this.1, ih this.2]; rfl
  rw [star_plain hp] at h1 ⊢
  refine PySem.callWith_type (by show (false || (backTo pos (starEach rest fx.env)).any (·.1)) = false; rw [hpl]; rfl) (?_ : wpAny _ _ (evalArgs (.type F) true ((false, eval a0 fx.env) :: backTo pos (starEach rest fx.env)) []) _ _ _)
  have h2 := SimAt.args (F := .type F) h1
  refine bind_or er (fun c e₁ q => ?_) fun xs σ₂ e₁ e₂ => ?_
  · refine wpAny_mono (h2 _ _ e₁) (fun a s₁ p => ?_) fun v s₁ p => hE _ _ (p.cast q)
    exact p.no
  · refine wpAny_mono (h2 _ _ e₁) (fun a s₁ p => ?_) fun v s₁ p => p.no
    refine p.ok fun oa₁ l₁ I₁ t₁ rr => ?_
    obtain ⟨l, hl, rfl, rfl⟩ := ofOpt_some e₂
    rw [rr.2]
    refine wpAny_mono (hop oa₁ s₁ a.pos xs l rr.1 hl E) (fun z s₂ p => ?_) fun _ _ z => z
    exact wpAny_mono p (fun it s₂ p => hQ _ _ _ _ _ rfl l₁ I₁ t₁ p.1 p.2) fun _ _ z => z
noncomputable def rangeOp : List V → Option (List V)
  | [.int b] => rangeO 0 b
  | [.int a, .int b] => rangeO a b
  | _ => none
theorem range_eq (xs : List V) : (match xs with
    | [.int b] => M.ofOpt (rangeO 0 b)
    | [.int a, .int b] => M.ofOpt (rangeO a b)
    | _ => M.stuck) = M.ofOpt (rangeOp xs) := by
  unfold rangeOp
  split <;> first | rfl | skip
theorem src_range {fp pos : Pos} {a0 : Expr} {rest : List Expr} {b : M (List V)} (G : Ground g Δ) (ok : FxOk g hm fx) (hh : fx.A.handled = none) (hx : glob fx.env.scope.names "range" = true) (hp : plainE a0 = true) (hr : rest.all plainE = true)
    (ha : SimVs g hm fx (spliced (backTo pos (starEach (a0 :: rest) fx.env))) b) :
    SimSrc g hm wk fx T (.Call (.Name "range" fp) (a0 :: rest) [] pos) (M.bind b fun xs => M.ofOpt (rangeOp xs)) := by
  refine src_call (F := "range") G ok hx (by decide) hp hr ha fun oa s vs xs y rs e E => ?_
  refine rs.ind (D := fun vs xs => rangeOp xs = some y → wpAny (model g.prog g.w) fx.A (call (.type "range") vs) (fun z s₁ => wpAny (model g.prog g.w) fx.A (pyIter z) (fun it s' => Grown s s' ∧ FeedAt g hm fx.A T wk (badA fx oa) s s' it y) E s₁) E s) (fun e => nomatch e) (fun v vs x l r rs _ e => ?_) e
  cases x with
  | int a => cases rs with
    | nil => exact r.int_elim fun t => call_range_1 (iter_range hh e (IsRange.new ..) (Grown.push s _ _))
    | @cons v' vs x' l r' rs => cases x' with
      | int b => cases rs with
        | nil => exact r.int_elim fun t => r'.int_elim fun t' => call_range_2 (iter_range hh e (IsRange.new ..) (Grown.push s _ _))
        | cons _ _ => cases e
      | _ => cases rs <;> cases e
  | _ => cases rs <;> cases e
theorem src_zip {fp pos : Pos} {a0 : Expr} {rest : List Expr} {b : M (List V)} {elts : List Expr} {kk : Nat} {tp : Pos} (G : Ground g Δ) (ok : FxOk g hm fx) (hh : fx.A.handled = none) (hx : glob fx.env.scope.names "zip" = true) (hp : plainE a0 = true) (hr : rest.all plainE = true)
    (ha : SimVs g hm fx (spliced (backTo pos (starEach (a0 :: rest) fx.env))) b) :
    SimSrc g hm false fx (.Tuple elts kk tp) (.Call (.Name "zip" fp) (a0 :: rest) [] pos) (M.bind b fun xs => M.ofOpt (zipO xs)) := by
  refine src_call (F := "zip") G ok hx (by decide) hp hr ha fun oa s vs xs y rs e E => ?_
  unfold zipO at e
  split at e
  · cases rs with | cons r rs => ?_
    cases rs with | cons r' rs => ?_
    cases rs
    obtain ⟨la, h1, e⟩ := Option.bind_eq_some_iff.mp e
    obtain ⟨lb, h2, rfl⟩ := Option.map_eq_some_iff.mp e
    exact iter_zip hh h1 h2 r r'
  · cases e
theorem SimSrc.toWk {iter : Expr} {m : M (List V)} (h : SimSrc g hm false fx T iter m) : SimSrc g hm wk fx T iter m := fun oa σ s r σ₁ I e Q E hQ hE =>
  h oa σ s r σ₁ I e Q E (fun l oa₁ s₀ it s₂ a b c d f k => hQ l oa₁ s₀ it s₂ a b c d f (by
    obtain ⟨J, fp, wr, vals, l0, St, h1, h2, h3, h4, h5, h6, h7⟩ := k
    exact ⟨J, fp, wr, vals, l0, St, h1, h2, h3, h4, h5, fun b hb => (h6 b hb).imp id fun q _ => q rfl, h7⟩)) hE
end
end Mine
end

noncomputable section
set_option maxRecDepth 100000
namespace Mine
open PySem PySem.Calls PyProof.Rows PySem.W

theorem putName_cls (name : Str) (h : Int) (k v : Value) (o : Obj) : (Obj.putName name h k v o).cls = o.cls := by
  rw [Obj.putName_eq]
  obtain ⟨c, d, dt, sl⟩ := o
  cases dt with
  | dict es n =>
    show (match es.findIdx? (fun e : DictEntry => e.key.isStr name) with
      | some i => (⟨c, d, .dict (es.modify i fun e => { e with val := v }) n, sl⟩ : Obj)
      | none => ⟨c, d, .dict (es.push ⟨h, k, v⟩) (n + 1), sl⟩).cls = c
    split <;> rfl
  | _ => rfl
theorem update_get {h : Heap} {a : Addr} {o o' : Obj} {f : Obj → Obj} (e : h.get? a = some o) (e' : (h.update a f).get? a = some o') : o' = f o := by
  obtain ⟨e1, _⟩ := Heap.get?_some_iff.mp e
  obtain ⟨e2, _⟩ := Heap.get?_some_iff.mp e'
  cases h
  simp only [Heap.update, Array.getElem?_modify, if_true] at e2
  simp only at e1
  rw [e1] at e2
  simpa using e2.symm
theorem wp_nsSetC {M : Model} {Γ : Ctx} {E : Value → Pos → Shared → Prop} {p : Pos} {s : Shared} {a : Addr} {m} (hn : s.heap.Ns a m) (name : Str) (v : Value) (Q : Unit → Pos → Shared → Prop)
    (hQ : ∀ h', h'.Ns a (fun x => if x = name then some v else m x) → Heap.SameBut a s.heap h' → (∀ o, s.heap.get? a = some o → ∃ o', h'.get? a = some o' ∧ o'.cls = o.cls) →
      Q () p { s with heap := h', toks := s.toks + 1 }) : Sem.wp M Γ (nsSet a name v) Q E p s := by
  have h1 := Sem.wp_nsSet M Γ E p s hn name v (fun _ _ s' => s'.heap.Ns a (fun x => if x = name then some v else m x)) fun h' hn' _ => hn'
  obtain ⟨o, es, ep, ho, hd, hk, hm⟩ := hn
  simp only [nsSet, strHash, Sem.wp_bind', Sem.wp_cmd_ask, Sem.wp_pure', Sem.wp_cmd_mkText] at h1 ⊢
  rw [Sem.wp_loadPart_of M Γ E p { s with toks := s.toks + 1 } (o := o) _ ho] at h1 ⊢
  have hany : es.any (·.refKey) = false := by
    rw [Array.any_eq_false']; intro e he; obtain ⟨n, t, h⟩ := hk e he; simp [DictEntry.refKey, h]
  simp only [hd, aRefKeyMayBeTheName_eq, aRefKeyMayBeTheNameByArray, hany, Bool.and_false, Bool.false_eq_true, if_false, Sem.wp_cmd_updatePart] at h1 ⊢
  obtain ⟨h2, h3⟩ := h1
  refine ⟨h2, hQ _ h3 (Heap.SameBut.update ..) fun o' ho' => ?_⟩
  rw [ho] at ho'
  cases ho'
  obtain ⟨o', _, _, he, hd', _⟩ := h3
  exact ⟨o', he, by rw [update_get ho he]; exact putName_cls ..⟩
theorem wpAny_nsSetC {M : Model} {A : Around} {E : Value → Shared → Prop} {s : Shared} {a : Addr} {m} {name : Str} {v : Value} {Q : Unit → Shared → Prop} (hn : s.heap.Ns a m)
    (h : ∀ h', h'.Ns a (fun x => if x = name then some v else m x) → Heap.SameBut a s.heap h' → (∀ o, s.heap.get? a = some o → ∃ o', h'.get? a = some o' ∧ o'.cls = o.cls) → Q () { s with heap := h', toks := s.toks + 1 }) :
    wpAny M A (nsSet a name v) Q E s := fun Γ p _ => wp_nsSetC hn name v _ h

theorem wpAny_cellSetC {M : Model} {A : Around} {E : Value → Shared → Prop} {s : Shared} {c : Addr} {v₀ v : Option Value} {Q : Unit → Shared → Prop} (hc : s.heap.IsCell c v₀)
    (h : ∀ h', h'.IsCell c v → Heap.SameBut c s.heap h' → (∀ o, s.heap.get? c = some o → ∃ o', h'.get? c = some o' ∧ o'.cls = o.cls) → Q () { s with heap := h' }) : wpAny M A (cellSet c v) Q E s := by
  obtain ⟨o, ho, hd⟩ := hc
  unfold cellSet
  refine wpAny_bind (wpAny_load ho ?_)
  rw [hd]
  have e := Heap.get?_update_self (fun o : Obj => { o with data := .cell v }) ho rfl
  exact wpAny_update ho (h _ ⟨{ o with data := .cell v }, e, rfl⟩ (Heap.SameBut.update ..) fun o' ho' => ⟨_, e, by rw [ho] at ho'; cases ho'; rfl⟩)
noncomputable def PlSet (h : Heap) (p : Pl) (v : Option Value) (h' : Heap) : Prop := match p with
  | .ns a x => (∃ m, h.Ns a m ∧ h'.Ns a (fun y => if y = x then v else m y)) ∧ Heap.SameBut a h h' ∧ (∀ o, h.get? a = some o → ∃ o', h'.get? a = some o' ∧ o'.cls = o.cls)
  | .cell c => h'.IsCell c v ∧ Heap.SameBut c h h' ∧ (∀ o, h.get? c = some o → ∃ o', h'.get? c = some o' ∧ o'.cls = o.cls)
  | .off => False

section
variable {g : Gl} {hm wk : Bool} {fx : Fx} {oa oa₁ : Nat → Option Addr} {σ σ' : St} {s s₁ : Shared} {h h' : Heap} {Δ : Dl}
theorem store_ok {x : Str} {k : Nat} {v : Value} {Q : Unit → Shared → Prop} {E : Value → Shared → Prop} (ok : FxOk g hm fx) (hx : fx.ρ.lookup x = some k) (hnf : fx.env.kindOf x ≠ some .free) (I : Inv g hm fx oa σ s)
    (h : ∀ h' tk, PlSet s.heap (fx.pl k) (some v) h' → Q () { s with heap := h', toks := tk }) : wpAny (model g.prog g.w) fx.A (storeName fx.env x v) Q E s := by
  obtain ⟨u, pr, _⟩ := I.slot k
  rcases ok.vis x k hx with ⟨hl, hp⟩ | ⟨hl, c, hc, hp⟩
  · rw [hp] at pr h
    obtain ⟨m, hns, hv⟩ := pr
    rw [storeName_local hl (by rw [ok.kind]; rfl)]
    exact wpAny_nsSetC hns fun h' hn' hs' hc' => h h' _ ⟨⟨m, hns, hn'⟩, hs', hc'⟩
  · rw [hp] at pr h
    rcases hl with hl | hl
    · unfold storeName
      simp only [hl, ok.kind]
      exact wpAny_bind (wpAny_cellOf hc (wpAny_cellSetC pr fun h' hc' hs' hk' => h h' s.toks ⟨hc', hs', hk'⟩))
    · exact absurd hl hnf

theorem PlSet.addr {p : Pl} {v : Option Value} (ps : PlSet h p v h') : ∃ a, p.addr = some a ∧ Heap.SameBut a h h' ∧ Live h' a ∧ (∀ o, h.get? a = some o → ∃ o', h'.get? a = some o' ∧ o'.cls = o.cls) ∧ ∀ o, h'.get? a = some o → ∀ vs, o.data ≠ .fields vs := by
  cases p with
  | ns a x =>
    obtain ⟨⟨m, _, hn⟩, hs, hc⟩ := ps
    obtain ⟨o, es, ep, ho, hd, _⟩ := hn
    exact ⟨a, rfl, hs, ⟨o, ho⟩, hc, fun o' e' vs q => by rw [ho] at e'; cases e'; rw [hd] at q; cases q⟩
  | cell c =>
    obtain ⟨⟨o, ho, hd⟩, hs, hc⟩ := ps
    exact ⟨c, rfl, hs, ⟨o, ho⟩, hc, fun o' e' vs q => by rw [ho] at e'; cases e'; rw [hd] at q; cases q⟩
  | off => exact ps.elim
theorem PlSet.self {p : Pl} {v : Option Value} (ps : PlSet h p v h') : PlRead h' p v := by
  cases p with
  | ns a x =>
    obtain ⟨⟨m, _, hn⟩, hs, hc⟩ := ps
    exact ⟨_, hn, by simp⟩
  | cell c => exact ps.1
  | off => exact ps.elim
theorem PlSet.other {p q : Pl} {v u : Option Value} (ps : PlSet h p v h') (hne : q ≠ p) (ap : ∀ a x c, (p = .ns a x ∧ q = .cell c) ∨ (q = .ns a x ∧ p = .cell c) → a ≠ c) (r : PlRead h q u) : PlRead h' q u := by
  cases p with
  | ns a x =>
    obtain ⟨⟨m, hm, hn⟩, hs, hc⟩ := ps
    cases q with
    | ns b y =>
      obtain ⟨m', hm', hu⟩ := r
      by_cases e : b = a
      · subst e
        have hxy : y ≠ x := fun q => hne (by rw [q])
        refine ⟨_, hn, ?_⟩
        rw [if_neg hxy]
        obtain ⟨o, es, ep, ho, hd, _, hf⟩ := hm
        obtain ⟨o', es', ep', ho', hd', _, hf'⟩ := hm'
        rw [ho] at ho'; cases ho'
        rw [hd] at hd'; cases hd'
        rw [← hf, hf']; exact hu
      · exact ⟨m', hm'.sameBut hs e, hu⟩
    | cell c =>
      obtain ⟨o, ho, hd⟩ := r
      exact ⟨o, hs.extBut c o (Ne.symm (ap a x c (.inl ⟨rfl, rfl⟩))) ho, hd⟩
    | off => exact r
  | cell c =>
    obtain ⟨hc, hs, hk⟩ := ps
    cases q with
    | ns b y =>
      obtain ⟨m', hm', hu⟩ := r
      exact ⟨m', hm'.sameBut hs (ap b y c (.inr ⟨rfl, rfl⟩)), hu⟩
    | cell d =>
      obtain ⟨o, ho, hd⟩ := r
      exact ⟨o, hs.extBut d o (fun q => hne (by rw [q])) ho, hd⟩
    | off => exact r
  | off => exact ps.elim

structure TrS (fx : Fx) (oa : Nat → Option Addr) (s : Shared) (oa' : Nat → Option Addr) (s' : Shared) : Prop where
  keep : KeepBut (ownA fx.pl oa) s.heap s'.heap
  live : ∀ b, Live s.heap b → Live s'.heap b
  grow : ∀ a, Live s.heap a → ownA fx.pl oa' a → ownA fx.pl oa a
theorem TrS.refl (fx : Fx) (oa : Nat → Option Addr) (s : Shared) : TrS fx oa s oa s := ⟨fun _ _ e _ => .of_eq e, fun _ l => l, fun _ _ q => q⟩
theorem TrS.trans {oa₂ oa₃ : Nat → Option Addr} {s₂ s₃ : Shared} (x : TrS fx oa s oa₂ s₂) (y : TrS fx oa₂ s₂ oa₃ s₃) : TrS fx oa s oa₃ s₃ where
  keep := fun b o e n => (x.keep b o e n).trans fun o' e' => y.keep b o' e' fun q => n (x.grow b ⟨o, e⟩ q)
  live := fun b l => y.live b (x.live b l)
  grow := fun a l q => x.grow a l (y.grow a (x.live a l) q)
theorem Le.own {oa' : Nat → Option Addr} (l : Le oa' oa) {a : Addr} (q : ownA fx.pl oa' a) : ownA fx.pl oa a := q.imp id fun ⟨k, e⟩ => ⟨k, l k a e⟩
theorem TrX.toS {oa' : Nat → Option Addr} {s' : Shared} (t : TrX s s') (l : Le oa' oa) : TrS fx oa s oa' s' := ⟨t.keep.but, t.live, fun _ _ q => l.own q⟩

theorem Rp.move {bad bad' : Addr → Prop} {v : Value} {x : V} (r : Rp g hm bad h false v x) (k : KeepBut bad h h') (q : ∀ a, Live h a → bad' a → bad a) : Rp g hm bad' h' false v x := by
  have r1 : Rp g hm (fun a => bad a ∨ ¬ Live h a) h false v x := r.anti fun a o e b => b.elim id fun n => absurd ⟨o, e⟩ n
  have r2 : Rp g hm (fun a => bad a ∨ ¬ Live h a) h' false v x := r1.keep (fun b o e n => k b o e fun q => n (.inl q)) (by intro q; cases q)
  exact r2.anti fun a o e b => (Classical.em (Live h a)).elim (fun l => .inl (q a l b)) fun n => .inr n
theorem RpAll.move : ∀ {bad bad' : Addr → Prop} {v : List Value} {x : List V}, RpAll g hm bad h v x → KeepBut bad h h' → (∀ a, Live h a → bad' a → bad a) → RpAll g hm bad' h' v x
  | _, _, _, _, .nil, _, _ => .nil
  | _, _, _, _, .cons r rs, k, q => .cons (r.move k q) (RpAll.move rs k q)
theorem TrS.bad {oa' : Nat → Option Addr} {s' : Shared} (t : TrS fx oa s oa' s') {a : Addr} (l : Live s.heap a) (b : badA fx oa' a) : badA fx oa a := b.imp id (t.grow a l)
theorem Rp.onS {oa' : Nat → Option Addr} {s' : Shared} {v : Value} {x : V} (r : Rp g hm (badA fx oa) s.heap false v x) (t : TrS fx oa s oa' s') : Rp g hm (badA fx oa') s'.heap false v x :=
  r.move (fun b o e n => t.keep b o e fun q => n (.inr q)) fun _ l b => t.bad l b
theorem RpAll.onS {oa' : Nat → Option Addr} {s' : Shared} {v : List Value} {x : List V} (r : RpAll g hm (badA fx oa) s.heap v x) (t : TrS fx oa s oa' s') : RpAll g hm (badA fx oa') s'.heap v x :=
  r.move (fun b o e n => t.keep b o e fun q => n (.inr q)) fun _ l b => t.bad l b

theorem Rp.keepTop {bad : Addr → Prop} {a : Addr} {x : V} (r : Rp g hm bad h true (.ref a) x) (k : KeepBut bad h h') (t : ∀ o, h.get? a = some o → h'.get? a = some o) : Rp g hm bad h' true (.ref a) x := by
  cases r with
  | list hb ha hc hd hl => exact .list hb (t _ ha) hc hd (hl.keep k)
  | tuple hb ha hc hd hl => exact .tuple hb (t _ ha) hc hd (hl.keep k)
  | dict0 hb ha hc hd => exact .dict0 hb (t _ ha) hc hd
  | exc hh hb ha hc hx hy => exact .exc hh hb (t _ ha) hc hx hy
theorem SlotOk.beside {bad : Addr → Prop} {oak : Option Addr} {v : Option Value} {sl : Slot} {a : Addr} (r : SlotOk g hm bad h oak v sl) (k : ∀ b o, b ≠ a → h.get? b = some o → h'.get? b = some o) (ha : bad a) (n : oak ≠ some a) : SlotOk g hm bad h' oak v sl := by
  have kb : KeepBut bad h h' := fun b o e nb => .of_eq (k b o (fun q => nb (q ▸ ha)) e)
  cases r with
  | unset e => exact .unset e
  | v e x => exact .v e (x.keep kb (by intro q; cases q))
  | ownL e x => exact .ownL e (x.keepTop kb fun o eo => k _ o (fun q => n (q ▸ e)) eo)
noncomputable def upd (oa : Nat → Option Addr) (k : Nat) (o : Option Addr) : Nat → Option Addr := fun j => if j = k then o else oa j
theorem Inv.put {k tk : Nat} {v : Option Value} {sl : Slot} {oak : Option Addr} {s₀ : Shared} (ok : FxOk g hm fx) (I : Inv g hm { fx with Mo := fun b => fx.Mo b ∨ oak = some b } oa σ s) (ps : PlSet s.heap (fx.pl k) v h')
    (so : SlotOk g hm (badA fx (upd oa k oak)) h' oak v sl) (hnew : ∀ a, oak = some a → g.h0.get? a = none ∧ s₀.heap.get? a = none) (t : TrX s₀ s) (hMo : ∀ a, fx.Mo a → Live s₀.heap a) :
    Inv g hm fx (upd oa k oak) (setSlot k sl σ) { s with heap := h', toks := tk } ∧ TrS fx oa s₀ (upd oa k oak) { s with heap := h', toks := tk } := by
  obtain ⟨a, ha, hs, hl, hcls, hdat⟩ := ps.addr
  have hon : fx.pl k ≠ .off := fun q => by rw [q] at ha; cases ha
  have hown : ownA fx.pl oa a := .inl ⟨k, ha⟩
  have kp : ∀ b o, b ≠ a → s.heap.get? b = some o → h'.get? b = some o := fun b o n e => hs.extBut b o n e
  have live : ∀ b, Live s.heap b → Live h' b := fun b ⟨o, e⟩ => (Classical.em (b = a)).elim (fun q => q ▸ hl) fun n => ⟨o, kp b o n e⟩
  have hbad : ∀ b, badA fx (upd oa k oak) b → badA { fx with Mo := fun b => fx.Mo b ∨ oak = some b } oa b := fun b q => by
    rcases q with q | q | ⟨j, q⟩
    · exact .inl (.inl q)
    · exact .inr (.inl q)
    · unfold upd at q
      split at q
      · exact .inl (.inr q)
      · exact .inr (.inr ⟨j, q⟩)
  have hna : ∀ b, oak = some b → ¬ ownA fx.pl oa b := fun b e q => (I.new b q).2.2 (.inr e)
  have hoff : ∀ j b, oa j = some b → b ≠ a := fun j b e q => I.off j b e ⟨k, q ▸ ha⟩
  refine ⟨⟨?_, I.os, I.gens, ?_, ?_, fun j => ?_, fun b q => ?_, fun i j b e1 e2 => ?_, fun j b e q => ?_, fun j e => by simpa [setSlot] using I.len j e, by simpa [setSlot] using I.gl, fun b q => live b (I.mo b (.inl q))⟩, ⟨fun b o e n => ?_, fun b l => live b (t.live b l), fun b l q => ?_⟩⟩
  · intro b o e
    exact kp b o (fun q => by subst q; rw [(I.new b hown).2.1] at e; cases e) (I.stays b o e)
  · have f := I.frames
    have gen : ∀ l : List Env, s.heap.FunFrames g.h0 l → h'.FunFrames g.h0 l := by
      intro l
      induction l with
      | nil => exact fun _ => trivial
      | cons env rest ih =>
        rintro ⟨hk, ⟨L, o, hf, hn, ho, hd⟩, hr⟩
        refine ⟨hk, ?_, ih hr⟩
        by_cases q : L = a
        · obtain ⟨o', e'⟩ := hl
          exact ⟨L, o', hf, hn, q ▸ e', hdat o' e'⟩
        · exact ⟨L, o, hf, hn, kp L o q ho, hd⟩
    exact gen _ f
  · intro b hb
    obtain ⟨o, e, c⟩ := I.fcls b hb
    by_cases q : b = a
    · subst q
      obtain ⟨o', e', c'⟩ := hcls o e
      exact ⟨o', e', c'.trans c⟩
    · exact ⟨o, kp b o q e, c⟩
  · by_cases e : j = k
    · subst e
      refine ⟨v, ps.self, ?_⟩
      rw [getSlot_set_self (I.len _ hon)]
      have : upd oa j oak j = oak := by simp [upd]
      rw [this]; exact so
    · obtain ⟨u, pr, sj⟩ := I.slot j
      refine ⟨u, ?_, ?_⟩
      · by_cases ho : fx.pl j = .off
        · rw [show fx.pl j = Pl.off from ho]
          have pr' : PlRead s.heap (fx.pl j) u := pr
          rw [ho] at pr'; exact pr'
        · refine ps.other (fun q => e (ok.inj j k q ho)) (fun a' x c q => ?_) pr
          rcases q with ⟨q1, q2⟩ | ⟨q1, q2⟩
          · exact ok.apart k j a' x c q1 q2
          · exact ok.apart j k a' x c q1 q2
      · rw [getSlot_set_ne e]
        have : upd oa k oak j = oa j := by simp [upd, e]
        rw [this]
        exact (sj.beside kp (.inr hown) (fun q => hoff j a q rfl)).anti fun b o _ q => hbad b q
  · rcases q with q | ⟨j, q⟩
    · obtain ⟨l, n, m⟩ := I.new b (.inl q)
      exact ⟨live b l, n, fun z => m (.inl z)⟩
    · unfold upd at q
      split at q
      · refine ⟨live b (I.mo b (.inr q)), (hnew b q).1, fun z => ?_⟩
        obtain ⟨o, eo⟩ := hMo b z
        rw [(hnew b q).2] at eo; cases eo
      · obtain ⟨l, n, m⟩ := I.new b (.inr ⟨j, q⟩)
        exact ⟨live b l, n, fun z => m (.inl z)⟩
  · unfold upd at e1 e2
    split at e1 <;> split at e2
    · rename_i h1 h2; rw [h1, h2]
    · exact absurd (.inr ⟨j, e2⟩) (hna b e1)
    · exact absurd (.inr ⟨i, e1⟩) (hna b e2)
    · exact I.inj i j b e1 e2
  · unfold upd at e
    split at e
    · exact hna b e (.inl q)
    · exact I.off j b e q
  · exact (t.keep b o e).trans fun o' e' => .of_eq (kp b o' (fun q => n (q ▸ hown)) e')
  · rcases q with q | ⟨j, q⟩
    · exact .inl q
    · unfold upd at q
      split at q
      · obtain ⟨o, eo⟩ := l; rw [(hnew b q).2] at eo; cases eo
      · exact .inr ⟨j, q⟩
theorem Inv.more {X : Addr → Prop} {s₀ : Shared} (I : Inv g hm fx oa σ s₀) (gr : Grown s₀ s) (hX : ∀ b, X b → s₀.heap.get? b = none) (hl : ∀ b, X b → Live s.heap b) : Inv g hm { fx with Mo := fun b => fx.Mo b ∨ X b } oa σ s where
  stays := (I.grown gr).stays
  os := (I.grown gr).os
  gens := (I.grown gr).gens
  frames := (I.grown gr).frames
  fcls := (I.grown gr).fcls
  slot := fun k => by
    obtain ⟨v, r, so⟩ := I.slot k
    refine ⟨v, r.keepX gr.trX.keep, (so.anti (bad' := badA { fx with Mo := fun b => fx.Mo b ∨ X b } oa) fun a o e b => ?_).keepX gr.trX.keep⟩
    rcases b with (b | b) | b
    · exact .inl b
    · rw [hX a b] at e; cases e
    · exact .inr b
  new := fun a q => by
    obtain ⟨l, n, m⟩ := I.new a q
    refine ⟨gr.trX.live a l, n, fun z => z.elim m fun z => ?_⟩
    obtain ⟨o, e⟩ := l; rw [hX a z] at e; cases e
  inj := I.inj
  off := I.off
  len := I.len
  gl := I.gl
  mo := fun a q => q.elim (fun z => gr.trX.live a (I.mo a z)) (hl a)
theorem Inv.less {X : Addr → Prop} (I : Inv g hm { fx with Mo := fun b => fx.Mo b ∨ X b } oa σ s) : Inv g hm fx oa σ s where
  stays := I.stays
  os := I.os
  gens := I.gens
  frames := I.frames
  fcls := I.fcls
  slot := fun k => let ⟨v, r, so⟩ := I.slot k; ⟨v, r, so.anti fun a o e b => b.imp .inl id⟩
  new := fun a q => let ⟨l, n, m⟩ := I.new a q; ⟨l, n, fun z => m (.inl z)⟩
  inj := I.inj
  off := I.off
  len := I.len
  gl := I.gl
  mo := fun a q => I.mo a (.inl q)
end
end Mine
end

noncomputable section
set_option maxRecDepth 100000
namespace Mine
open PySem PySem.Calls PyProof.Rows PySem.W

noncomputable abbrev RelS (α β : Type) := (Nat → Option Addr) → Heap → α → β → Prop
noncomputable def PostS (g : Gl) (hm : Bool) (fx : Fx) {α β : Type} (R : RelS α β) (oa : Nat → Option Addr) (s : Shared) (r : Except Nat β) (σ' : St) (a : α) (s' : Shared) : Prop :=
  ∃ b oa', r = .ok b ∧ Inv g hm fx oa' σ' s' ∧ TrS fx oa s oa' s' ∧ R oa' s'.heap a b
noncomputable def PostXS (g : Gl) (hm : Bool) (fx : Fx) {β : Type} (oa : Nat → Option Addr) (s : Shared) (r : Except Nat β) (σ' : St) (x : Value) (s' : Shared) : Prop :=
  ∃ c e oa', r = .error c ∧ hm = false ∧ x = .ref e ∧ Inv g hm fx oa' σ' s' ∧ TrS fx oa s oa' s' ∧ ExcAt s'.heap s.heap e (.ref (g.cls c)) .none
noncomputable def SimSt (g : Gl) (hm : Bool) (fx : Fx) {α β : Type} (R : RelS α β) (oa : Nat → Option Addr) (σ : St) (s : Shared) (t : Sem α) (m : M β) : Prop :=
  ∀ r σ', m σ = some (r, σ') → wpAny (model g.prog g.w) fx.A t (PostS g hm fx R oa s r σ') (PostXS g hm fx oa s r σ') s

section
variable {g : Gl} {hm wk : Bool} {fx : Fx} {oa oa₁ : Nat → Option Addr} {σ σ' : St} {s s₁ s' : Shared} {h h' : Heap} {Δ : Dl} {α β γ δ : Type}

theorem PostS.lift {R : RelS α β} {r : Except Nat β} {a : α} (x : PostS g hm fx R oa₁ s₁ r σ' a s') (t : TrS fx oa s oa₁ s₁) : PostS g hm fx R oa s r σ' a s' := by
  obtain ⟨b, oa', e, I, t', q⟩ := x
  exact ⟨b, oa', e, I, t.trans t', q⟩
theorem PostXS.lift {r : Except Nat β} {x : Value} (p : PostXS g hm fx oa₁ s₁ r σ' x s') (t : TrS fx oa s oa₁ s₁) : PostXS g hm fx oa s r σ' x s' := by
  obtain ⟨c, e, oa', er, hh, ex, I, t', f⟩ := p
  exact ⟨c, e, oa', er, hh, ex, I, t.trans t', f.le t.live⟩
theorem PostXS.no {C : Prop} {y : β} {x : Value} (p : PostXS g hm fx oa s (.ok y : Except Nat β) σ' x s') : C := by
  obtain ⟨_, _, _, q, _⟩ := p; cases q
theorem PostS.no {C : Prop} {R : RelS α β} {c : Nat} {a : α} (p : PostS g hm fx R oa s (.error c) σ' a s') : C := by
  obtain ⟨_, _, q, _⟩ := p; cases q
theorem PostS.ok {C : Prop} {R : RelS α β} {b : β} {a : α} (p : PostS g hm fx R oa s (.ok b) σ' a s') (k : ∀ oa', Inv g hm fx oa' σ' s' → TrS fx oa s oa' s' → R oa' s'.heap a b → C) : C := by
  obtain ⟨_, oa', q, I, t, r⟩ := p; cases q; exact k oa' I t r
theorem PostXS.err {C : Prop} {c : Nat} {x : Value} (p : PostXS g hm fx oa s (.error c : Except Nat β) σ' x s') (k : ∀ e oa', hm = false → x = .ref e → Inv g hm fx oa' σ' s' → TrS fx oa s oa' s' → ExcAt s'.heap s.heap e (.ref (g.cls c)) .none → C) : C := by
  obtain ⟨_, e, oa', q, h1, h2, I, t, f⟩ := p; cases q; exact k e oa' h1 h2 I t f
theorem PostXS.cast {c : Nat} {x : Value} {r : Except Nat γ} (p : PostXS g hm fx oa s (.error c : Except Nat β) σ' x s') (e : r = .error c) : PostXS g hm fx oa s r σ' x s' := by
  obtain ⟨c', e', oa', er, q⟩ := p
  cases er
  exact ⟨c, e', oa', e, q⟩
theorem PostX.toS {r : Except Nat β} {x : Value} (p : PostX g hm fx oa s r σ' x s') : PostXS g hm fx oa s r σ' x s' := by
  obtain ⟨c, e, oa', er, hh, ex, l, I, t, f⟩ := p
  exact ⟨c, e, oa', er, hh, ex, I, t.toS l, f⟩
theorem SimSt.bind {R : RelS α β} {R' : RelS γ δ} {t : Sem α} {m : M β} {k : α → Sem γ} {f : β → M δ} (x : SimSt g hm fx R oa σ s t m)
    (y : ∀ a b oa₁ σ₁ s₁, Inv g hm fx oa₁ σ₁ s₁ → TrS fx oa s oa₁ s₁ → R oa₁ s₁.heap a b → SimSt g hm fx R' oa₁ σ₁ s₁ (k a) (f b)) : SimSt g hm fx R' oa σ s (t >>= k) (M.bind m f) := by
  intro r σ' h
  refine bind_elim h (fun c e => ?_) fun b σ₁ e e' => ?_
  · refine wpAny_bind (wpAny_mono (x _ _ e) (fun a s₁ p => ?_) fun v s₁ p => p.cast rfl)
    exact p.no
  · refine wpAny_bind (wpAny_mono (x _ _ e) (fun a s₁ p => ?_) fun v s₁ p => ?_)
    · refine p.ok fun oa₁ I t' rr => ?_
      exact wpAny_mono (y a b oa₁ σ₁ s₁ I t' rr _ _ e') (fun _ _ z => z.lift t') fun _ _ z => z.lift t'
    · exact p.no
theorem SimSt.pure {R : RelS α β} {a : α} {b : β} (I : Inv g hm fx oa σ s) (h : R oa s.heap a b) : SimSt g hm fx R oa σ s (pure a) (M.pure b) := by
  intro r σ' e
  obtain ⟨rfl, rfl⟩ := pure_some e
  exact wpAny_pure ⟨b, oa, rfl, I, .refl _ _ _, h⟩
theorem SimAt.toS {R : Rel α β} {t : Sem α} {m : M β} (x : SimAt g hm fx R oa σ s t m) : SimSt g hm fx (fun oa h a b => R (badA fx oa) h a b) oa σ s t m := fun r σ' e =>
  wpAny_mono (x r σ' e) (fun _ _ ⟨b, oa', e, l, I, t, rr⟩ => ⟨b, oa', e, I, t.toS l, rr⟩) fun _ _ z => z.toS
theorem SimAt.stepS {R : Rel α β} {t : Sem α} {m : M β} {k : β → M δ} {rf : Except Nat δ} {σf : St} {Q : α → Shared → Prop} {oa₀ : Nat → Option Addr} {s₀ : Shared} (h : SimAt g hm fx R oa σ s t m) (e : M.bind m k σ = some (rf, σf)) (tr : TrS fx oa₀ s₀ oa s)
    (ok : ∀ a s₁ b oa₁ σ₁, k b σ₁ = some (rf, σf) → Le oa₁ oa → Inv g hm fx oa₁ σ₁ s₁ → TrX s s₁ → R (badA fx oa₁) s₁.heap a b → Q a s₁) : wpAny (model g.prog g.w) fx.A t Q (PostXS g hm fx oa₀ s₀ rf σf) s := by
  refine bind_elim e (fun c e₁ => ?_) fun x σ₁ e₁ e₂ => ?_
  · exact wpAny_mono (h _ _ e₁) (fun a s₁ p => p.no) fun v s₁ p => ((p.cast rfl).toS).lift tr
  · refine wpAny_mono (h _ _ e₁) (fun a s₁ p => ?_) fun v s₁ p => p.no
    refine p.ok fun oa₁ l₁ I₁ t₁ rx => ?_
    exact ok a s₁ x oa₁ σ₁ e₂ l₁ I₁ t₁ rx
theorem SimSt.of_eq {R : RelS α β} {t t' : Sem α} {m : M β} (x : SimSt g hm fx R oa σ s t m) (e : t' = t) : SimSt g hm fx R oa σ s t' m := e ▸ x
theorem SimSt.mono {R R' : RelS α β} {t : Sem α} {m : M β} (x : SimSt g hm fx R oa σ s t m) (q : ∀ oa h a b, R oa h a b → R' oa h a b) : SimSt g hm fx R' oa σ s t m := fun r σ' e =>
  wpAny_mono (x r σ' e) (fun _ _ ⟨b, oa', e, I, t, rr⟩ => ⟨b, oa', e, I, t, q _ _ _ _ rr⟩) fun _ _ z => z
theorem SimSt.holding {R : RelS α β} {vs : List Value} {t : Sem α} {m : M β} (x : SimSt g hm fx R oa σ s t m) : SimSt g hm fx R oa σ s (holding vs t) m := fun r σ' e => wpAny_holding (x r σ' e)
theorem SimSt.stand {R : RelS α β} {p : Pos} {t : Unit → Sem α} {m : M β} (x : SimSt g hm fx R oa σ s (t ()) m) : SimSt g hm fx R oa σ s (standAt p >>= t) m := fun r σ' e => wpAny_bind (wpAny_standAt (x r σ' e))
theorem SimSt.ite {R : RelS α β} {t1 t2 : Sem α} {m1 m2 : M β} {b : Bool} (h1 : b = true → SimSt g hm fx R oa σ s t1 m1) (h2 : b = false → SimSt g hm fx R oa σ s t2 m2) :
    SimSt g hm fx R oa σ s (if b then t1 else t2) (if b then m1 else m2) := by
  cases b
  · exact h2 rfl
  · exact h1 rfl
noncomputable abbrev WA (fx : Fx) (ks : List Nat) : Addr → Prop := fun b => ∃ k ∈ ks, (fx.pl k).addr = some b
noncomputable abbrev RT (fx : Fx) (ks : List Nat) (oa : Nat → Option Addr) (s : Shared) : RelS Unit Unit := fun oa' h' _ _ => KeepBut (WA fx ks) s.heap h' ∧ Le oa' oa
noncomputable abbrev RU : RelS Unit Unit := fun _ _ _ _ => True
theorem upd_le (oa : Nat → Option Addr) (k : Nat) : Le (upd oa k none) oa := fun j a e => by
  unfold upd at e
  split at e
  · cases e
  · exact e

theorem Inv.mo0 (I : Inv g hm fx oa σ s) : Inv g hm { fx with Mo := fun b => fx.Mo b ∨ none = some b } oa σ s := I.more (Grown.refl s) (fun _ q => nomatch q) fun _ q => nomatch q
theorem sim_store {n : Str} {k : Nat} {v : Value} {x : V} (ok : FxOk g hm fx) (hx : fx.ρ.lookup n = some k) (hnf : fx.env.kindOf n ≠ some .free) (I : Inv g hm fx oa σ s) (r : Rp g hm (badA fx oa) s.heap false v x) :
    SimSt g hm fx (RT fx [k] oa s) oa σ s (storeName fx.env n v) (storeVar k x) := by
  intro rr σ' e
  unfold storeVar at e
  cases e
  refine store_ok ok hx hnf I fun h' tk ps => ?_
  obtain ⟨a, ha, hs, _⟩ := ps.addr
  have hb : badA fx oa a := .inr (.inl ⟨k, ha⟩)
  have r' : Rp g hm (badA fx (upd oa k none)) h' false v x := by
    refine r.move (fun b o e n => .of_eq (hs.extBut b o (fun q => n (q ▸ hb)) e)) fun c _ q => ?_
    rcases q with q | q | ⟨j, q⟩
    · exact .inl q
    · exact .inr (.inl q)
    · unfold upd at q
      split at q
      · cases q
      · exact .inr (.inr ⟨j, q⟩)
  obtain ⟨I', t'⟩ := Inv.put (tk := tk) (s₀ := s) ok I.mo0 ps (sl := .v x) (.v rfl r') (fun _ q => nomatch q) (.refl _) I.mo
  exact ⟨(), _, rfl, I', t', fun b o e n => .of_eq (hs.extBut b o (fun q => n ⟨k, .head _, q ▸ ha⟩) e), upd_le _ _⟩
noncomputable def tgtOk (ρ : List (Str × Nat)) (sc : List (Str × NameKind)) : Expr → Nat → Bool
  | .Name x _, k => ρ.lookup x == some k && sc.lookup x != some .free
  | _, _ => false
noncomputable def tgtsOk (ρ : List (Str × Nat)) (sc : List (Str × NameKind)) : List Expr → List Nat → Bool
  | [], [] => true
  | e :: es, k :: ks => tgtOk ρ sc e k && tgtsOk ρ sc es ks
  | _, _ => false
theorem sim_name {T : Expr} {k : Nat} {v : Value} {x : V} (ok : FxOk g hm fx) (hT : tgtOk fx.ρ fx.env.scope.names T k = true) (I : Inv g hm fx oa σ s) (r : Rp g hm (badA fx oa) s.heap false v x) :
    SimSt g hm fx (RT fx [k] oa s) oa σ s (assign T fx.env v) (storeVar k x) := by
  unfold tgtOk at hT
  split at hT
  · simp only [Bool.and_eq_true, beq_iff_eq, bne_iff_ne] at hT
    rw [arm_assign_Name]
    refine SimSt.stand ?_
    exact fun r' σ' e => wpAny_bindName (sim_store ok hT.1 hT.2 I r r' σ' e)
  · cases hT
theorem sim_names : ∀ {elts : List Expr} {ks : List Nat} {vs : List Value} {xs : List V} {oa : Nat → Option Addr} {σ : St} {s : Shared}, FxOk g hm fx → tgtsOk fx.ρ fx.env.scope.names elts ks = true → Inv g hm fx oa σ s → RpAll g hm (badA fx oa) s.heap vs xs →
    SimSt g hm fx (RT fx ks oa s) oa σ s (assignInOrder ((assignEach elts fx.env).map (·.2)) vs) (storeMany ks xs)
  | [], ks, vs, xs, oa, σ, s, ok, hT, I, r => by
    cases ks with
    | nil =>
      cases r with
      | nil => exact SimSt.of_eq (SimSt.pure I ⟨fun _ _ e _ => .of_eq e, .refl _⟩) rfl
      | cons _ _ => intro r' σ' e; simp [storeMany, M.stuck] at e
    | cons k ks => simp [tgtsOk] at hT
  | e :: es, ks, vs, xs, oa, σ, s, ok, hT, I, r => by
    cases ks with
    | nil => simp [tgtsOk] at hT
    | cons k ks =>
      simp only [tgtsOk, Bool.and_eq_true] at hT
      cases r with
      | nil => intro r' σ' e'; simp [storeMany, M.stuck] at e'
      | @cons v vs x xs r rs =>
        have he : assignEach (e :: es) fx.env = (false, assign e fx.env) :: assignEach es fx.env := by
          have h1 := hT.1
          unfold tgtOk at h1
          split at h1
          · rfl
          · cases h1
        rw [he]
        show SimSt _ _ _ _ _ _ _ (holding vs (assign e fx.env v) >>= fun _ => assignInOrder ((assignEach es fx.env).map (·.2)) vs) (M.bind (storeVar k x) fun _ => storeMany ks xs)
        refine SimSt.bind (SimSt.holding (sim_name ok hT.1 I r)) fun _ _ oa₁ σ₁ s₁ I₁ t₁ q₁ => (sim_names ok hT.2 I₁ (rs.onS t₁)).mono fun oa₂ h₂ _ _ q₂ => ⟨fun b o e n => ?_, q₂.2.trans q₁.2⟩
        refine (q₁.1 b o e fun ⟨j, m, ej⟩ => n ⟨j, ?_, ej⟩).trans fun o' e' => q₂.1 b o' e' fun ⟨j, m, ej⟩ => n ⟨j, .tail _ m, ej⟩
        cases List.mem_singleton.mp m; exact .head _
noncomputable def tgtChk (ρ : List (Str × Nat)) (sc : List (Str × NameKind)) : Expr → Tgt → Bool
  | e, .one k => tgtOk ρ sc e k
  | .Tuple elts _ _, .many ks => tgtsOk ρ sc elts ks
  | _, _ => false
theorem tgts_plain {ρ : List (Str × Nat)} {sc : List (Str × NameKind)} {env : Env} : ∀ {elts : List Expr} {ks : List Nat}, tgtsOk ρ sc elts ks = true → (assignEach elts env).length = ks.length ∧ (assignEach elts env).findIdx? (·.1) = none
  | [], [], _ => ⟨rfl, rfl⟩
  | [], _ :: _, h => by simp [tgtsOk] at h
  | _ :: _, [], h => by simp [tgtsOk] at h
  | e :: es, k :: ks, h => by
    simp only [tgtsOk, Bool.and_eq_true] at h
    have he : assignEach (e :: es) env = (false, assign e env) :: assignEach es env := by
      have h1 := h.1
      unfold tgtOk at h1
      split at h1
      · rfl
      · cases h1
    obtain ⟨h2, h3⟩ := tgts_plain (env := env) h.2
    rw [he]
    exact ⟨by simp [h2], by simp [List.findIdx?_cons, h3]⟩
theorem storeMany_length : ∀ {ks : List Nat} {xs : List V} {σ σ' : St} {r : Except Nat Unit}, storeMany ks xs σ = some (r, σ') → ks.length = xs.length
  | [], [], _, _, _, _ => rfl
  | [], _ :: _, _, _, _, e => by simp [storeMany, M.stuck] at e
  | _ :: _, [], _, _, _, e => by simp [storeMany, M.stuck] at e
  | k :: ks, x :: xs, _, _, _, e => by
    simp only [storeMany] at e
    refine bind_or e (fun c e₁ _ => ?_) fun u σ₁ e₁ e₂ => ?_
    · simp [storeVar] at e₁
    · simp [storeMany_length e₂]
theorem sim_tgt {T : Expr} {t : Tgt} {v : Value} {x : V} (ok : FxOk g hm fx) (hh : fx.A.handled = none) (hT : tgtChk fx.ρ fx.env.scope.names T t = true) (I : Inv g hm fx oa σ s) (r : Rp g hm (badA fx oa) s.heap false v x) :
    SimSt g hm fx (RT fx t.slots oa s) oa σ s (assign T fx.env v) (storeTgt t x) := by
  cases t with
  | one k =>
    have : tgtOk fx.ρ fx.env.scope.names T k = true := by cases T <;> exact hT
    exact sim_name ok this I r
  | many ks =>
    unfold tgtChk at hT
    split at hT
    · rename_i q; cases q
    · rename_i elts k' p' ks' q
      cases q
      intro rr σ' e
      cases r with
      | @tuple _ a o vs n l hb ha hc hd hl =>
        simp only [storeTgt] at e
        have len := hl.length
        simp only [Array.length_toList] at len
        obtain ⟨h1, h2⟩ := tgts_plain (env := fx.env) hT
        have len2 := storeMany_length e
        refine wpAny_assign_Tuple hh ⟨_, ha, hc, _, hd⟩ (by rw [h1, len2, len]) h2 fun h' he => ?_
        have gr : Grown s { s with heap := h' } := ⟨fun b o e => he b o (Nat.ne_of_lt (Heap.lt_size e)) e, rfl, rfl⟩
        refine wpAny_mono (sim_names ok hT (I.grown gr) (hl.keepX gr.trX.keep) _ _ e) (fun _ _ z => ?_) fun _ _ z => z.lift (gr.trX.toS (.refl _))
        obtain ⟨b, oa', e1, I1, t1, q1, q2⟩ := z
        exact ⟨b, oa', e1, I1, (gr.trX.toS (.refl _)).trans t1, fun b o e n => (Kept.of_eq (gr.keeps b o e)).trans fun o' e' => q1 b o' e' n, q2⟩
      | _ => simp [storeTgt, M.stuck] at e
    · cases hT
end
end Mine
end

noncomputable section
set_option maxRecDepth 100000
namespace Mine
open PySem PySem.Calls PyProof.Rows PySem.W

inductive FlOk (g : Gl) (hm : Bool) (fx : Fx) (oa : Nat → Option Addr) (h : Heap) : Flow → Fl → Prop
  | next : FlOk g hm fx oa h .next .next
  | retV {v : Value} {x : V} : Rp g hm (badA fx oa) h false v x → FlOk g hm fx oa h (.ret v) (.ret (.v x))
  | retL {k : Nat} {a : Addr} {l : List V} : oa k = some a → Rp g hm (badA fx oa) h true (.ref a) (.list l) → FlOk g hm fx oa h (.ret (.ref a)) (.ret (.ownL l))
noncomputable abbrev moreMo (fx : Fx) (X : Addr → Prop) : Fx := { fx with Mo := fun b => fx.Mo b ∨ X b }
noncomputable def SimFs (g : Gl) (hm : Bool) (fx : Fx) (t : Sem Flow) (m : M Fl) : Prop := ∀ oa σ s, Inv g hm fx oa σ s → SimSt g hm fx (FlOk g hm fx) oa σ s t m
noncomputable def PostF (g : Gl) (hm : Bool) (fx : Fx) (oa : Nat → Option Addr) (s : Shared) (r : Except Nat Fl) (σ' : St) (f : Flow) (s' : Shared) : Prop :=
  ∃ fl oa', r = .ok fl ∧ TrS fx oa s oa' s' ∧ FlOk g hm fx oa' s'.heap f fl ∧ Base g fx.frs.tail s' ∧ (hm = true ∨ fl = .next → Inv g hm fx oa' σ' s')
noncomputable def SimF (g : Gl) (hm : Bool) (fx : Fx) (oa : Nat → Option Addr) (σ : St) (s : Shared) (t : Sem Flow) (m : M Fl) : Prop :=
  ∀ r σ', m σ = some (r, σ') → wpAny (model g.prog g.w) fx.A t (PostF g hm fx oa s r σ') (PostXS g hm fx oa s r σ') s
noncomputable def SimFl (g : Gl) (hm : Bool) (fx : Fx) (t : Sem Flow) (m : M Fl) : Prop := ∀ oa σ s, Inv g hm fx oa σ s → SimF g hm fx oa σ s t m
theorem Base.tail {g : Gl} {l : List Env} {s : Shared} (B : Base g l s) : Base g l.tail s := by
  cases l with
  | nil => exact B
  | cons e r =>
    refine ⟨B.stays, B.os, B.gens, B.frames.2.2, fun b hb => B.fcls b ?_⟩
    unfold frameAddrs at hb ⊢
    rw [List.filterMap_cons]
    cases e.frame with
    | none => exact hb
    | some a => exact .tail _ hb

section
variable {g : Gl} {hm wk : Bool} {fx : Fx} {oa oa₁ : Nat → Option Addr} {σ σ' : St} {s s₁ s' : Shared} {h h' : Heap} {Δ : Dl} {α β γ δ : Type} {X : Addr → Prop}
theorem PostS.toF {f : Flow} {r : Except Nat Fl} (p : PostS g hm fx (FlOk g hm fx) oa s r σ' f s') : PostF g hm fx oa s r σ' f s' := by
  obtain ⟨fl, oa', e, I, t, q⟩ := p
  exact ⟨fl, oa', e, t, q, I.base.tail, fun _ => I⟩
theorem PostF.no {C : Prop} {f : Flow} {c : Nat} (p : PostF g hm fx oa s (.error c) σ' f s') : C := by
  obtain ⟨_, _, q, _⟩ := p; cases q
theorem PostF.ok {C : Prop} {f : Flow} {fl : Fl} (p : PostF g hm fx oa s (.ok fl) σ' f s') (k : ∀ oa', TrS fx oa s oa' s' → FlOk g hm fx oa' s'.heap f fl → Base g fx.frs.tail s' → (hm = true ∨ fl = .next → Inv g hm fx oa' σ' s') → C) : C := by
  obtain ⟨_, oa', q, t, h, B, I⟩ := p; cases q; exact k oa' t h B I
theorem PostF.lift {f : Flow} {r : Except Nat Fl} (p : PostF g hm fx oa₁ s₁ r σ' f s') (t : TrS fx oa s oa₁ s₁) : PostF g hm fx oa s r σ' f s' := by
  obtain ⟨fl, oa', e, t', q⟩ := p
  exact ⟨fl, oa', e, t.trans t', q⟩
theorem SimFs.toF {t : Sem Flow} {m : M Fl} (x : SimFs g hm fx t m) : SimFl g hm fx t m := fun oa σ s I r σ' e => wpAny_mono (x oa σ s I r σ' e) (fun _ _ z => z.toF) fun _ _ z => z
theorem FxOk.mo (ok : FxOk g hm fx) : FxOk g hm (moreMo fx X) := ⟨ok.hA, ok.hand, ok.kind, ok.globals, ok.builtins, ok.vis, ok.inj, ok.apart, ok.frame, ok.offs, ok.room, ok.units⟩
theorem FlOk.less {f : Flow} {fl : Fl} (x : FlOk g hm (moreMo fx X) oa h f fl) : FlOk g hm fx oa h f fl := by
  have q : ∀ (a : Addr) (o : Obj), h.get? a = some o → badA fx oa a → badA (moreMo fx X) oa a := fun a o _ b => b.imp .inl id
  cases x with
  | next => exact .next
  | retV r => exact .retV (r.anti q)
  | retL e r => exact .retL e (r.anti q)
theorem TrS.mo {oa' : Nat → Option Addr} (t : TrS (moreMo fx X) oa s oa' s') : TrS fx oa s oa' s' := ⟨t.keep, t.live, t.grow⟩
theorem noErr_some {m : M β} {r : Except Nat β} (e : M.noErr m σ = some (r, σ')) : ∃ b, r = .ok b ∧ m σ = some (.ok b, σ') := by
  unfold M.noErr at e
  split at e
  · cases e; exact ⟨_, rfl, by assumption⟩
  · cases e
theorem storeMany_ok : ∀ {ks : List Nat} {xs : List V} {σ σ' : St} {r : Except Nat Unit}, storeMany ks xs σ = some (r, σ') → r = .ok ()
  | [], [], _, _, _, e => (pure_some e).1
  | [], _ :: _, _, _, _, e => by simp [storeMany, M.stuck] at e
  | _ :: _, [], _, _, _, e => by simp [storeMany, M.stuck] at e
  | k :: ks, x :: xs, _, _, _, e => by
    simp only [storeMany] at e
    refine bind_or e (fun c e₁ _ => ?_) fun u σ₁ e₁ e₂ => ?_
    · simp [storeVar] at e₁
    · exact storeMany_ok e₂
theorem storeTgt_ok {t : Tgt} {x : V} {r : Except Nat Unit} (e : storeTgt t x σ = some (r, σ')) : r = .ok () := by
  unfold storeTgt at e
  split at e
  · unfold storeVar at e; cases e; rfl
  · exact storeMany_ok e
  · cases e
theorem Inv.others {wr : List Addr} {Mo₂ : Addr → Prop} {tk : Nat} (I : Inv g hm fx oa σ s) (k : ∀ b o, b ∉ wr → s.heap.get? b = some o → h'.get? b = some o) (hw : ∀ b ∈ wr, fx.Mo b) (hc : ∀ b ∈ wr, b ∉ frameAddrs fx.frs)
    (h0 : ∀ b ∈ wr, g.h0.get? b = none) (hsub : ∀ a, Mo₂ a → fx.Mo a) (hl : ∀ a, Mo₂ a → Live h' a) : Inv g hm { fx with Mo := Mo₂ } oa σ { s with heap := h', toks := tk } := by
  have nown : ∀ b, ownA fx.pl oa b → b ∉ wr := fun b q m => (I.new b q).2.2 (hw b m)
  have kb : KeepBut (badA fx oa) s.heap h' := fun b o e n => .of_eq (k b o (fun m => n (.inl (hw b m))) e)
  have pl : ∀ j u, PlRead s.heap (fx.pl j) u → PlRead h' (fx.pl j) u := fun j u r => by
    have na : ∀ a, (fx.pl j).addr = some a → a ∉ wr := fun a e => nown a (.inl ⟨j, e⟩)
    generalize fx.pl j = p at r na
    cases p with
    | ns a x => obtain ⟨m, hn, hu⟩ := r; exact ⟨m, hn.at' fun o e => k a o (na a rfl) e, hu⟩
    | cell c => obtain ⟨o, ho, hd⟩ := r; exact ⟨o, k c o (na c rfl) ho, hd⟩
    | off => exact r
  refine ⟨fun b o e => k b o (fun m => by rw [h0 b m] at e; cases e) (I.stays b o e), I.os, I.gens, ?_, fun b hb => ?_, fun j => ?_, fun a q => ?_, I.inj, I.off, I.len, I.gl, hl⟩
  · have f := I.frames
    have c := I.fcls
    have c' := hc
    show h'.FunFrames g.h0 fx.frs
    generalize fx.frs = l at f c c'
    induction l with
    | nil => trivial
    | cons env rest ih =>
      obtain ⟨hk, ⟨L, o, hf, hn, ho, hd⟩, hr⟩ := f
      have hm : ∀ b, b ∈ frameAddrs rest → b ∈ frameAddrs (env :: rest) := fun b hb => by unfold frameAddrs at hb ⊢; rw [List.filterMap_cons, hf]; exact .tail _ hb
      exact ⟨hk, ⟨L, o, hf, hn, k L o (fun m => c' L m (by unfold frameAddrs; rw [List.filterMap_cons, hf]; exact .head _)) ho, hd⟩, ih hr (fun b hb => c b (hm b hb)) fun b m hb => c' b m (hm b hb)⟩
  · obtain ⟨o, e, c⟩ := I.fcls b hb
    exact ⟨o, k b o (fun m => hc b m hb) e, c⟩
  · obtain ⟨u, r, so⟩ := I.slot j
    have so' : SlotOk g hm (badA fx oa) h' (oa j) u (getSlot j σ) := by
      generalize getSlot j σ = sl at so ⊢
      cases so with
      | unset e => exact .unset e
      | v e x => exact .v e (x.keep kb (by intro q; cases q))
      | ownL e x => exact .ownL e (x.keepTop kb fun o eo => k _ o (nown _ (.inr ⟨j, e⟩)) eo)
    exact ⟨u, pl j u r, so'.anti fun a o _ b => b.imp (hsub a) id⟩
  · obtain ⟨l, n, m⟩ := I.new a q
    obtain ⟨o, e⟩ := l
    exact ⟨⟨o, k a o (nown a q) e⟩, n, fun z => m (hsub a z)⟩

theorem forL_cons {body : M Fl} {t : Tgt} {x : V} {xs : List V} {r : Except Nat Fl} (e : forL (M.noErr body) t (x :: xs) σ = some (r, σ')) :
    ∃ σ₁ fl σ₂, storeTgt t x σ = some (.ok (), σ₁) ∧ body σ₁ = some (.ok fl, σ₂) ∧ ((fl = .next ∧ forL (M.noErr body) t xs σ₂ = some (r, σ')) ∨ ∃ y, fl = .ret y ∧ r = .ok (.ret y) ∧ σ' = σ₂) := by
  simp only [forL] at e
  refine bind_elim e (fun c e₁ => ?_) fun u σ₁ e₁ e₂ => ?_
  · cases storeTgt_ok e₁
  refine bind_elim e₂ (fun c e₃ => ?_) fun fl σ₂ e₃ e₄ => ?_
  · obtain ⟨_, q, _⟩ := noErr_some e₃; cases q
  obtain ⟨fl', q, e₅⟩ := noErr_some e₃
  cases q
  refine ⟨σ₁, fl, σ₂, e₁, e₅, ?_⟩
  cases fl with
  | next => exact .inl ⟨rfl, e₄⟩
  | ret y => obtain ⟨rfl, rfl⟩ := pure_some e₄; exact .inr ⟨y, rfl, rfl, rfl⟩
theorem folded_no {e : Expr} {env : Env} (h : notSet e = true) (x : Value) : foldedSetIterable e env x = pure x := by
  cases e <;> first | rfl | (simp [notSet] at h)
theorem sim_for {T iter : Expr} {body : List Stmt} {pos : Pos} {t : Tgt} {m : M (List V)} {mb : M Fl} (ok : FxOk g false fx) (hT : tgtChk fx.ρ fx.env.scope.names T t = true) (hset : notSet iter = true) (hsrc : SimSrc g false false fx T iter m)
    (hb : ∀ X, SimFl g false (moreMo fx X) (execs body fx.env) mb) : SimFl g false fx (exec (.For T iter body [] pos) fx.env) (M.bind m fun xs => forL (M.noErr mb) t xs) := fun oa σ s I r σf er => by
  refine wpAny_For ?_ (folded_no hset)
  refine bind_elim er (fun c e₁ => ?_) fun l σ₁ e₁ e₂ => ?_
  · exact hsrc oa σ s _ _ I e₁ _ _ (fun l _ _ _ _ q => by cases q) fun x s' p => (p.cast rfl).toS
  refine hsrc oa σ s _ _ I e₁ _ _ (fun l' oa₁ s₀ it s₂ q l₁ I₀ t₁ gr fa => ?_) fun x s' p => p.no
  cases q
  refine gen_goal fun Z kZ => ?_
  obtain ⟨J, fp, wr, vals, l0, Sp, rfl, F, st0, rv, hwr, hfp, hsz⟩ := fa
  let X : Addr → Prop := fun b => b ∈ fp ∧ s₀.heap.get? b = none
  have ok' : FxOk g false (moreMo fx X) := ok.mo
  have hh : fx.A.handled = none := ok.hand rfl
  have wrX : ∀ b ∈ wr, (moreMo fx X).Mo b := fun b m => .inr ⟨F.sub b m, hwr b m⟩
  have wrF : ∀ b ∈ wr, b ∉ frameAddrs fx.frs := fun b m hb => by obtain ⟨o, e, _⟩ := I₀.fcls b hb; rw [hwr b m] at e; cases e
  have wr0 : ∀ b ∈ wr, g.h0.get? b = none := fun b m => none_of (fun c ⟨o, e⟩ => ⟨o, I₀.stays c o e⟩) (hwr b m)
  have I₂ : Inv g false (moreMo fx X) oa₁ σ₁ s₂ := I₀.more gr (fun b q => q.2) fun b q => F.live 0 _ b st0 q.1
  have rv₂ : RpAll g false (badA (moreMo fx X) oa₁) s₂.heap vals l0 := by
    refine rv.move (fun b o e _ => .of_eq (gr.keeps b o e)) fun a la b => ?_
    rcases b with (b | b) | b
    · exact .inl b
    · obtain ⟨o, e⟩ := la; rw [b.2] at e; cases e
    · exact .inr b
  let LI : Nat → Shared → Prop := fun n s' => ∃ i oa' σ', n = l.length - i ∧ i ≤ l.length ∧ Sp i s'.heap ∧ Inv g false (moreMo fx X) oa' σ' s' ∧ TrS fx oa₁ s₀ oa' s' ∧ RpAll g false (badA (moreMo fx X) oa') s'.heap vals l0 ∧ forL (M.noErr mb) t (l.drop i) σ' = some (r, σf)
  have start : TrS fx oa s oa₁ s₀ := t₁.toS l₁
  refine kZ (codeAny_forLoop_any LI ?_ l.length ⟨0, oa₁, σ₁, rfl, Nat.zero_le _, st0, I₂, gr.trX.toS (.refl _), rv₂, e₂⟩)
  clear kZ
  intro n s' hLI
  refine gen_goal fun Z kZ => ?_
  obtain ⟨i, oa', σ', rfl, hi, st, I', t', rv', ef⟩ := hLI
  have notown : ∀ {oa'' : Nat → Option Addr} {s'' : Shared} {σ''}, Inv g false (moreMo fx X) oa'' σ'' s'' → TrS fx oa₁ s₀ oa'' s'' → ∀ b ∈ fp, ¬ ownA fx.pl oa'' b := fun I'' t'' b hb q => by
    by_cases lb : s₀.heap.get? b = none
    · exact (I''.new b q).2.2 (.inr ⟨hb, lb⟩)
    · have lv : Live s₀.heap b := by
        cases e : s₀.heap.get? b with
        | none => exact absurd e lb
        | some o => exact ⟨o, e⟩
      exact ((hfp b hb).resolve_left lb) rfl (.inr (t''.grow b lv q))
  cases hx : l[i]? with
  | none =>
    have hil : i = l.length := by have := List.getElem?_eq_none_iff.mp hx; omega
    subst hil
    rw [List.drop_length] at ef
    obtain ⟨rfl, rfl⟩ := pure_some ef
    refine kZ (wpAny_mono (F.done s' (fun s₁ => wpAny (model g.prog g.w) fx.A (execs [] fx.env) (fun f s₃ => PostF g false fx oa s (.ok Fl.next) σf f s₃) (notedBy (model g.prog g.w) fx.A fx.env fun e s' => cameBackBy (model g.prog g.w) fx.A fx.env (PostXS g false fx oa s (.ok Fl.next) σf) e s') s₁) _ st fun h' tk hk => ?_) (fun rr s₁ p => ?_) fun _ _ z => z)
    · refine wpAny_execs_nil ?_
      have I3 := Inv.others (fx := moreMo fx X) (Mo₂ := fx.Mo) (tk := tk) I' hk wrX wrF wr0 (fun a q => .inl q) fun a q => by
        obtain ⟨o, e⟩ := I'.mo a (.inl q)
        have nw : a ∉ wr := fun m => by obtain ⟨o', e'⟩ := I₀.mo a q; rw [hwr a m] at e'; cases e'
        exact ⟨o, hk a o nw e⟩
      refine PostS.toF ⟨.next, oa', rfl, I3, start.trans ⟨fun b o e n => ?_, fun b lb => ?_, t'.grow⟩, .next⟩
      · have nw : b ∉ wr := fun m => by rw [hwr b m] at e; cases e
        exact (t'.keep b o e n).trans fun o' e' => .of_eq (hk b o' nw e')
      · obtain ⟨o, e⟩ := t'.live b lb
        have nw : b ∉ wr := fun m => by obtain ⟨o', e'⟩ := lb; rw [hwr b m] at e'; cases e'
        exact ⟨o, hk b o nw e⟩
    · obtain ⟨rfl, z⟩ := p; exact z
  | some x =>
    have hil := (List.getElem?_eq_some_iff.mp hx).1
    have ed : l.drop i = x :: l.drop (i + 1) := by rw [List.drop_eq_getElem_cons hil]; congr 1; exact (List.getElem?_eq_some_iff.mp hx).2
    rw [ed] at ef
    obtain ⟨σ₂, fl, σ₃, est, ebd, hfl⟩ := forL_cons ef
    refine kZ (wpAny_mono (F.item i x s' false (badA (moreMo fx X) oa') (fun v s₁ => wpAny (model g.prog g.w) fx.A (assign T fx.env v) (fun _ s₂ => wpAny (model g.prog g.w) fx.A (execs body fx.env) (fun f s₃ => match f with
            | .next | .cont => ∃ m, m < l.length - i ∧ LI m s₃
            | .brk => PostF g false fx oa s r σf .next s₃
            | .ret v => PostF g false fx oa s r σf (.ret v) s₃) (notedBy (model g.prog g.w) fx.A fx.env fun e s' => cameBackBy (model g.prog g.w) fx.A fx.env (PostXS g false fx oa s r σf) e s') s₂) (notedBy (model g.prog g.w) fx.A fx.env fun e s' => cameBackBy (model g.prog g.w) fx.A fx.env (PostXS g false fx oa s r σf) e s') s₁) _ hx st rv' I'.badLt (fun b m => .inl (wrX b m)) fun v h' tk st' hk rx => ?_) (fun rr s₁ p => ?_) fun _ _ z => z)
    · have I3 : Inv g false (moreMo fx X) oa' σ' { s' with heap := h', toks := tk } := Inv.others (fx := moreMo fx X) (Mo₂ := (moreMo fx X).Mo) I' hk wrX wrF wr0 (fun a q => q) fun a q => by
        by_cases nw : a ∈ wr
        · exact F.live _ _ a st' (F.sub a nw)
        · obtain ⟨o, e⟩ := I'.mo a q
          exact ⟨o, hk a o nw e⟩
      have t3 : TrS fx oa₁ s₀ oa' { s' with heap := h', toks := tk } := by
        refine ⟨fun b o e n => ?_, fun b lb => ?_, t'.grow⟩
        · have nw : b ∉ wr := fun m => by rw [hwr b m] at e; cases e
          exact (t'.keep b o e n).trans fun o' e' => .of_eq (hk b o' nw e')
        · obtain ⟨o, e⟩ := t'.live b lb
          have nw : b ∉ wr := fun m => by obtain ⟨o', e'⟩ := lb; rw [hwr b m] at e'; cases e'
          exact ⟨o, hk b o nw e⟩
      have rv3 : RpAll g false (badA (moreMo fx X) oa') h' vals l0 := rv'.keep fun b o e n => .of_eq (hk b o (fun m => n (.inl (wrX b m))) e)
      have stays_st : ∀ {oa'' : Nat → Option Addr} {s'' : Shared} {σ'' : St} {s3 : Shared}, Sp (i + 1) s3.heap → Inv g false (moreMo fx X) oa'' σ'' s3 → TrS fx oa₁ s₀ oa'' s3 → ∀ {oa3 : Nat → Option Addr}, TrS (moreMo fx X) oa'' s3 oa3 s'' → Sp (i + 1) s''.heap := by
        intro oa'' s'' σ'' s3 st3 I3 t3 oa3 t4
        exact F.frame _ _ _ st3 fun b hb o e => (t4.keep b o e (notown I3 t3 b hb)).2 (F.cls _ _ b o st3 hb e)
      refine wpAny_mono (sim_tgt ok' hh hT I3 rx _ _ est) (fun _ s₄ p => ?_) fun _ _ p => p.no
      refine p.ok fun oa₄ I4 t4 _ => ?_
      have t04 : TrS fx oa₁ s₀ oa₄ s₄ := t3.trans t4.mo
      have st4 : Sp (i + 1) s₄.heap := stays_st st' I3 t3 t4
      refine wpAny_mono (hb X oa₄ σ₂ s₄ I4 _ _ ebd) (fun f s₅ p => ?_) fun _ _ p => p.no
      refine p.ok fun oa₅ t5 hf B5 I5 => ?_
      have t05 : TrS fx oa₁ s₀ oa₅ s₅ := t04.trans t5.mo
      have st5 : Sp (i + 1) s₅.heap := stays_st st4 I4 t04 t5
      have rv5 : RpAll g false (badA (moreMo fx X) oa₅) s₅.heap vals l0 := (rv3.onS (s := { s' with heap := h', toks := tk }) t4).onS t5
      clear kZ
      refine gen_goal fun Z kZ => ?_
      rcases hfl with ⟨rfl, ef'⟩ | ⟨y, rfl, rfl, rfl⟩
      · cases hf
        exact kZ ⟨l.length - (i + 1), by omega, i + 1, oa₅, σ₃, rfl, hil, st5, I5 (.inr rfl), t05, rv5, ef'⟩
      · have hf' := hf.less
        cases hf with
        | retV rr => exact kZ ⟨_, oa₅, rfl, start.trans t05, hf', B5, fun q => q.elim nofun nofun⟩
        | retL e rr => exact kZ ⟨_, oa₅, rfl, start.trans t05, hf', B5, fun q => q.elim nofun nofun⟩
    · obtain ⟨v, rfl, z⟩ := p; exact z
end
end Mine
end

noncomputable section
set_option maxRecDepth 100000
namespace Mine
open PySem PySem.Calls PyProof.Rows PySem.W

/-! comprehensions -/
section
variable {prog : Program} {w : World} {A : Around} {R : Result → Shared → Prop} {s : Shared}
theorem compLoop_any {elt target iter : Expr} {ifs : List Expr} {scope : Scope} {pos : Pos} {it acc : Value} {env : Env} (I : Nat → Shared → Prop)
    (turn : ∀ n s, I n s → wpAny (model prog w) A (pyNext it) (fun r s₁ => match r with
      | none => R (.ok .next) s₁
      | some v => wpAny (model prog w) A (letOwnedTupleGo target it v) (fun _ s₁' => wpAny (model prog w) A (assign target env v) (fun _ s₂ =>
          wpAny (model prog w) A (forIn ifs true fun c r => if r = true then do let ok ← isTrue c env (eval c env); pure (ForInStep.yield ok) else pure (ForInStep.yield r)) (fun ok s₃ =>
            if ok = true then wpAny (model prog w) A (eval elt env) (fun x s₄ =>
              wpAny (model prog w) A (call (.builtin "list.append") [acc, x]) (fun _ s₅ => ∃ m, m < n ∧ I m s₅) (notedBy (model prog w) A env fun e s' => R (.error e) s') s₄) (notedBy (model prog w) A env fun e s' => R (.error e) s') s₃
            else ∃ m, m < n ∧ I m s₃) (notedBy (model prog w) A env fun e s' => R (.error e) s') s₂) (notedBy (model prog w) A env fun e s' => R (.error e) s') s₁') (notedBy (model prog w) A env fun e s' => R (.error e) s') s₁) (notedBy (model prog w) A env fun e s' => R (.error e) s') s)
    (n : Nat) (h : I n s) : codeAny (model prog w) A (.compLoop (.ListComp elt [⟨target, iter, ifs, 0⟩] scope pos) 0 it acc env) R s := by
  refine codeAny_loop rfl I (fun n s hI => ?_) n h
  show wpAny _ A ((compTurn (.ListComp elt [⟨target, iter, ifs, 0⟩] scope pos) 0 it acc env).onRaise (fun x => do noteFrame x env; theTreesLotGoes x)) _ _ s
  refine wpAny_noted ?_
  rw [compTurn_list]
  refine wpAny_bind (wpAny_standAt (wpAny_bind (wpAny_mono (turn n s hI) (fun r s₁ h₁ => ?_) fun _ _ h' => h')))
  cases r with
  | none => exact wpAny_pure h₁
  | some v =>
    refine wpAny_bind (wpAny_mono h₁ (fun _ s₁' h₁' => ?_) fun _ _ h' => h')
    refine wpAny_bind (wpAny_mono h₁' (fun _ s₂ h₂ => wpAny_bind (wpAny_mono h₂ (fun ok s₃ h₃ => ?_) fun _ _ h' => h')) fun _ _ h' => h')
    cases ok with
    | false => exact wpAny_pure ⟨rfl, h₃⟩
    | true =>
      exact wpAny_bind (wpAny_bind (wpAny_mono h₃ (fun x s₄ h₄ => wpAny_bind (wpAny_mono h₄ (fun _ s₅ h₅ => wpAny_pure (wpAny_pure ⟨rfl, h₅⟩)) fun _ _ h' => h')) fun _ _ h' => h'))
end

noncomputable def testsT (ifs : List Expr) (env : Env) : Sem Bool := forIn ifs true fun c r => if r = true then do let ok ← isTrue c env (eval c env); pure (ForInStep.yield ok) else pure (ForInStep.yield r)
theorem tests_false (env : Env) : ∀ ifs : List Expr, (forIn ifs false fun c r => if r = true then do let ok ← isTrue c env (eval c env); pure (ForInStep.yield ok) else pure (ForInStep.yield r) : Sem Bool) = pure false
  | [] => rfl
  | c :: r => by
    rw [List.forIn_cons]
    simp only [Bool.false_eq_true, if_false, pure_bind]
    exact tests_false env r
section
variable {g : Gl} {hm wk : Bool} {fx : Fx} {oa oa₁ : Nat → Option Addr} {σ σ' : St} {s s₁ s' : Shared} {h h' : Heap} {Δ : Dl} {α β γ δ : Type} {X : Addr → Prop}
theorem sim_tests_nil : SimBo g hm fx (testsT [] fx.env) (M.pure true) := fun oa σ s I => SimAt.of_eq (SimAt.pure I rfl) rfl
theorem sim_tests_cons {c : Expr} {r : List Expr} {m m' : M Bool} (h : SimBo g hm fx (isTrue c fx.env (eval c fx.env)) m) (hr : SimBo g hm fx (testsT r fx.env) m') : SimBo g hm fx (testsT (c :: r) fx.env) (M.bind m fun t => if t then m' else M.pure false) := fun oa σ s I => by
  have e : testsT (c :: r) fx.env = (isTrue c fx.env (eval c fx.env) >>= fun ok => if ok then testsT r fx.env else pure false) := by
    unfold testsT
    rw [List.forIn_cons]
    simp only [if_true, bind_assoc, pure_bind]
    congr 1
    funext ok
    cases ok
    · exact tests_false _ _
    · rfl
  rw [e]
  refine SimAt.bind (h _ _ _ I) fun t t' oa₁ σ₁ s₁ l₁ I₁ t₁ e => ?_
  subst e
  exact SimAt.ite (fun _ => hr _ _ _ I₁) fun _ => SimAt.pure I₁ rfl
end

/-! the comprehension's own scope -/
noncomputable def relab (sc names : List (Str × NameKind)) : List (Str × NameKind) := names.map fun (n, k) => if k == .free && sc.lookup n == some .cell then (n, .cell) else (n, k)
theorem relabel_names {scope : Scope} {env : Env} (hk : env.scope.kind = .function) : (relabel scope env).names = relab env.scope.names scope.names := by
  unfold relabel relab
  simp only [hk]
  apply List.map_congr_left
  rintro ⟨n, k⟩ _
  have : (ScopeKind.function == ScopeKind.function) = true := by decide
  simp only [this, Bool.and_true]
  rfl
theorem relab_lookup (sc : List (Str × NameKind)) : ∀ (names : List (Str × NameKind)) (x : Str), (relab sc names).lookup x = (names.lookup x).map fun k => if k == .free && sc.lookup x == some .cell then .cell else k
  | [], x => rfl
  | (n, k) :: r, x => by
    have ih := relab_lookup sc r x
    have e : relab sc ((n, k) :: r) = (n, if k == .free && sc.lookup n == some .cell then .cell else k) :: relab sc r := by
      unfold relab
      rw [List.map_cons]
      congr 1
      show (if _ then (n, NameKind.cell) else (n, k)) = _
      split <;> rfl
    rw [e, List.lookup_cons, List.lookup_cons]
    cases hx : x == n with
    | true => have := beq_iff_eq.mp hx; subst this; rfl
    | false => exact ih
noncomputable def clOf (cells : List (Str × Addr)) : List (Str × NameKind) → List (Str × Addr) → List (Str × Addr)
  | [], acc => acc
  | (n, k) :: r, acc => clOf cells r (if k == .free then (n, (cells.lookup n).getD 0) :: acc else acc)
noncomputable def freeOk (cells : List (Str × Addr)) (names : List (Str × NameKind)) : Prop := ∀ n, (n, NameKind.free) ∈ names → ∃ c, cells.lookup n = some c
theorem closure_eq {scope : Scope} {env : Env} (h : freeOk env.cells scope.names) : closureFor scope env = pure (clOf env.cells scope.names []) := by
  unfold closureFor
  suffices ∀ (names : List (Str × NameKind)) (acc : List (Str × Addr)), freeOk env.cells names → (do
      let r ← forIn names acc fun x r => match x with
        | (name, kind) => if (kind == NameKind.free) = true then do let c ← cellOf env name; pure (ForInStep.yield ((name, c) :: r)) else pure (ForInStep.yield r)
      pure r : Sem (List (Str × Addr))) = pure (clOf env.cells names acc) by
    simpa using this scope.names [] h
  intro names
  induction names with
  | nil => intro acc _; rfl
  | cons p r ih =>
    obtain ⟨n, k⟩ := p
    intro acc hf
    rw [List.forIn_cons]
    have hr : freeOk env.cells r := fun m q => hf m (.tail _ q)
    by_cases hk : k = .free
    · subst hk
      obtain ⟨c, hc⟩ := hf n (.head _)
      have e1 : cellOf env n = pure c := by unfold cellOf; rw [hc]
      have := ih ((n, c) :: acc) hr
      simp only [beq_self_eq_true, if_true, e1, pure_bind, clOf, hc, Option.getD_some] at this ⊢
      exact this
    · have hb : (k == NameKind.free) = false := by simpa using hk
      have := ih acc hr
      simp only [hb, Bool.false_eq_true, if_false, pure_bind, clOf] at this ⊢
      exact this
theorem clOf_mem (cells : List (Str × Addr)) : ∀ (names : List (Str × NameKind)) (acc : List (Str × Addr)) (x : Str) (c : Addr), cells.lookup x = some c → ((x, NameKind.free) ∈ names ∨ acc.lookup x = some c) → (∀ d, acc.lookup x = some d → d = c) → (clOf cells names acc).lookup x = some c
  | [], acc, x, c, _, h, _ => by rcases h with h | h; cases h; exact h
  | (n, k) :: r, acc, x, c, hc, h, ha => by
    unfold clOf
    by_cases hk : k = .free
    · subst hk
      simp only [beq_self_eq_true, if_true]
      by_cases hx : x = n
      · subst hx
        refine clOf_mem cells r _ x c hc (.inr ?_) fun d hd => ?_
        · simp [hc]
        · simp only [List.lookup_cons, beq_self_eq_true, hc, Option.getD_some, Option.some.injEq] at hd; exact hd.symm
      · have hb : (x == n) = false := by simpa using hx
        refine clOf_mem cells r _ x c hc ?_ fun d hd => ?_
        · rcases h with h | h
          · rcases List.mem_cons.mp h with q | q
            · cases q; exact absurd rfl hx
            · exact .inl q
          · exact .inr (by rw [List.lookup_cons, hb]; exact h)
        · rw [List.lookup_cons, hb] at hd; exact ha d hd
    · have hb : (k == NameKind.free) = false := by simpa using hk
      simp only [hb, Bool.false_eq_true, if_false]
      refine clOf_mem cells r acc x c hc ?_ ha
      rcases h with h | h
      · rcases List.mem_cons.mp h with q | q
        · cases q; exact absurd rfl hk
        · exact .inl q
      · exact .inr h
theorem mem_lookup {α : Type} : ∀ {l : List (Str × α)} {n : Str} {c : α}, l.lookup n = some c → (n, c) ∈ l
  | (k, v) :: r, n, c, h => by
    rw [List.lookup_cons] at h
    cases hb : n == k with
    | true => rw [hb] at h; cases h; rw [beq_iff_eq.mp hb]; exact .head _
    | false => rw [hb] at h; exact .tail _ (mem_lookup h)
noncomputable def compρ (ρ : List (Str × Nat)) (names : List (Str × NameKind)) (nf : Nat) : List Str → List (Str × Nat)
  | [] => ρ.filter fun p => names.lookup p.1 == some .free
  | x :: xs => (x, nf) :: compρ ρ names (nf + 1) xs
theorem filter_lookup {p : Str → Bool} : ∀ {l : List (Str × Nat)} {x : Str} {k : Nat}, (l.filter fun q => p q.1).lookup x = some k → p x = true ∧ l.lookup x = some k
  | [], _, _, h => by simp at h
  | (n, v) :: r, x, k, h => by
    rw [List.filter_cons] at h
    split at h
    · rename_i hp
      rw [List.lookup_cons] at h ⊢
      cases hx : x == n with
      | true => rw [hx] at h; cases h; have := beq_iff_eq.mp hx; subst this; exact ⟨hp, rfl⟩
      | false => rw [hx] at h; exact filter_lookup h
    · rename_i hp
      obtain ⟨h1, h2⟩ := filter_lookup h
      refine ⟨h1, ?_⟩
      rw [List.lookup_cons]
      cases hx : x == n with
      | true => have := beq_iff_eq.mp hx; subst this; exact absurd h1 (by simpa using hp)
      | false => exact h2
theorem compρ_lookup {ρ : List (Str × Nat)} {names : List (Str × NameKind)} : ∀ {xs : List Str} {nf : Nat} {x : Str} {k : Nat}, (compρ ρ names nf xs).lookup x = some k → (∃ i, xs[i]? = some x ∧ k = nf + i) ∨ (names.lookup x = some .free ∧ ρ.lookup x = some k)
  | [], nf, x, k, h => by
    obtain ⟨h1, h2⟩ := filter_lookup (p := fun y => names.lookup y == some .free) h
    exact .inr ⟨beq_iff_eq.mp h1, h2⟩
  | y :: ys, nf, x, k, h => by
    unfold compρ at h
    rw [List.lookup_cons] at h
    cases hx : x == y with
    | true => rw [hx] at h; cases h; have := beq_iff_eq.mp hx; subst this; exact .inl ⟨0, rfl, rfl⟩
    | false =>
      rw [hx] at h
      rcases compρ_lookup h with ⟨i, h1, h2⟩ | h1
      · exact .inl ⟨i + 1, h1, by omega⟩
      · exact .inr h1
noncomputable def compFx (fx : Fx) (scope : Scope) (C : Addr) (xs : List Str) (X : Addr → Prop) : Fx :=
  { fx with env := compEnvC scope (clOf fx.env.cells scope.names []) C fx.env, ρ := compρ fx.ρ scope.names fx.nf xs, nf := fx.nf + xs.length, Mo := fun b => fx.Mo b ∨ X b,
            pl := fun k => if fx.nf ≤ k then (match xs[k - fx.nf]? with | some x => .ns C x | none => .off) else fx.pl k }
structure CompOk (fx : Fx) (scope : Scope) (xs : List Str) : Prop where
  kind : scope.kind = .function
  loc : ∀ x ∈ xs, scope.names.lookup x = some .local
  nodup : xs.Nodup
  ne : xs ≠ []
  nocell : ∀ y ∈ scope.names, y.2 ≠ .cell
  names : ∀ y ∈ scope.names, y.2 = .local → scope.names.lookup y.1 = some .local
  free : ∀ n, (n, NameKind.free) ∈ scope.names → fx.env.kindOf n = some .cell ∨ fx.env.kindOf n = some .free
  cells : freeOk fx.env.cells scope.names
  room : fx.nf + xs.length ≤ fx.ns

section
variable {g : Gl} {hm wk : Bool} {fx : Fx} {oa oa₁ : Nat → Option Addr} {σ σ' : St} {s s₁ s' s₀ : Shared} {h h' : Heap} {Δ : Dl} {X : Addr → Prop} {scope : Scope} {xs : List Str} {C : Addr}
theorem compFx_pl (k : Nat) : (compFx fx scope C xs X).pl k = if fx.nf ≤ k then (match xs[k - fx.nf]? with | some x => .ns C x | none => .off) else fx.pl k := rfl
theorem compFx_old (ok : FxOk g hm fx) {k : Nat} (hk : fx.pl k ≠ .off) : (compFx fx scope C xs X).pl k = fx.pl k := by
  have : ¬ fx.nf ≤ k := fun q => hk (ok.offs k q)
  rw [compFx_pl, if_neg this]
theorem compFx_addr {k : Nat} {a : Addr} (h : ((compFx fx scope C xs X).pl k).addr = some a) : a = C ∨ (fx.pl k).addr = some a := by
  rw [compFx_pl] at h
  split at h
  · split at h
    · cases h; exact .inl rfl
    · cases h
  · exact .inr h
theorem CompOk.toFx (c : CompOk fx scope xs) (ok : FxOk g hm fx) (hC : ∀ j, (fx.pl j).addr ≠ some C) : FxOk g hm (compFx fx scope C xs X) where
  hA := ok.hA
  hand := ok.hand
  kind := c.kind
  globals := ok.globals
  builtins := ok.builtins
  vis := fun x k hx => by
    have kn : ∀ y, (compFx fx scope C xs X).env.kindOf y = (relab fx.env.scope.names scope.names).lookup y := fun y => by
      show (relabel scope fx.env).names.lookup y = _
      rw [relabel_names ok.kind]
    rcases compρ_lookup hx with ⟨i, hi, rfl⟩ | ⟨hf, hk⟩
    · left
      have hl := c.loc x (List.mem_of_getElem? hi)
      refine ⟨?_, ?_⟩
      · rw [kn, relab_lookup, hl]; rfl
      · rw [compFx_pl, if_pos (Nat.le_add_right _ _), Nat.add_sub_cancel_left, hi]; rfl
    · right
      have hm := mem_lookup hf
      refine ⟨?_, ?_⟩
      · rw [kn, relab_lookup, hf]
        simp only [Option.map_some, beq_self_eq_true, Bool.true_and]
        split
        · exact .inl rfl
        · exact .inr rfl
      · obtain ⟨cc, hcc⟩ := c.cells x hm
        refine ⟨cc, clOf_mem _ _ _ _ _ hcc (.inl hm) (fun d hd => by cases hd), ?_⟩
        rcases ok.vis x k hk with ⟨q, _⟩ | ⟨_, c', hc', hp⟩
        · rcases c.free x hm with q' | q' <;> rw [q] at q' <;> cases q'
        · rw [hcc] at hc'; cases hc'
          rw [compFx_old ok (by rw [hp]; intro q; cases q), hp]
  inj := fun k j e hne => by
    rw [compFx_pl] at e hne
    rw [compFx_pl] at e
    by_cases h1 : fx.nf ≤ k <;> by_cases h2 : fx.nf ≤ j
    · rw [if_pos h1] at e hne; rw [if_pos h2] at e
      cases e1 : xs[k - fx.nf]? with
      | none => rw [e1] at hne; exact absurd rfl hne
      | some x =>
        cases e2 : xs[j - fx.nf]? with
        | none => rw [e1, e2] at e; cases e
        | some y =>
          rw [e1, e2] at e; cases e
          have := (List.getElem?_inj (by exact (List.getElem?_eq_some_iff.mp e1).1) c.nodup).mp (e1.trans e2.symm)
          omega
    · rw [if_pos h1] at e hne; rw [if_neg h2] at e
      cases e1 : xs[k - fx.nf]? with
      | none => rw [e1] at hne; exact absurd rfl hne
      | some x => rw [e1] at e; exact absurd (by rw [← e]; rfl) (hC j)
    · rw [if_neg h1] at e hne; rw [if_pos h2] at e
      cases e1 : xs[j - fx.nf]? with
      | none => rw [e1] at e; exact absurd e hne
      | some x => rw [e1] at e; exact absurd (by rw [e]; rfl) (hC k)
    · rw [if_neg h1] at e hne; rw [if_neg h2] at e; exact ok.inj k j e hne
  apart := fun k j a x cc e1 e2 => by
    rw [compFx_pl] at e1 e2
    split at e2
    · split at e2 <;> cases e2
    · split at e1
      · split at e1
        · cases e1
          exact fun q => hC j (by rw [e2, q]; rfl)
        · cases e1
      · exact ok.apart k j a x cc e1 e2
  frame := ok.frame
  offs := fun k hk => by
    have hk' : fx.nf + xs.length ≤ k := hk
    rw [compFx_pl, if_pos (by omega), List.getElem?_eq_none (by omega)]
  room := ok.room
  units := ok.units
theorem Inv.comp (c : CompOk fx scope xs) (ok : FxOk g hm fx) (I : Inv g hm fx oa σ s₀) (gr : Grown s₀ s) (hX : ∀ b, X b → s₀.heap.get? b = none ∧ Live s.heap b ∧ b ≠ C) (hC0 : s₀.heap.get? C = none) (hC : s.heap.Ns C fun _ => none) :
    Inv g hm (compFx fx scope C xs X) oa σ s := by
  have hCl : Live s.heap C := by obtain ⟨o, _, _, e, _⟩ := hC; exact ⟨o, e⟩
  have hCp : ∀ j, (fx.pl j).addr ≠ some C := fun j e => by
    obtain ⟨⟨o, e'⟩, _⟩ := I.new C (.inl ⟨j, e⟩); rw [hC0] at e'; cases e'
  have I' := I.grown gr
  have hbad : ∀ a o, s₀.heap.get? a = some o → badA (compFx fx scope C xs X) oa a → badA fx oa a := fun a o e b => by
    rcases b with (b | b) | ⟨j, b⟩ | b
    · exact .inl b
    · rw [(hX a b).1] at e; cases e
    · rcases compFx_addr b with rfl | b
      · rw [hC0] at e; cases e
      · exact .inr (.inl ⟨j, b⟩)
    · exact .inr (.inr b)
  refine ⟨I'.stays, I'.os, I'.gens, I'.frames, I'.fcls, fun j => ?_, fun a q => ?_, I.inj, fun j a e q => ?_, fun j e => ?_, I.gl, fun a q => ?_⟩
  · obtain ⟨v, r, so⟩ := I.slot j
    have so' : SlotOk g hm (badA (compFx fx scope C xs X) oa) s.heap (oa j) v (getSlot j σ) := (so.anti hbad).keepX gr.trX.keep
    by_cases hj : fx.nf ≤ j
    · rw [ok.offs j hj] at r
      cases r
      refine ⟨none, ?_, so'⟩
      rw [compFx_pl, if_pos hj]
      split
      · exact ⟨_, hC, rfl⟩
      · rfl
    · refine ⟨v, ?_, so'⟩
      rw [compFx_pl, if_neg hj]
      exact r.keepX gr.trX.keep
  · rcases q with ⟨j, q⟩ | ⟨j, q⟩
    · rcases compFx_addr q with rfl | q
      · refine ⟨hCl, none_of (fun b ⟨o, e⟩ => ⟨o, I.stays b o e⟩) hC0, fun z => ?_⟩
        rcases z with z | z
        · obtain ⟨o, e⟩ := I.mo a z; rw [hC0] at e; cases e
        · exact (hX a z).2.2 rfl
      · obtain ⟨⟨o, e⟩, n, m⟩ := I.new a (.inl ⟨j, q⟩)
        refine ⟨⟨o, gr.keeps a o e⟩, n, fun z => z.elim m fun z => ?_⟩
        rw [(hX a z).1] at e; cases e
    · obtain ⟨⟨o, e⟩, n, m⟩ := I.new a (.inr ⟨j, q⟩)
      refine ⟨⟨o, gr.keeps a o e⟩, n, fun z => z.elim m fun z => ?_⟩
      rw [(hX a z).1] at e; cases e
  · obtain ⟨i, q⟩ := q
    rcases compFx_addr q with rfl | q
    · obtain ⟨⟨o, e'⟩, _⟩ := I.new a (.inr ⟨j, e⟩); rw [hC0] at e'; cases e'
    · exact I.off j a e ⟨i, q⟩
  · rw [compFx_pl] at e
    split at e
    · split at e
      · rename_i h1 x h2
        have := (List.getElem?_eq_some_iff.mp h2).1
        have := c.room
        rw [I.gl]; omega
      · exact absurd rfl e
    · exact I.len j e
  · exact q.elim (fun z => gr.trX.live a (I.mo a z)) fun z => (hX a z).2.1
noncomputable def clr (ks : List Nat) (σ : St) : St := ks.foldl (fun σ k => setSlot k .unset σ) σ
theorem clr_eq : ∀ (ks : List Nat) (σ : St), clearSlots ks σ = some (.ok (), clr ks σ)
  | [], σ => rfl
  | k :: ks, σ => by
    show M.bind (storeSlot k .unset) (fun _ => clearSlots ks) σ = _
    simp only [M.bind, storeSlot]
    exact clr_eq ks _
theorem clr_len : ∀ (ks : List Nat) (σ : St), (clr ks σ).G.length = σ.G.length
  | [], σ => rfl
  | k :: ks, σ => by
    exact (clr_len ks (setSlot k .unset σ)).trans List.length_set
theorem clr_get_ne : ∀ (ks : List Nat) (σ : St) {j : Nat}, j ∉ ks → getSlot j (clr ks σ) = getSlot j σ
  | [], _, _, _ => rfl
  | k :: ks, σ, j, hj => by
    rw [List.mem_cons, not_or] at hj
    exact (clr_get_ne ks _ hj.2).trans (getSlot_set_ne hj.1)
theorem unset_set {j k : Nat} {σ : St} (h : getSlot j σ = .unset ∨ j = k) : getSlot j (setSlot k .unset σ) = .unset := by
  by_cases e : j = k
  · subst e
    by_cases hl : j < σ.G.length
    · exact getSlot_set_self hl
    · show (σ.G.set j .unset).getD j .unset = .unset
      rw [List.set_eq_of_length_le (by omega), List.getD_eq_getElem?_getD, List.getElem?_eq_none (by omega)]; rfl
  · rw [getSlot_set_ne e]; exact h.resolve_right e
theorem clr_get : ∀ (ks : List Nat) (σ : St) {j : Nat}, j ∈ ks ∨ getSlot j σ = .unset → getSlot j (clr ks σ) = .unset
  | [], _, _, h => h.resolve_left (by simp)
  | k :: ks, σ, j, h => by
    refine clr_get ks _ ?_
    rcases h with h | h
    · rcases List.mem_cons.mp h with rfl | h
      · exact .inr (unset_set (.inr rfl))
      · exact .inl h
    · exact .inr (unset_set (.inl h))
theorem Inv.uncomp {ks : List Nat} (c : CompOk fx scope xs) (ok : FxOk g hm fx) (hks : ∀ k, k ∈ ks ↔ fx.nf ≤ k ∧ k < fx.nf + xs.length) (hoa : ∀ k, fx.nf ≤ k → oa k = none) (hC : ∀ j, (fx.pl j).addr ≠ some C)
    (I : Inv g hm { compFx fx scope C xs X with Mo := fx.Mo } oa σ s) : Inv g hm (moreMo fx fun b => b = C) oa (clr ks σ) s := by
  have plC : plA (compFx fx scope C xs X).pl C := by
    cases hx : xs with
    | nil => exact absurd hx c.ne
    | cons x r => exact ⟨fx.nf, by rw [compFx_pl, if_pos (Nat.le_refl _), Nat.sub_self]; rfl⟩
  have plo : ∀ {a}, plA fx.pl a → plA (compFx fx scope C xs X).pl a := fun ⟨j, e⟩ => ⟨j, by
    rw [compFx_old ok (fun q => by rw [q] at e; cases e)]; exact e⟩
  have hbad : ∀ a, badA (moreMo fx fun b => b = C) oa a → badA { compFx fx scope C xs X with Mo := fx.Mo } oa a := fun a b => by
    rcases b with (b | b) | b | b
    · exact .inl b
    · exact .inr (.inl (b ▸ plC))
    · exact .inr (.inl (plo b))
    · exact .inr (.inr b)
  refine ⟨I.stays, I.os, I.gens, I.frames, I.fcls, fun j => ?_, fun a q => ?_, I.inj, fun j a e q => I.off j a e (plo q), fun j e => ?_, (clr_len ks σ).trans I.gl, fun a q => ?_⟩
  · by_cases hj : fx.nf ≤ j
    · refine ⟨none, ?_, ?_⟩
      · show PlRead _ (fx.pl j) _; rw [ok.offs j hj]; rfl
      · have : getSlot j (clr ks σ) = .unset := by
          refine clr_get ks σ ?_
          by_cases hk : j < fx.nf + xs.length
          · exact .inl ((hks j).mpr ⟨hj, hk⟩)
          · right
            obtain ⟨v, r, so⟩ := I.slot j
            have r' : PlRead s.heap ((compFx fx scope C xs X).pl j) v := r
            rw [compFx_pl, if_pos hj, List.getElem?_eq_none (by omega)] at r'
            cases r'
            generalize getSlot j σ = sl at so
            cases so; rfl
        rw [this]
        exact .unset (hoa j hj)
    · obtain ⟨v, r, so⟩ := I.slot j
      have r' : PlRead s.heap ((compFx fx scope C xs X).pl j) v := r
      rw [compFx_pl, if_neg hj] at r'
      refine ⟨v, r', ?_⟩
      rw [clr_get_ne ks σ (fun m => hj ((hks j).mp m).1)]
      exact so.anti fun a o _ b => hbad a b
  · have : ownA (compFx fx scope C xs X).pl oa a := q.imp plo id
    obtain ⟨l, n, m⟩ := I.new a this
    refine ⟨l, n, fun z => z.elim m fun z => ?_⟩
    subst z
    rcases q with ⟨j, q⟩ | ⟨j, q⟩
    · exact hC j q
    · exact I.off j a q plC
  · rw [clr_len ks σ]
    exact I.len j (by show (compFx fx scope C xs X).pl j ≠ .off; rw [compFx_old ok e]; exact e)
  · rcases q with q | rfl
    · exact I.mo a q
    · exact (I.new a (.inl plC)).1
end
end Mine
end

noncomputable section
set_option maxRecDepth 100000
namespace Mine
open PySem PySem.Calls PyProof.Rows PySem.W

section
variable {g : Gl} {hm wk : Bool} {fx : Fx} {oa oa₁ : Nat → Option Addr} {σ σ' σ₁ σ₂ : St} {s s₁ s' s₀ s₂ : Shared} {h h' : Heap} {Δ : Dl} {X : Addr → Prop} {scope : Scope} {xs : List Str} {C : Addr}

theorem compL_ok {elt : M V} {test : M Bool} {t : Tgt} : ∀ {l : List V} {σ σ' : St} {r : Except Nat (List V)}, compL (M.noErr elt) (M.noErr test) t l σ = some (r, σ') → ∃ ys, r = .ok ys
  | [], _, _, _, e => ⟨[], (pure_some e).1⟩
  | x :: xs, _, _, _, e => by
    simp only [compL] at e
    refine bind_elim e (fun c e₁ => ?_) fun u σ₁ e₁ e₂ => ?_
    · cases storeTgt_ok e₁
    refine bind_elim e₂ (fun c e₃ => ?_) fun b σ₂ e₃ e₄ => ?_
    · obtain ⟨_, q, _⟩ := noErr_some e₃; cases q
    cases b with
    | false => exact compL_ok e₄
    | true =>
      refine bind_elim e₄ (fun c e₅ => ?_) fun y σ₃ e₅ e₆ => ?_
      · obtain ⟨_, q, _⟩ := noErr_some e₅; cases q
      refine bind_elim e₆ (fun c e₇ => ?_) fun ys σ₄ e₇ e₈ => ?_
      · obtain ⟨_, q⟩ := compL_ok e₇; cases q
      exact ⟨_, (pure_some e₈).1⟩
theorem compL_cons {elt : M V} {test : M Bool} {t : Tgt} {x : V} {l : List V} {ys : List V} (e : compL (M.noErr elt) (M.noErr test) t (x :: l) σ = some (.ok ys, σ')) :
    ∃ σ₁ b σ₂, storeTgt t x σ = some (.ok (), σ₁) ∧ test σ₁ = some (.ok b, σ₂) ∧
      ((b = false ∧ compL (M.noErr elt) (M.noErr test) t l σ₂ = some (.ok ys, σ')) ∨ (b = true ∧ ∃ y zs σ₃, elt σ₂ = some (.ok y, σ₃) ∧ compL (M.noErr elt) (M.noErr test) t l σ₃ = some (.ok zs, σ') ∧ ys = y :: zs)) := by
  simp only [compL] at e
  refine bind_or e (fun c e₁ q => ?_) fun u σ₁ e₁ e₂ => ?_
  · cases q
  refine bind_or e₂ (fun c e₃ q => ?_) fun b σ₂ e₃ e₄ => ?_
  · cases q
  obtain ⟨b', q, e₃'⟩ := noErr_some e₃
  cases q
  refine ⟨σ₁, b, σ₂, e₁, e₃', ?_⟩
  cases b with
  | false => exact .inl ⟨rfl, e₄⟩
  | true =>
    refine bind_or e₄ (fun c e₅ q => ?_) fun y σ₃ e₅ e₆ => ?_
    · cases q
    obtain ⟨y', q, e₅'⟩ := noErr_some e₅
    cases q
    refine bind_or e₆ (fun c e₇ q => ?_) fun zs σ₄ e₇ e₈ => ?_
    · cases q
    obtain ⟨q, rfl⟩ := pure_some e₈
    cases q
    exact .inr ⟨rfl, y, zs, σ₃, e₅', e₇, rfl⟩

theorem KeepX.trans' {W : Addr → Prop} {h₂ : Heap} (k : KeepX h h') (w : KeepBut W h' h₂) (q : ∀ b, Live h b → ¬ W b) : KeepX h h₂ := fun b o e => (k b o e).trans fun o' e' => w b o' e' (q b ⟨o, e⟩)
theorem KeepX.exact (k : KeepX h h') {b : Addr} {o : Obj} (e : h.get? b = some o) (c : o.cls ≠ .type "frame") : h'.get? b = some o := (k b o e).2 c
theorem plain_at {D : Addr} {vs : Array Value} (p : h.PlainList D vs) (k : ∀ o, h.get? D = some o → o.cls ≠ .type "frame" → h'.get? D = some o) : h'.PlainList D vs := by
  obtain ⟨c, e⟩ := p
  exact ⟨c, k _ e (by show Value.type "list" ≠ _; decide)⟩
theorem plain_live {D : Addr} {vs : Array Value} (p : h.PlainList D vs) : Live h D := by obtain ⟨c, e⟩ := p; exact ⟨_, e⟩

theorem comp_core {elt T iter : Expr} {ifs : List Expr} {pos : Pos} {t : Tgt} {l ys : List V} {it : Value} {me : M V} {mt : M Bool} {RR : Value → Addr → Result → Shared → Prop} {E : Value → Shared → Prop}
    (ok : FxOk g false fx) (c : CompOk fx scope xs) (hslots : ∀ k, k ∈ t.slots ↔ fx.nf ≤ k ∧ k < fx.nf + xs.length) (I₀ : Inv g false fx oa₁ σ₁ s₀) (gr : Grown s₀ s₂) (fa : FeedAt g false fx.A T true (badA fx oa₁) s₀ s₂ it l)
    (hT : tgtChk (compρ fx.ρ scope.names fx.nf xs) (relab fx.env.scope.names scope.names) T t = true)
    (helt : ∀ C X, FxOk g false (compFx fx scope C xs X) → SimV g false false (compFx fx scope C xs X) (eval elt (compFx fx scope C xs X).env) me)
    (htest : ∀ C X, FxOk g false (compFx fx scope C xs X) → SimBo g false (compFx fx scope C xs X) (testsT ifs (compFx fx scope C xs X).env) mt)
    (er : compL (M.noErr me) (M.noErr mt) t l σ₁ = some (.ok ys, σ₂))
    (K : ∀ D C s' oa' m, Le oa' oa₁ → TrX s₀ s' → s₀.heap.get? C = none → Inv g false (moreMo fx fun b => b = C) oa' (clr t.slots σ₂) s' → s'.heap.Ns C m →
      Rp g false (badA (moreMo fx fun b => b = C) oa') s'.heap false (.ref D) (.list ys) → RR (.ref D) C (.ok .next) s') :
    wpAny (model g.prog g.w) fx.A (newList []) (fun acc s₃ => wpAny (model g.prog g.w) fx.A (newFunctionEnv scope fx.env.globals (clOf fx.env.cells scope.names []) [] fx.env.qual none .none (some fx.env)) (fun cenv s₄ =>
      codeAny (model g.prog g.w) fx.A (.compStart (.ListComp elt [⟨T, iter, ifs, 0⟩] scope pos) 0 it acc { cenv with scope := relabel scope fx.env }) (RR acc cenv.locals) s₄) E s₃) E s₂ := by
  refine gen_goal fun Z kZ => ?_
  obtain ⟨J, fp, wr, vals, l0, Sp, rfl, F, st0, rv, hwr, hfp, hsz⟩ := fa
  refine kZ (wpAny_newObj_type (wpAny_newFunctionEnv c.nocell (fun y hy => nomatch hy) (fun h₁ hns₁ hsb₁ => ?_) c.kind))
  clear kZ
  dsimp only at hns₁ hsb₁ ⊢
  generalize hH2 : s₂.heap.push { cls := .type "list", dict := none, data := .seq ([] : List Value).toArray } = H2 at hns₁ hsb₁ ⊢
  have hDn : s₂.heap.get? s₂.heap.objs.size = none := size_none _
  have hD0 : s₀.heap.get? s₂.heap.objs.size = none := none_of gr.trX.live hDn
  have up1 : ∀ b o, s₂.heap.get? b = some o → H2.get? b = some o := fun b o e => hH2 ▸ Heap.get?_push_of_some _ e
  have hD1 : H2.get? s₂.heap.objs.size = some { cls := .type "list", dict := none, data := .seq ([] : List Value).toArray } := hH2 ▸ Heap.get?_push_size _ rfl
  have hCn : H2.get? H2.objs.size = none := size_none _
  have hC0 : s₀.heap.get? H2.objs.size = none := none_of (fun b lb => by obtain ⟨o, e⟩ := gr.trX.live b lb; exact ⟨o, up1 b o e⟩) hCn
  have hDC : s₂.heap.objs.size ≠ H2.objs.size := fun q => by rw [q, hCn] at hD1; cases hD1
  have up2 : ∀ b o, b ≠ H2.objs.size → H2.get? b = some o → h₁.get? b = some o := fun b o n e => hsb₁.extBut b o n (Heap.get?_push_of_some _ e)
  have up : ∀ b o, s₂.heap.get? b = some o → h₁.get? b = some o := fun b o e => up2 b o (fun q => by rw [q] at e; have := up1 _ _ e; rw [hCn] at this; cases this) (up1 b o e)
  have hDh : h₁.PlainList s₂.heap.objs.size #[] := ⟨_, up2 _ _ hDC hD1⟩
  generalize hDD : s₂.heap.objs.size = D at hDn hD0 hD1 hDC hDh ⊢
  generalize hCC : H2.objs.size = C at hns₁ hsb₁ hCn hC0 hDC up2 ⊢
  have gr' : Grown s₀ { s₂ with heap := h₁, toks := s₂.toks + ([] : List (Str × Value)).length } := gr.trans ⟨up, rfl, rfl⟩
  let X : Addr → Prop := fun b => (b ∈ fp ∧ s₀.heap.get? b = none) ∨ b = D
  have fpl : ∀ b ∈ fp, Live s₂.heap b := fun b hb => F.live 0 _ b st0 hb
  have fpC : ∀ b ∈ fp, b ≠ C := fun b hb q => by obtain ⟨o, e⟩ := fpl b hb; rw [q] at e; have := up1 _ _ e; rw [hCn] at this; cases this
  have fpD : ∀ b ∈ fp, b ≠ D := fun b hb q => by obtain ⟨o, e⟩ := fpl b hb; rw [q, hDn] at e; cases e
  have hXp : ∀ b, X b → s₀.heap.get? b = none ∧ Live h₁ b ∧ b ≠ C := fun b q => by
    rcases q with ⟨q, n⟩ | rfl
    · obtain ⟨o, e⟩ := fpl b q
      exact ⟨n, ⟨o, up b o e⟩, fpC b q⟩
    · exact ⟨hD0, plain_live hDh, hDC⟩
  have I₁ : Inv g false (compFx fx scope C xs X) oa₁ σ₁ { s₂ with heap := h₁, toks := s₂.toks + ([] : List (Str × Value)).length } := I₀.comp c ok gr' hXp hC0 hns₁
  have hCp : ∀ j, (fx.pl j).addr ≠ some C := fun j e => by obtain ⟨⟨o, e'⟩, _⟩ := I₀.new C (.inl ⟨j, e⟩); rw [hC0] at e'; cases e'
  have ok' : FxOk g false (compFx fx scope C xs X) := c.toFx ok hCp
  have hh : fx.A.handled = none := ok.hand rfl
  have plN : ∃ x, (compFx fx scope C xs X).pl fx.nf = .ns C x := by
    have hne := c.ne
    rw [compFx_pl, if_pos (Nat.le_refl _), Nat.sub_self]
    cases xs with
    | nil => exact absurd rfl hne
    | cons x r => exact ⟨x, rfl⟩
  have plC : plA (compFx fx scope C xs X).pl C := by obtain ⟨x, e⟩ := plN; exact ⟨fx.nf, by rw [e]; rfl⟩
  have wrX : ∀ b ∈ wr, (compFx fx scope C xs X).Mo b := fun b m => .inr (.inl ⟨F.sub b m, hwr b m⟩)
  have wr0 : ∀ b ∈ wr, g.h0.get? b = none := fun b m => none_of (fun c ⟨o, e⟩ => ⟨o, I₀.stays c o e⟩) (hwr b m)
  have wrF : ∀ b ∈ wr, b ∉ frameAddrs fx.frs := fun b m hb => by obtain ⟨o, e, _⟩ := I₀.fcls b hb; rw [hwr b m] at e; cases e
  have D0 : g.h0.get? D = none := none_of (fun c ⟨o, e⟩ => ⟨o, I₀.stays c o e⟩) hD0
  have DF : D ∉ frameAddrs fx.frs := fun hb => by obtain ⟨o, e, _⟩ := I₀.fcls D hb; rw [hD0] at e; cases e
  have wrD : D ∉ wr := fun m => fpD D (F.sub D m) rfl
  have wrC : C ∉ wr := fun m => fpC C (F.sub C m) rfl
  have hslC : ∀ b, WA (compFx fx scope C xs X) t.slots b → b = C := fun b ⟨k, m, e⟩ => by
    obtain ⟨k1, k2⟩ := (hslots k).mp m
    rcases compFx_addr e with q | q
    · exact q
    · rw [ok.offs k k1] at q; cases q
  have rv₁ : RpAll g false (badA (compFx fx scope C xs X) oa₁) h₁ vals l0 := by
    refine rv.move (fun b o e _ => .of_eq (gr'.keeps b o e)) fun a la b => ?_
    rcases b with (b | b) | ⟨j, b⟩ | b
    · exact .inl b
    · obtain ⟨o, e⟩ := la; rw [(hXp a b).1] at e; cases e
    · rcases compFx_addr b with rfl | b
      · obtain ⟨o, e⟩ := la; rw [hC0] at e; cases e
      · exact .inr (.inl ⟨j, b⟩)
    · exact .inr (.inr b)
  have st1 : Sp 0 h₁ := F.frame _ _ _ st0 fun b _ o e => up b o e
  have loop : codeAny (model g.prog g.w) fx.A (.compLoop (.ListComp elt [⟨T, iter, ifs, 0⟩] scope pos) 0 (.ref J) (.ref D) (compFx fx scope C xs X).env) (RR (.ref D) C) { s₂ with heap := h₁, toks := s₂.toks + ([] : List (Str × Value)).length } := by
    let LC : Nat → Shared → Prop := fun n s' => ∃ i oa' σ' zs ys' vs, n = l.length - i ∧ i ≤ l.length ∧ Sp i s'.heap ∧ Inv g false (compFx fx scope C xs X) oa' σ' s' ∧ Le oa' oa₁ ∧ KeepX s₀.heap s'.heap ∧ RpAll g false (badA (compFx fx scope C xs X) oa') s'.heap vals l0 ∧
      s'.heap.PlainList D vs ∧ RpAll g false (badA (compFx fx scope C xs X) oa') s'.heap vs.toList zs ∧ zs.length ≤ i ∧ ys = zs ++ ys' ∧ compL (M.noErr me) (M.noErr mt) t (l.drop i) σ' = some (.ok ys', σ₂)
    refine compLoop_any LC ?_ l.length ⟨0, oa₁, σ₁, [], ys, #[], rfl, Nat.zero_le _, st1, I₁, .refl _, gr'.trX.keep, rv₁, hDh, .nil, Nat.zero_le _, rfl, er⟩
    intro n s' hLC
    refine gen_goal fun Z kZ => ?_
    obtain ⟨i, oa', σ', zs, ys', vs, rfl, hi, st, I', le', kx, rv', hD', rz, hz, hys, ec⟩ := hLC
    cases hx : l[i]? with
    | none =>
      have hil : i = l.length := by have := List.getElem?_eq_none_iff.mp hx; omega
      subst hil
      rw [List.drop_length] at ec
      obtain ⟨q, rfl⟩ := pure_some ec
      cases q
      rw [List.append_nil] at hys
      subst hys
      refine kZ (wpAny_mono (F.done s' (fun s₁ => RR (.ref D) C (.ok .next) s₁) _ st fun h' tk hk => ?_) (fun rr s₁ p => ?_) fun _ _ z => z)
      · have I3 := Inv.others (fx := compFx fx scope C xs X) (Mo₂ := fx.Mo) (tk := tk) I' hk wrX wrF wr0 (fun a q => .inl q) fun a q => by
          obtain ⟨o, e⟩ := I'.mo a (.inl q)
          have nw : a ∉ wr := fun m => by obtain ⟨o', e'⟩ := I₀.mo a q; rw [hwr a m] at e'; cases e'
          exact ⟨o, hk a o nw e⟩
        have hoa : ∀ k, fx.nf ≤ k → oa' k = none := fun k hk => by
          cases e : oa' k with
          | none => rfl
          | some a =>
            obtain ⟨v, r, so⟩ := I₀.slot k
            rw [ok.offs k hk] at r
            cases r
            generalize getSlot k σ₁ = sl at so
            cases so with | unset q => rw [le' k a e] at q; cases q
        have I4 := Inv.uncomp c ok hslots hoa hCp I3
        have nsC : ∃ m, Heap.Ns h' C m := by
          obtain ⟨x, ex⟩ := plN
          obtain ⟨v, r', _⟩ := I'.slot fx.nf
          rw [ex] at r'
          obtain ⟨m, hm, _⟩ := r'
          exact ⟨m, hm.at' fun o e => hk C o wrC e⟩
        obtain ⟨m, hm⟩ := nsC
        refine K D C _ oa' m le' ⟨fun b o e => (kx b o e).trans fun o' e' => .of_eq (hk b o' (fun m => by rw [hwr b m] at e; cases e) e')⟩ hC0 I4 hm ?_
        have hD3 : Heap.PlainList h' D vs := plain_at hD' fun o e _ => hk D o wrD e
        obtain ⟨cc, hcc⟩ := hD3
        refine .list ⟨.inr fun b => ?_, rfl⟩ hcc rfl rfl ?_
        · rcases b with (b | b) | b | b
          · obtain ⟨o, e⟩ := I₀.mo D b; rw [hD0] at e; cases e
          · exact hDC b
          · obtain ⟨⟨o, e⟩, _⟩ := I₀.new D (.inl b); rw [hD0] at e; cases e
          · obtain ⟨j, b⟩ := b
            obtain ⟨⟨o, e⟩, _⟩ := I₀.new D (.inr ⟨j, le' j D b⟩); rw [hD0] at e; cases e
        · have := rz.keep (h' := h') fun b o e n => .of_eq (hk b o (fun m => n (.inl (wrX b m))) e)
          refine this.anti fun a o _ b => ?_
          rcases b with (b | b) | b | b
          · exact .inl (.inl b)
          · exact .inr (.inl (b ▸ plC))
          · obtain ⟨j, b⟩ := b
            exact .inr (.inl ⟨j, by rw [compFx_old ok (fun q => by rw [q] at b; cases b)]; exact b⟩)
          · exact .inr (.inr b)
      · obtain ⟨rfl, z⟩ := p; exact z
    | some x =>
      have hil := (List.getElem?_eq_some_iff.mp hx).1
      have ed : l.drop i = x :: l.drop (i + 1) := by rw [List.drop_eq_getElem_cons hil]; congr 1; exact (List.getElem?_eq_some_iff.mp hx).2
      rw [ed] at ec
      obtain ⟨σ₃, b, σ₄, est, ett, hb⟩ := compL_cons ec
      refine kZ (wpAny_mono (F.item i x s' false (badA (compFx fx scope C xs X) oa') (fun v s₁ => wpAny (model g.prog g.w) fx.A (assign T (compFx fx scope C xs X).env v) (fun _ s₂ =>
          wpAny (model g.prog g.w) fx.A (testsT ifs (compFx fx scope C xs X).env) (fun ok s₃ =>
            if ok = true then wpAny (model g.prog g.w) fx.A (eval elt (compFx fx scope C xs X).env) (fun x s₄ =>
              wpAny (model g.prog g.w) fx.A (call (.builtin "list.append") [.ref D, x]) (fun _ s₅ => ∃ m, m < l.length - i ∧ LC m s₅) (notedBy (model g.prog g.w) fx.A (compFx fx scope C xs X).env fun e s' => RR (.ref D) C (.error e) s') s₄) (notedBy (model g.prog g.w) fx.A (compFx fx scope C xs X).env fun e s' => RR (.ref D) C (.error e) s') s₃
            else ∃ m, m < l.length - i ∧ LC m s₃) (notedBy (model g.prog g.w) fx.A (compFx fx scope C xs X).env fun e s' => RR (.ref D) C (.error e) s') s₂) (notedBy (model g.prog g.w) fx.A (compFx fx scope C xs X).env fun e s' => RR (.ref D) C (.error e) s') s₁) _ hx st rv' I'.badLt (fun b m => .inl (wrX b m)) fun v h' tk st' hk rx => ?_) (fun rr s₁ p => ?_) fun _ _ z => z)
      · have I3 : Inv g false (compFx fx scope C xs X) oa' σ' { s' with heap := h', toks := tk } := Inv.others (fx := compFx fx scope C xs X) (Mo₂ := (compFx fx scope C xs X).Mo) I' hk wrX wrF wr0 (fun a q => q) fun a q => by
          by_cases nw : a ∈ wr
          · exact F.live _ _ a st' (F.sub a nw)
          · obtain ⟨o, e⟩ := I'.mo a q
            exact ⟨o, hk a o nw e⟩
        have kx3 : KeepX s₀.heap h' := fun b o e => (kx b o e).trans fun o' e' => .of_eq (hk b o' (fun m => by rw [hwr b m] at e; cases e) e')
        have rv3 : RpAll g false (badA (compFx fx scope C xs X) oa') h' vals l0 := rv'.keep fun b o e n => .of_eq (hk b o (fun m => n (.inl (wrX b m))) e)
        have rz3 : RpAll g false (badA (compFx fx scope C xs X) oa') h' vs.toList zs := rz.keep fun b o e n => .of_eq (hk b o (fun m => n (.inl (wrX b m))) e)
        have hD3 : Heap.PlainList h' D vs := plain_at hD' fun o e _ => hk D o wrD e
        have hT' : tgtChk (compFx fx scope C xs X).ρ (compFx fx scope C xs X).env.scope.names T t = true := by
          have : (compFx fx scope C xs X).env.scope.names = relab fx.env.scope.names scope.names := relabel_names ok.kind
          rw [this]; exact hT
        refine wpAny_mono (sim_tgt ok' hh hT' I3 rx _ _ est) (fun _ s₄ p => ?_) fun _ _ p => p.no
        clear kZ
        refine gen_goal fun Z kZ => ?_
        refine p.ok fun oa₄ I4 t4 wl => ?_
        have w4 := wl.1
        have l4 := wl.2
        have kC : ∀ b o, b ≠ C → h'.get? b = some o → o.cls ≠ .type "frame" → s₄.heap.get? b = some o := fun b o n e cc => (w4 b o e fun q => n (hslC b q)).2 cc
        have kx4 : KeepX s₀.heap s₄.heap := kx3.trans' w4 fun b lb q => absurd (hslC b q) fun this => by
          obtain ⟨o, e⟩ := lb; rw [this, hC0] at e; cases e
        have st4 : Sp (i + 1) s₄.heap := F.frame _ _ _ st' fun b hb o e => kC b o (fpC b hb) e (F.cls _ _ b o st' hb e)
        have rv4 := rv3.onS (s := { s' with heap := h', toks := tk }) t4
        have rz4 := rz3.onS (s := { s' with heap := h', toks := tk }) t4
        have hD4 : s₄.heap.PlainList D vs := plain_at hD3 fun o e cc => kC D o hDC e cc
        refine kZ (wpAny_mono (htest C X ok' oa₄ σ₃ s₄ I4 _ _ ett) (fun b' s₅ p => ?_) fun _ _ p => p.no)
        clear kZ
        refine gen_goal fun Z kZ => ?_
        refine p.ok fun oa₅ l5 I5 t5 e5 => ?_
        subst e5
        have kx5 : KeepX s₀.heap s₅.heap := kx4.trans t5.keep
        have st5 : Sp (i + 1) s₅.heap := F.frame _ _ _ st4 fun b hb o e => t5.keep.exact e (F.cls _ _ b o st4 hb e)
        have rv5 := rv4.on l5 t5
        have rz5 := rz4.on l5 t5
        have hD5 : s₅.heap.PlainList D vs := plain_at hD4 fun o e cc => t5.keep.exact e cc
        rcases hb with ⟨rfl, ec'⟩ | ⟨rfl, y, zs', σ₅, ee, ec', rfl⟩
        · exact kZ ⟨l.length - (i + 1), by omega, i + 1, oa₅, σ₄, zs, ys', vs, rfl, hil, st5, I5, l5.trans (l4.trans le'), kx5, rv5, hD5, rz5, by omega, hys, ec'⟩
        · refine kZ (wpAny_mono (helt C X ok' oa₅ σ₄ s₅ I5 _ _ ee) (fun yv s₆ p => ?_) fun _ _ p => p.no)
          clear kZ
          refine gen_goal fun Z kZ => ?_
          refine p.ok fun oa₆ l6 I6 t6 ry => ?_
          have kx6 : KeepX s₀.heap s₆.heap := kx5.trans t6.keep
          have st6 : Sp (i + 1) s₆.heap := F.frame _ _ _ st5 fun b hb o e => t6.keep.exact e (F.cls _ _ b o st5 hb e)
          have rv6 := rv5.on l6 t6
          have rz6 := rz5.on l6 t6
          have hD6 : s₆.heap.PlainList D vs := plain_at hD5 fun o e cc => t6.keep.exact e cc
          have lenz := rz6.length
          simp only [Array.length_toList] at lenz
          have hsz7 : vs.size ≤ sizeLine := sz_le (by rw [lenz]; omega)
          refine kZ (wpAny_list_append_plain (hsz := hsz7) hD6 fun h₇ hD7 hs7 => ?_)
          have k7 : ∀ b o, b ∉ [D] → s₆.heap.get? b = some o → h₇.get? b = some o := fun b o n e => hs7.extBut b o (fun q => n (by rw [q]; exact .head _)) e
          have I7 : Inv g false (compFx fx scope C xs X) oa₆ σ₅ { s₆ with heap := h₇, toks := s₆.toks } := Inv.others (fx := compFx fx scope C xs X) (Mo₂ := (compFx fx scope C xs X).Mo) I6 k7 (fun b m => by cases List.mem_singleton.mp m; exact .inr (.inr rfl)) (fun b m => by cases List.mem_singleton.mp m; exact DF) (fun b m => by cases List.mem_singleton.mp m; exact D0) (fun a q => q) fun a q => by
            by_cases nd : a = D
            · subst nd; exact plain_live hD7
            · obtain ⟨o, e⟩ := I6.mo a q
              exact ⟨o, hs7.extBut a o nd e⟩
          have kb7 : KeepBut (badA (compFx fx scope C xs X) oa₆) s₆.heap h₇ := fun b o e n => .of_eq (hs7.extBut b o (fun q => n (.inl (.inr (.inr q)))) e)
          refine ⟨l.length - (i + 1), by omega, i + 1, oa₆, σ₅, zs ++ [y], zs', vs.push yv, rfl, hil, F.frame _ _ _ st6 fun b hb o e => hs7.extBut b o (fpD b hb) e, I7, l6.trans (l5.trans (l4.trans le')), ?_, rv6.keep kb7, hD7, ?_, by simp; omega, by simp [hys], ec'⟩
          · exact fun b o e => (kx6 b o e).trans fun o' e' => .of_eq (hs7.extBut b o' (fun q => by rw [q, hD0] at e; cases e) e')
          · rw [Array.toList_push]
            exact (rz6.keep kb7).append (.cons (ry.keep kb7 (by intro q; cases q)) .nil)
      · obtain ⟨v, rfl, z⟩ := p; exact z
  exact codeAny_compStart_list loop (F.self 0 _ _ _ st1 loop)
end
end Mine
end

noncomputable section
set_option maxRecDepth 100000
namespace Mine
open PySem PySem.Calls PyProof.Rows PySem.W

section
variable {g : Gl} {hm wk : Bool} {fx : Fx} {oa oa₁ : Nat → Option Addr} {σ σ' σ₁ σ₂ : St} {s s₁ s' s₀ s₂ : Shared} {h h' : Heap} {Δ : Dl} {X : Addr → Prop} {scope : Scope} {xs : List Str} {C : Addr}
theorem Inv.letGo {tk : Nat} (I : Inv g hm (moreMo fx fun b => b = C) oa σ s) (hs : Heap.SameBut C s.heap h') (hF : C ∉ frameAddrs fx.frs) (h0 : g.h0.get? C = none) (hMo : ¬ fx.Mo C) : Inv g hm fx oa σ { s with heap := h', toks := tk } :=
  Inv.others (fx := moreMo fx fun b => b = C) (Mo₂ := fx.Mo) (wr := [C]) I (fun b o n e => hs.extBut b o (fun q => n (by rw [q]; exact .head _)) e) (fun b m => by cases List.mem_singleton.mp m; exact .inr rfl)
    (fun b m => by cases List.mem_singleton.mp m; exact hF) (fun b m => by cases List.mem_singleton.mp m; exact h0) (fun a q => .inl q) fun a q => by
      obtain ⟨o, e⟩ := I.mo a (.inl q)
      exact ⟨o, hs.extBut a o (fun z => hMo (z ▸ q)) e⟩
theorem sim_comp {elt T iter : Expr} {ifs : List Expr} {pos : Pos} {t : Tgt} {m : M (List V)} {me : M V} {mt : M Bool} (ok : FxOk g false fx) (c : CompOk fx scope xs) (hslots : ∀ k, k ∈ t.slots ↔ fx.nf ≤ k ∧ k < fx.nf + xs.length) (hset : notSet iter = true)
    (hsrc : SimSrc g false true fx T iter m) (hT : tgtChk (compρ fx.ρ scope.names fx.nf xs) (relab fx.env.scope.names scope.names) T t = true)
    (helt : ∀ C X, FxOk g false (compFx fx scope C xs X) → SimV g false false (compFx fx scope C xs X) (eval elt (compFx fx scope C xs X).env) me)
    (htest : ∀ C X, FxOk g false (compFx fx scope C xs X) → SimBo g false (compFx fx scope C xs X) (testsT ifs (compFx fx scope C xs X).env) mt) :
    SimV g false false fx (eval (.ListComp elt [⟨T, iter, ifs, 0⟩] scope pos) fx.env) (M.bind m fun xs => M.bind (compL (M.noErr me) (M.noErr mt) t xs) fun ys => M.bind (clearSlots t.slots) fun _ => M.pure (.list ys)) := fun oa σ s I r σf er => by
  rw [eval_ListComp]
  refine wpAny_comprehension_free (use := none) rfl (folded_no hset) (closure_eq c.cells) c.kind c.names ?_
  refine bind_elim er (fun cc e₁ => ?_) fun l σ₁ e₁ e₂ => ?_
  · exact hsrc oa σ s _ _ I e₁ _ _ (fun l _ _ _ _ q => by cases q) fun x s' p => p.cast rfl
  refine bind_elim e₂ (fun cc e₃ => ?_) fun ys σ₂ e₃ e₄ => ?_
  · obtain ⟨_, q⟩ := compL_ok e₃; cases q
  refine bind_elim e₄ (fun cc e₅ => ?_) fun u σ₃ e₅ e₆ => ?_
  · rw [clr_eq] at e₅; cases e₅
  rw [clr_eq] at e₅
  cases e₅
  obtain ⟨rfl, rfl⟩ := pure_some e₆
  refine hsrc oa σ s _ _ I e₁ _ _ (fun l' oa₁ s₀ it s₂ q l₁ I₀ t₁ gr fa => ?_) fun x s' p => p.no
  cases q
  refine comp_core (RR := fun acc C => compPost (model g.prog g.w) fx.A (PostX g false fx oa s (.ok (V.list ys)) (clr t.slots σ₂)) none (PostR g false fx (RV g false false) oa s (.ok (V.list ys)) (clr t.slots σ₂)) acc C)
    ok c hslots I₀ gr fa hT helt htest e₃ fun D C s' oa' mm le' kx hC0 I' hn rp => ⟨mm, hn, fun h' hs' => ?_⟩
  have hF : C ∉ frameAddrs fx.frs := fun hb => by obtain ⟨o, e, _⟩ := I₀.fcls C hb; rw [hC0] at e; cases e
  have h0 : g.h0.get? C = none := none_of (fun c ⟨o, e⟩ => ⟨o, I₀.stays c o e⟩) hC0
  have hMo : ¬ fx.Mo C := fun q => by obtain ⟨o, e⟩ := I₀.mo C q; rw [hC0] at e; cases e
  refine ⟨_, oa', rfl, le'.trans l₁, I'.letGo (tk := s'.toks) hs' hF h0 hMo, t₁.trans ⟨fun b o e => (kx.keep b o e).trans fun o' e' => .of_eq (hs'.extBut b o' (fun q => by rw [q, hC0] at e; cases e) e')⟩, ?_⟩
  exact rp.move (fun b o e n => .of_eq (hs'.extBut b o (fun q => n (.inl (.inr q))) e)) fun a _ b => b.imp .inl id
noncomputable def swapB (sc : List (Str × NameKind)) (scope : Scope) (y : Str) (py vp : Pos) : Bool := sc.lookup y == some .local && py.line == vp.line && !(scope.names.any fun (n, k) => n == y && (k == .local || k == .cell))
theorem swap_eq {elt : Expr} {gens : List Comprehension} {pos py : Pos} {y : Str} {n : Nat} (hk : fx.env.scope.kind = .function) : swapsWith (.ListComp elt gens scope pos) (some (.Name y py)) n fx.env = pure (swapB fx.env.scope.names scope y py pos) := by
  have hb : (fx.env.blockKind == ScopeKind.function) = true := by unfold Env.blockKind; rw [hk]; rfl
  show (pure (fx.env.blockKind == ScopeKind.function && _ && _ && _) : Sem Bool) = _
  rw [hb]
  rfl
theorem sim_assign_comp {elt T iter : Expr} {ifs : List Expr} {pos py spos : Pos} {y : Str} {k : Nat} {t : Tgt} {m : M (List V)} {me : M V} {mt : M Bool} (ok : FxOk g false fx) (c : CompOk fx scope xs) (hslots : ∀ k, k ∈ t.slots ↔ fx.nf ≤ k ∧ k < fx.nf + xs.length) (hset : notSet iter = true)
    (hsrc : SimSrc g false true fx T iter m) (hT : tgtChk (compρ fx.ρ scope.names fx.nf xs) (relab fx.env.scope.names scope.names) T t = true)
    (helt : ∀ C X, FxOk g false (compFx fx scope C xs X) → SimV g false false (compFx fx scope C xs X) (eval elt (compFx fx scope C xs X).env) me)
    (htest : ∀ C X, FxOk g false (compFx fx scope C xs X) → SimBo g false (compFx fx scope C xs X) (testsT ifs (compFx fx scope C xs X).env) mt) (hsw : swapB fx.env.scope.names scope y py pos = true) (hy : tgtOk fx.ρ fx.env.scope.names (.Name y py) k = true) :
    SimFs g false fx (exec (.Assign [.Name y py] (.ListComp elt [⟨T, iter, ifs, 0⟩] scope pos) spos) fx.env)
      (M.bind (M.bind m fun xs => M.bind (compL (M.noErr me) (M.noErr mt) t xs) fun ys => M.bind (clearSlots t.slots) fun _ => M.pure (.list ys)) fun x => M.bind (storeVar k x) fun _ => M.pure .next) := fun oa σ s I r σf er => by
  rw [exec_Assign_Name_used _ _ _ _ ((swap_eq ok.kind).trans (by rw [hsw]))]
  refine wpAny_bind (wpAny_standAt (wpAny_bind ?_))
  show wpAny _ _ (do let _ ← comprehension (.ListComp elt [⟨T, iter, ifs, 0⟩] scope pos) scope fx.env _ (newList []) false (eval iter fx.env) (some (assign (.Name y py) fx.env))) _ _ s
  refine wpAny_bind (wpAny_mono (wpAny_comprehension_free (use := some (assign (.Name y py) fx.env)) (Q := fun _ s' => PostS g false fx (FlOk g false fx) oa s r σf .next s') (E := PostXS g false fx oa s r σf) rfl (folded_no hset) (closure_eq c.cells) c.kind c.names ?_) (fun _ s' hq => wpAny_pure (wpAny_pure hq)) fun _ _ z => z)
  refine bind_elim er (fun cc e₀ => ?_) fun x σ₀ e₀ e₉ => ?_
  · refine bind_or e₀ (fun cc' e₁ q => ?_) fun l σ₁ e₁ e₂ => ?_
    · cases q
      exact hsrc oa σ s _ _ I e₁ _ _ (fun l _ _ _ _ q => by cases q) fun x s' p => (p.cast rfl).toS
    refine bind_or e₂ (fun cc e₃ q => ?_) fun ys σ₂ e₃ e₄ => ?_
    · obtain ⟨_, q⟩ := compL_ok e₃; cases q
    refine bind_or e₄ (fun cc e₅ q => ?_) fun u σ₃ e₅ e₆ => ?_
    · rw [clr_eq] at e₅; cases e₅
    · cases (pure_some e₆).1
  refine bind_or e₀ (fun cc' e₁ q => ?_) fun l σ₁ e₁ e₂ => ?_
  · cases q
  refine bind_or e₂ (fun cc e₃ q => ?_) fun ys σ₂ e₃ e₄ => ?_
  · cases q
  refine bind_or e₄ (fun cc e₅ q => ?_) fun u σ₃ e₅ e₆ => ?_
  · cases q
  rw [clr_eq] at e₅
  cases e₅
  obtain ⟨q, rfl⟩ := pure_some e₆
  cases q
  refine bind_or e₉ (fun cc e₇ q => ?_) fun u' σ₄ e₇ e₈ => ?_
  · unfold storeVar at e₇; cases e₇
  obtain ⟨rfl, rfl⟩ := pure_some e₈
  refine hsrc oa σ s _ _ I e₁ _ _ (fun l' oa₁ s₀ it s₂ q l₁ I₀ t₁ gr fa => ?_) fun x s' p => p.no
  cases q
  refine comp_core (RR := fun acc C => compPost (model g.prog g.w) fx.A (PostXS g false fx oa s (.ok Fl.next) σf) (some (assign (.Name y py) fx.env)) (fun _ s' => PostS g false fx (FlOk g false fx) oa s (.ok Fl.next) σf .next s') acc C)
    ok c hslots I₀ gr fa hT helt htest e₃ fun D C s' oa' mm le' kx hC0 I' hn rp => ?_
  have hF : C ∉ frameAddrs fx.frs := fun hb => by obtain ⟨o, e, _⟩ := I₀.fcls C hb; rw [hC0] at e; cases e
  have h0 : g.h0.get? C = none := none_of (fun c ⟨o, e⟩ => ⟨o, I₀.stays c o e⟩) hC0
  have hMo : ¬ fx.Mo C := fun q => by obtain ⟨o, e⟩ := I₀.mo C q; rw [hC0] at e; cases e
  show wpAny _ _ (assign (.Name y py) fx.env (.ref D)) _ _ _
  refine wpAny_mono (sim_name (fx := moreMo fx fun b => b = C) ok.mo hy I' rp _ _ e₇) (fun _ s₅ p => ?_) fun _ _ p => p.no
  refine p.ok fun oa₅ I5 t5 _ => ?_
  have hnC : ∃ m, s₅.heap.Ns C m := by
    obtain ⟨o, es, ep, ho, hd, hs, hf⟩ := hn
    obtain ⟨⟨sl, e'⟩, _⟩ := t5.keep C o ho fun q => (I'.new C q).2.2 (.inr rfl)
    exact ⟨mm, _, es, ep, e', hd, hs, hf⟩
  obtain ⟨m5, hn5⟩ := hnC
  refine ⟨m5, hn5, fun h' hs' => ⟨.next, oa₅, rfl, I5.letGo (tk := s₅.toks) hs' hF h0 hMo, ?_, .next⟩⟩
  have t0 : TrS fx oa₁ s₀ oa₅ s₅ := (kx.toS le').trans t5.mo
  refine (t₁.toS l₁).trans ⟨fun b o e n => (t0.keep b o e n).trans fun o' e' => .of_eq (hs'.extBut b o' (fun q => by rw [q, hC0] at e; cases e) e'), fun b lb => ?_, t0.grow⟩
  obtain ⟨o, e⟩ := t0.live b lb
  exact ⟨o, hs'.extBut b o (fun q => by obtain ⟨o', e'⟩ := lb; rw [q, hC0] at e'; cases e') e⟩
end
end Mine
end

noncomputable section
set_option maxRecDepth 100000
namespace Mine
open PySem PySem.Calls PyProof.Rows PySem.W

section
variable {prog : Program} {w : World} {A : Around} {E : Value → Shared → Prop} {s : Shared}
theorem mapSeq_dict (o : Obj) (f : Array Value → Array Value) : (o.mapSeq f).dict = o.dict := by
  obtain ⟨c, d, dt, sl⟩ := o; cases dt <;> rfl
noncomputable def ListObj (h : Heap) (a : Addr) (vs : Array Value) : Prop := ∃ o n, h.get? a = some o ∧ o.cls = .type "list" ∧ o.dict = none ∧ o.data = .seq vs n
theorem listObj_map {h : Heap} {a : Addr} {vs : Array Value} (x : ListObj h a vs) (f : Array Value → Array Value) : ListObj (h.update a (Obj.mapSeq f)) a (f vs) := by
  obtain ⟨o, n, ho, hc, hx, hd⟩ := x
  obtain ⟨n', hd'⟩ := Obj.data_mapSeq hd f
  exact ⟨_, n', Heap.get?_update_self _ ho (Obj.isFreed_of_seq hd'), (Obj.cls_mapSeq ..).trans hc, (mapSeq_dict ..).trans hx, hd'⟩
theorem append_at {l : Addr} {items : Array Value} {x : Value} {Q : Value → Shared → Prop} (hl : ListObj s.heap l items)
    (hQ : ∀ h', ListObj h' l (items.push x) → Heap.SameBut l s.heap h' → Q .none { s with heap := h' }) (hsz : items.size ≤ sizeLine) :
    wpAny (model prog w) A (call (.builtin "list.append") [.ref l, x]) Q E s := by
  have hm := listObj_map hl (·.push x)
  obtain ⟨o, n, ho, hc, hx, hd⟩ := hl
  refine wpAny_call_entry slot_list_append ⟨o, ho, hc⟩ entry_list_append ?_ (args_list_append _ _)
  show wpAny _ _ (updateSeq l (·.push x) >>= fun _ => ret .none) _ _ s
  exact wpAny_bind (wpAny_updateSeq ho hd (wpAny_pure ⟨.none, rfl, hQ _ hm (Heap.SameBut.update ..)⟩))
theorem setItem_at {l : Addr} {items : Array Value} {k : Int} {t : Tok} {v : Value} {Q : Unit → Shared → Prop} (hl : ListObj s.heap l items) (h0 : 0 ≤ k) (hfit : k < 2 ^ 63) (hn : k < items.size)
    (hQ : ∀ h', ListObj h' l (items.setIfInBounds k.toNat v) → Heap.SameBut l s.heap h' → Q () { s with heap := h' }) (hsz : items.size ≤ sizeLine) :
    wpAny (model prog w) A (setItem (.ref l) (.int k t) v) Q E s := by
  have hm := fun j => listObj_map hl (·.setIfInBounds j v)
  obtain ⟨o, n, ho, hc, hx, hd⟩ := hl
  have hL : s.heap.IsList l items := ⟨o, ho, hc, n, hd⟩
  unfold setItem
  try with_reducible refine wpAny_holding ?_
  first | refine wpAny_bind (wpAny_pure ?_) | skip
  refine wpAny_bind (wpAny_sequenceKey hL.typeIs (by decide) ?_)
  refine wpAny_bind (wpAny_callSpecial?_slot (name := Str.ofString "__setitem__") hL.typeIs slot_list_setitem
    (wpAny_call_entry slot_list_setitem hL.typeIs entry_list_setitem ?_ (args_list_setitem _ _ _)))
  show wpAny _ _ (Builtin.List.listSubscript? (.int k t) >>= _) _ _ s
  refine wpAny_bind (wpAny_listSubscript_int (fitsIndex_of h0 hfit) ?_)
  clear hfit
  obtain ⟨j, rfl⟩ := Int.eq_ofNat_of_zero_le h0
  have hj : j < items.size := by omega
  have hx' : items[j]? = some items[j] := Array.getElem?_eq_getElem hj
  show wpAny _ _ ((seqItemAt l j >>= fun r => pure (r.map (j, ·))) >>= _) _ _ s
  refine wpAny_bind (wpAny_bind (wpAny_seqItemAt ho hd (wpAny_pure ?_)))
  rw [hx']
  show wpAny _ _ (setSeqItemAt l j v >>= _) _ _ s
  refine wpAny_bind (wpAny_setSeqItemAt ho hd ?_)
  first
    | exact wpAny_bind (wpAny_pure (wpAny_pure ⟨.none, rfl, wpAny_pure (hQ _ (hm j) (Heap.SameBut.update ..))⟩))
    | exact wpAny_pure ⟨.none, rfl, wpAny_pure (hQ _ (hm j) (Heap.SameBut.update ..))⟩
end

section
variable {g : Gl} {hm wk : Bool} {fx : Fx} {oa oa₁ : Nat → Option Addr} {σ σ' σ₁ σ₂ : St} {s s₁ s' s₀ s₂ : Shared} {h h' : Heap} {Δ : Dl} {X : Addr → Prop} {P : Prog} {cf : CallF}
theorem Inv.mutate {k tk : Nat} {a : Addr} {l l' : List V} {vs' : Array Value} (I : Inv g hm fx oa σ s) (hk : oa k = some a) (hsl : getSlot k σ = .ownL l) (hs : Heap.SameBut a s.heap h') (hl : ListObj h' a vs') (r : RpAll g hm (badA fx oa) h' vs'.toList l') :
    Inv g hm fx oa (setSlot k (.ownL l') σ) { s with heap := h', toks := tk } ∧ TrS fx oa s oa { s with heap := h', toks := tk } ∧ TrS fx oa s oa { s with heap := h', toks := tk } := by
  have kp : ∀ b o, b ≠ a → s.heap.get? b = some o → h'.get? b = some o := fun b o n e => hs.extBut b o n e
  have hown : ownA fx.pl oa a := .inr ⟨k, hk⟩
  have hnp : ¬ plA fx.pl a := I.off k a hk
  obtain ⟨o', n', ho', hc', hx', hd'⟩ := hl
  have hl' : Live h' a := ⟨o', ho'⟩
  have live : ∀ b, Live s.heap b → Live h' b := fun b ⟨o, e⟩ => (Classical.em (b = a)).elim (fun q => q ▸ hl') fun n => ⟨o, kp b o n e⟩
  have tr : TrS fx oa s oa { s with heap := h', toks := tk } := ⟨fun b o e n => .of_eq (kp b o (fun q => n (q ▸ hown)) e), live, fun _ _ q => q⟩
  have pk : fx.pl k ≠ .off := fun q => by
    obtain ⟨v, pr, so⟩ := I.slot k
    rw [q] at pr; cases pr
    rw [hsl] at so; cases so
  have aF : ∀ b ∈ frameAddrs fx.frs, b ≠ a := fun b hb q => by
    obtain ⟨o, e, c⟩ := I.fcls b hb
    obtain ⟨v, pr, so⟩ := I.slot k
    rw [hsl] at so
    cases so with | @ownL a₂ _ e₂ rp => ?_
    rw [hk] at e₂; cases e₂
    cases rp with | list _ ha hc => ?_
    rw [← q, e] at ha; cases ha; rw [c] at hc; exact absurd hc (by decide)
  refine ⟨⟨?_, I.os, I.gens, ?_, fun b hb => ?_, fun j => ?_, fun b q => ?_, I.inj, I.off, fun j e => by simpa [setSlot] using I.len j e, by simpa [setSlot] using I.gl, fun b q => live b (I.mo b q)⟩, tr, tr⟩
  · intro b o e
    exact kp b o (fun q => by subst q; rw [(I.new b hown).2.1] at e; cases e) (I.stays b o e)
  · have f := I.frames
    show h'.FunFrames g.h0 fx.frs
    generalize fx.frs = fr at f aF
    induction fr with
    | nil => trivial
    | cons env rest ih =>
      obtain ⟨hk, ⟨L, o, hf, hn, ho, hd⟩, hr⟩ := f
      refine ⟨hk, ⟨L, o, hf, hn, kp L o (aF L (by unfold frameAddrs; rw [List.filterMap_cons, hf]; exact .head _)) ho, hd⟩, ih hr fun b hb => aF b (by unfold frameAddrs at hb ⊢; rw [List.filterMap_cons, hf]; exact .tail _ hb)⟩
  · obtain ⟨o, e, c⟩ := I.fcls b hb
    exact ⟨o, kp b o (aF b hb) e, c⟩
  · obtain ⟨u, pr, so⟩ := I.slot j
    have pr' : PlRead h' (fx.pl j) u := by
      have na : ∀ c, (fx.pl j).addr = some c → c ≠ a := fun c e q => hnp ⟨j, q ▸ e⟩
      generalize fx.pl j = p at pr na
      cases p with
      | ns c x => obtain ⟨m, hn, hu⟩ := pr; exact ⟨m, hn.at' fun o e => kp c o (na c rfl) e, hu⟩
      | cell c => obtain ⟨o, ho, hd⟩ := pr; exact ⟨o, kp c o (na c rfl) ho, hd⟩
      | off => exact pr
    refine ⟨u, pr', ?_⟩
    by_cases e : j = k
    · subst e
      rw [getSlot_set_self (I.len _ pk)]
      rw [hsl] at so
      cases so with | @ownL a₂ _ e₂ rp => ?_
      rw [hk] at e₂; cases e₂
      exact .ownL hk (.list ⟨.inl rfl, hx'⟩ ho' hc' hd' r)
    · rw [getSlot_set_ne e]
      exact so.beside kp (.inr hown) fun q => e (I.inj j k a q hk)
  · obtain ⟨l, n, m⟩ := I.new b q
    exact ⟨live b l, n, m⟩
theorem own_list {k : Nat} {l : List V} (I : Inv g hm fx oa σ s) (hsl : getSlot k σ = .ownL l) : ∃ a vs, oa k = some a ∧ PlRead s.heap (fx.pl k) (some (.ref a)) ∧ ListObj s.heap a vs ∧ RpAll g hm (badA fx oa) s.heap vs.toList l := by
  obtain ⟨v, pr, so⟩ := I.slot k
  rw [hsl] at so
  cases so with | @ownL a _ e rp => ?_
  cases rp with | @list _ _ o vs n _ hb ha hc hd hl => ?_
  exact ⟨a, vs, e, pr, ⟨o, n, ha, hc, hb.2, hd⟩, hl⟩
theorem needL_some {k : Nat} {r : Except Nat Unit} (e : needL k σ = some (r, σ')) : r = .ok () ∧ σ' = σ ∧ ∃ l, getSlot k σ = .ownL l := by
  unfold needL at e
  split at e
  · rename_i l q; cases e; exact ⟨rfl, rfl, l, q⟩
  · cases e

/-! statements -/
theorem sim_pass {pos : Pos} : SimFs g hm fx (exec (.Pass pos) fx.env) (M.pure .next) := fun oa σ s I => by
  rw [exec_Pass]; exact SimSt.stand (SimSt.pure I .next)
theorem sim_if {c : Expr} {a b : List Stmt} {pos : Pos} {mc : M Bool} {ma mb : M Fl} (hc : SimBo g hm fx (isTrue c fx.env (eval c fx.env)) mc) (ha : SimFl g hm fx (execs a fx.env) ma) (hb : SimFl g hm fx (execs b fx.env) mb) :
    SimFl g hm fx (exec (.If c a b pos) fx.env) (M.bind mc fun t => if t then ma else mb) := fun oa σ s I r σ' e => by
  refine wpAny_If ?_
  refine bind_elim e (fun c e₁ => ?_) fun t σ₁ e₁ e₂ => ?_
  · refine wpAny_mono (hc _ _ _ I _ _ e₁) (fun a s₁ p => ?_) fun v s₁ p => (p.cast rfl).toS
    exact p.no
  refine wpAny_mono (hc _ _ _ I _ _ e₁) (fun b' s₁ p => ?_) fun v s₁ p => p.no
  refine p.ok fun oa₁ l₁ I₁ t₁ e₃ => ?_
  subst e₃
  have tS : TrS fx oa s oa₁ s₁ := t₁.toS l₁
  cases b' with
  | true => exact wpAny_mono (ha _ _ _ I₁ _ _ e₂) (fun _ _ z => z.lift tS) fun _ _ z => z.lift tS
  | false => exact wpAny_mono (hb _ _ _ I₁ _ _ e₂) (fun _ _ z => z.lift tS) fun _ _ z => z.lift tS
theorem sim_seq_nil : SimFs g hm fx (execs [] fx.env) (M.pure .next) := fun oa σ s I => SimSt.of_eq (SimSt.pure I .next) rfl
theorem sim_seq_cons {st : Stmt} {r : List Stmt} {m m' : M Fl} (h1 : SimFl g hm fx (exec st fx.env) m) (h2 : SimFl g hm fx (execs r fx.env) m') :
    SimFl g hm fx (execs (st :: r) fx.env) (M.bind m fun fl => match fl with | .next => m' | .ret y => M.pure (.ret y)) := fun oa σ s I rr σ' e => by
  refine wpAny_execs_cons ?_
  refine bind_elim e (fun c e₁ => ?_) fun fl σ₁ e₁ e₂ => ?_
  · refine wpAny_mono (h1 _ _ _ I _ _ e₁) (fun a s₁ p => ?_) fun v s₁ p => p.cast rfl
    exact p.no
  refine wpAny_mono (h1 _ _ _ I _ _ e₁) (fun f s₁ p => ?_) fun v s₁ p => p.no
  refine p.ok fun oa₁ t₁ hf B I₁ => ?_
  have hf' := hf
  cases hf with
  | next => exact wpAny_mono (h2 _ _ _ (I₁ (.inr rfl)) _ _ e₂) (fun _ _ z => z.lift t₁) fun _ _ z => z.lift t₁
  | retV rp => obtain ⟨rfl, rfl⟩ := pure_some e₂; exact ⟨_, oa₁, rfl, t₁, hf', B, fun q => I₁ (q.imp id fun z => by cases z)⟩
  | retL e rp => obtain ⟨rfl, rfl⟩ := pure_some e₂; exact ⟨_, oa₁, rfl, t₁, hf', B, fun q => I₁ (q.imp id fun z => by cases z)⟩
theorem sim_ret {e : Expr} {pos : Pos} {a : M V} (h : SimV g hm false fx (eval e fx.env) a) : SimFs g hm fx (exec (.Return (some e) pos) fx.env) (M.bind a fun x => M.pure (.ret (.v x))) := fun oa σ s I => by
  rw [exec_Return_some]
  exact SimSt.stand (SimSt.bind (h _ _ _ I).toS fun v x oa₁ σ₁ s₁ I₁ t₁ r => SimSt.pure I₁ (.retV r))
theorem sim_retOwn {x : Str} {k : Nat} {np pos : Pos} (ok : FxOk g hm fx) (hx : fx.ρ.lookup x = some k) (hn : okName x = true) : SimFs g hm fx (exec (.Return (some (.Name x np)) pos) fx.env) (retOwn k) := fun oa σ s I r σ' e => by
  rw [exec_Return_some]
  refine wpAny_bind (wpAny_standAt (wpAny_bind ?_))
  obtain ⟨v, pr, so⟩ := I.slot k
  unfold retOwn at e
  generalize hg : getSlot k σ = sl at so e
  cases so with
  | unset q => cases e
  | v q rp => cases e; exact name_read ok hx hn pr (wpAny_pure ⟨_, oa, rfl, I, .refl _ _ _, .retV rp⟩)
  | ownL q rp => cases e; exact name_read ok hx hn pr (wpAny_pure ⟨_, oa, rfl, I, .refl _ _ _, .retL q rp⟩)
noncomputable def notComp : Expr → Bool
  | .ListComp .. => false
  | .SetComp .. => false
  | .DictComp .. => false
  | _ => true
theorem swaps_no {value : Expr} {t : Expr} {n : Nat} {env : Env} (h : notComp value = true) : swapsWith value (some t) n env = pure false := by
  cases value <;> first | rfl | (simp [notComp] at h)
theorem sim_assign {y : Str} {py spos : Pos} {value : Expr} {k : Nat} {a : M V} (ok : FxOk g hm fx) (hs : swapsWith value (some (.Name y py)) spos.line fx.env = pure false) (hy : tgtOk fx.ρ fx.env.scope.names (.Name y py) k = true) (h : SimV g hm false fx (eval value fx.env) a) :
    SimFs g hm fx (exec (.Assign [.Name y py] value spos) fx.env) (M.bind a fun x => M.bind (storeVar k x) fun _ => M.pure .next) := fun oa σ s I => by
  rw [exec_Assign_Name _ _ _ _ _ hs]
  refine SimSt.stand (SimSt.bind (h _ _ _ I).toS fun v x oa₁ σ₁ s₁ I₁ t₁ r => SimSt.stand (SimSt.bind (R := RT fx [k] oa₁ s₁) ?_ fun _ _ oa₂ σ₂ s₂ I₂ t₂ _ => SimSt.pure I₂ .next))
  simp only [tgtOk, Bool.and_eq_true, beq_iff_eq, bne_iff_ne] at hy
  exact fun r' σ' e => wpAny_bindName (sim_store ok hy.1 hy.2 I₁ r r' σ' e)
theorem put_list {y : Str} {k : Nat} {a : Addr} {l : List V} {Q : Unit → Shared → Prop} {E : Value → Shared → Prop} (ok : FxOk g hm fx) (hx : fx.ρ.lookup y = some k) (hnf : fx.env.kindOf y ≠ some .free)
    (I : Inv g hm { fx with Mo := fun b => fx.Mo b ∨ some a = some b } oa σ s) (t : TrX s₀ s) (ha0 : s₀.heap.get? a = none) (hMo : ∀ b, fx.Mo b → Live s₀.heap b) (h0 : g.h0.get? a = none) (rp : Rp g hm (badA { fx with Mo := fun b => fx.Mo b ∨ some a = some b } oa) s.heap true (.ref a) (.list l))
    (h : ∀ s', Inv g hm fx (upd oa k (some a)) (setSlot k (.ownL l) σ) s' → TrS fx oa s₀ (upd oa k (some a)) s' → Q () s') : wpAny (model g.prog g.w) fx.A (storeName fx.env y (.ref a)) Q E s := by
  have I' : Inv g hm fx oa σ s := Inv.less (X := fun b => some a = some b) I
  refine store_ok ok hx hnf I' fun h' tk ps => ?_
  obtain ⟨c, hc, hs, _⟩ := ps.addr
  have hown : ownA fx.pl oa c := .inl ⟨k, hc⟩
  have hca : a ≠ c := fun q => (I.new c hown).2.2 (.inr (by rw [q]))
  have hbad : ∀ b, badA fx (upd oa k (some a)) b → badA { fx with Mo := fun b => fx.Mo b ∨ some a = some b } oa b := fun b q => by
    rcases q with q | q | ⟨j, q⟩
    · exact .inl (.inl q)
    · exact .inr (.inl q)
    · unfold upd at q
      split at q
      · exact .inl (.inr q)
      · exact .inr (.inr ⟨j, q⟩)
  have rp' : Rp g hm (badA fx (upd oa k (some a))) h' true (.ref a) (.list l) :=
    (rp.keepTop (fun b o e n => .of_eq (hs.extBut b o (fun q => n (.inr (q ▸ hown))) e)) fun o e => hs.extBut a o hca e).anti fun b o _ q => hbad b q
  obtain ⟨I2, t2⟩ := Inv.put (tk := tk) (s₀ := s₀) ok I ps (sl := .ownL l) (.ownL rfl rp') (fun b q => by cases q; exact ⟨h0, ha0⟩) t hMo
  exact h _ I2 t2
theorem sim_ownL {y : Str} {py spos pos : Pos} {es : List Expr} {k : Nat} {b : M (List V)} (ok : FxOk g hm fx) (hy : tgtOk fx.ρ fx.env.scope.names (.Name y py) k = true) (h : SimVs g hm fx (spliced (backTo pos (starEach es fx.env))) b) :
    SimFs g hm fx (exec (.Assign [.Name y py] (.List es pos) spos) fx.env) (M.bind b fun xs => M.bind (if xs.length ≤ szLine then storeSlot k (.ownL xs) else M.stuck) fun _ => M.pure .next) := fun oa σ s I => by
  rw [exec_Assign_Name _ _ _ _ _ (swaps_no rfl), arm_eval_List]
  simp only [tgtOk, Bool.and_eq_true, beq_iff_eq, bne_iff_ne] at hy
  refine SimSt.stand ?_
  simp only [bind_assoc]
  refine SimSt.stand (SimSt.bind (h _ _ _ I).toS fun vs xs oa₁ σ₁ s₁ I₁ t₁ rs => ?_)
  intro r σ' e
  split at e
  · rename_i hsz
    have e' : some (.ok Fl.next, setSlot k (.ownL xs) σ₁) = some (r, σ') := e
    cases e'
    refine wpAny_bind (wpAny_newObj_type ?_ (by show vs.toArray.size ≤ sizeLine; rw [List.size_toArray, rs.length]; exact sz_le hsz))
    refine wpAny_bind (wpAny_standAt (wpAny_bind (wpAny_bindName ?_)))
    have gr := Grown.push s₁ { cls := .type "list", data := .seq vs.toArray } s₁.toks
    have hD : s₁.heap.get? s₁.heap.objs.size = none := size_none _
    have I₂ := I₁.more (X := fun b => some s₁.heap.objs.size = some b) gr (fun b q => by cases q; exact hD) fun b q => by cases q; exact ⟨_, Heap.get?_push_size _ rfl⟩
    have rs' : RpAll g hm (badA { fx with Mo := fun b => fx.Mo b ∨ some s₁.heap.objs.size = some b } oa₁) (s₁.heap.push { cls := .type "list", data := .seq vs.toArray }) vs xs := by
      refine rs.move (fun b o e _ => .of_eq (gr.keeps b o e)) fun a la q => ?_
      rcases q with (q | q) | q
      · exact .inl q
      · cases q; obtain ⟨o, e⟩ := la; rw [hD] at e; cases e
      · exact .inr q
    refine put_list (l := xs) ok hy.1 hy.2 I₂ gr.trX hD I₁.mo (none_of (fun c ⟨o, e⟩ => ⟨o, I₁.stays c o e⟩) hD) (.list ⟨.inl rfl, rfl⟩ (Heap.get?_push_size _ rfl) rfl rfl (by simpa using rs')) fun s' I' t' => ?_
    exact wpAny_pure ⟨.next, _, rfl, I', t', .next⟩
  · cases e
end
end Mine
end

noncomputable section
set_option maxRecDepth 100000
namespace Mine
open PySem PySem.Calls PyProof.Rows PySem.W

section
variable {g : Gl} {hm wk : Bool} {fx : Fx} {oa oa₁ : Nat → Option Addr} {σ σ' σ₁ σ₂ : St} {s s₁ s' s₀ s₂ : Shared} {h h' : Heap} {Δ : Dl} {X : Addr → Prop} {P : Prog} {cf : CallF}
theorem Inv.moreX (I : Inv g hm fx oa σ s₀) (t : TrX s₀ s) (B : Base g fx.frs s) (hX : ∀ b, X b → s₀.heap.get? b = none) (hl : ∀ b, X b → Live s.heap b) : Inv g hm { fx with Mo := fun b => fx.Mo b ∨ X b } oa σ s where
  stays := B.stays
  os := B.os
  gens := B.gens
  frames := B.frames
  fcls := B.fcls
  slot := fun k => by
    obtain ⟨v, r, so⟩ := I.slot k
    refine ⟨v, r.keepX t.keep, (so.anti (bad' := badA { fx with Mo := fun b => fx.Mo b ∨ X b } oa) fun a o e b => ?_).keepX t.keep⟩
    rcases b with (b | b) | b
    · exact .inl b
    · rw [hX a b] at e; cases e
    · exact .inr b
  new := fun a q => by
    obtain ⟨l, n, m⟩ := I.new a q
    refine ⟨t.live a l, n, fun z => z.elim m fun z => ?_⟩
    obtain ⟨o, e⟩ := l; rw [hX a z] at e; cases e
  inj := I.inj
  off := I.off
  len := I.len
  gl := I.gl
  mo := fun a q => q.elim (fun z => t.live a (I.mo a z)) (hl a)
theorem fncall_wp {x : Str} {f : Nat} {fp pos : Pos} {es : List Expr} {b : M (List V)} {rb : Except Nat (List V)} {Q : Value → Shared → Prop} {E : Value → Shared → Prop} (G : Ground g Δ) (ok : FxOk g hm fx) (hx : glob fx.env.scope.names x = true) (hf : Δ.fns.lookup x = some f) (hp : es.all plainE = true)
    (hfn : ∃ o fd, g.h0.get? (g.fn f) = some o ∧ o.data = .func fd) (ha : SimVs g hm fx (spliced (backTo pos (starEach es fx.env))) b) (hb0 : es = [] → b = M.pure []) (I : Inv g hm fx oa σ s) (e₁ : b σ = some (rb, σ₁))
    (hok : ∀ args oa₁ s₁ vals, rb = .ok args → Le oa₁ oa → TrX s s₁ → Inv g hm fx oa₁ σ₁ s₁ → RpAll g hm (badA fx oa₁) s₁.heap vals args → wpAny (model g.prog g.w) fx.A (call (.ref (g.fn f)) vals) Q E s₁) (herr : ∀ x s', PostX g hm fx oa s rb σ₁ x s' → E x s') :
    wpAny (model g.prog g.w) fx.A (eval (.Call (.Name x fp) es [] pos) fx.env) Q E s := by
  show wpAny _ _ (eval (.Name x fp) fx.env >>= fun F => callWith pos F [] (backTo pos (starEach es fx.env)) []) _ _ s
  refine wpAny_bind (name_main G ok I hx (G.fns x f hf) ?_)
  obtain ⟨o, fd, ho, hd⟩ := hfn
  refine callWith_function (o := o) (fd := fd) ?_
  have k : ∀ t, SimAt g hm fx (fun bad h (a : Args) xs => RpAll g hm bad h a.pos xs ∧ a.kw = []) oa σ s t b →
      wpAny (model g.prog g.w) fx.A t (fun x s₁ => (s₁.heap.get? (g.fn f) = some o ∧ o.data = .func fd) ∧ wpAny (model g.prog g.w) fx.A (call (.ref (g.fn f)) ([] ++ x.pos) x.kw) Q E s₁) E s := fun t ht => by
    refine wpAny_mono (ht _ _ e₁) (fun a s₁ p => ?_) fun v s₁ p => herr _ _ p
    obtain ⟨xs', oa₁, q, l₁, I₁, t₁, rr, hkw⟩ := p
    refine ⟨⟨I₁.stays _ _ ho, hd⟩, ?_⟩
    rw [hkw]
    exact hok _ _ _ _ q l₁ t₁ I₁ rr
  cases es with
  | nil =>
    refine k _ ?_
    rw [hb0 rfl]
    exact SimAt.args0 I .nil
  | cons e0 r0 =>
    rw [List.all_cons, Bool.and_eq_true] at hp
    have h1 := ha _ _ _ I
    rw [star_plain hp.1] at h1 ⊢
    exact k _ (SimAt.args h1)
theorem put_own {y : Str} {k : Nat} {a : Addr} {x : V} {sl : Slot} {Q : Unit → Shared → Prop} {E : Value → Shared → Prop} (ok : FxOk g hm fx) (hx : fx.ρ.lookup y = some k) (hnf : fx.env.kindOf y ≠ some .free)
    (I : Inv g hm { fx with Mo := fun b => fx.Mo b ∨ some a = some b } oa σ s) (t : TrX s₀ s) (ha0 : s₀.heap.get? a = none) (hMo : ∀ b, fx.Mo b → Live s₀.heap b) (h0 : g.h0.get? a = none) (rp : Rp g hm (badA { fx with Mo := fun b => fx.Mo b ∨ some a = some b } oa) s.heap true (.ref a) x)
    (so : ∀ bad h, Rp g hm bad h true (.ref a) x → SlotOk g hm bad h (some a) (some (.ref a)) sl)
    (h : ∀ s', Inv g hm fx (upd oa k (some a)) (setSlot k sl σ) s' → TrS fx oa s₀ (upd oa k (some a)) s' → Q () s') : wpAny (model g.prog g.w) fx.A (storeName fx.env y (.ref a)) Q E s := by
  have I' : Inv g hm fx oa σ s := Inv.less (X := fun b => some a = some b) I
  refine store_ok ok hx hnf I' fun h' tk ps => ?_
  obtain ⟨c, hc, hs, _⟩ := ps.addr
  have hown : ownA fx.pl oa c := .inl ⟨k, hc⟩
  have hca : a ≠ c := fun q => (I.new c hown).2.2 (.inr (by rw [q]))
  have hbad : ∀ b, badA fx (upd oa k (some a)) b → badA { fx with Mo := fun b => fx.Mo b ∨ some a = some b } oa b := fun b q => by
    rcases q with q | q | ⟨j, q⟩
    · exact .inl (.inl q)
    · exact .inr (.inl q)
    · unfold upd at q
      split at q
      · exact .inl (.inr q)
      · exact .inr (.inr ⟨j, q⟩)
  have rp' : Rp g hm (badA fx (upd oa k (some a))) h' true (.ref a) x :=
    (rp.keepTop (fun b o e n => .of_eq (hs.extBut b o (fun q => n (.inr (q ▸ hown))) e)) fun o e => hs.extBut a o hca e).anti fun b o _ q => hbad b q
  obtain ⟨I2, t2⟩ := Inv.put (tk := tk) (s₀ := s₀) ok I ps (sl := sl) (so _ _ rp') (fun b q => by cases q; exact ⟨h0, ha0⟩) t hMo
  exact h _ I2 t2
theorem own_store {y : Str} {k : Nat} {v : Value} {sl : Slot} (ok : FxOk g hm fx) (hy : fx.ρ.lookup y = some k ∧ fx.env.kindOf y ≠ some .free) (I₁ : Inv g hm fx oa₁ σ s₁) (I₂ : Inv g hm fx oa₁ σ s₂) (tS : TrS fx oa s oa₁ s₁) (t : TrX s₁ s₂) (rr : ResOk g hm (badA fx oa₁) s₁.heap s₂.heap v sl) :
    wpAny (model g.prog g.w) fx.A (storeName fx.env y v) (fun _ s₃ => wpAny (model g.prog g.w) fx.A (pure Flow.next) (PostS g hm fx (FlOk g hm fx) oa s (.ok Fl.next) (setSlot k sl σ)) (PostXS g hm fx oa s (.ok Fl.next) (setSlot k sl σ)) s₃) (PostXS g hm fx oa s (.ok Fl.next) (setSlot k sl σ)) s₂ := by
  cases rr with
  | v rp =>
    refine wpAny_mono (sim_store ok hy.1 hy.2 I₂ rp _ _ rfl) (fun _ s₃ p => ?_) fun _ _ p => p.no
    refine p.ok fun oa₃ I₃ t₃ _ => ?_
    exact wpAny_pure ⟨.next, oa₃, rfl, I₃, tS.trans ((t.toS (.refl _)).trans t₃), .next⟩
  | @ownL a l hn rp =>
    have hl : Live s₂.heap a := rp.list_elim (C := fun v => ∀ a, v = .ref a → Live s₂.heap a) (fun b o vs n _ ha hc hd hl a q => by cases q; exact ⟨_, ha⟩) a rfl
    have I₃ : Inv g hm { fx with Mo := fun b => fx.Mo b ∨ some a = some b } oa₁ σ s₂ := I₁.moreX t I₂.base (fun b q => by cases q; exact hn) fun b q => by cases q; exact hl
    refine put_own ok hy.1 hy.2 I₃ t hn I₁.mo (none_of (fun c ⟨o, e⟩ => ⟨o, I₁.stays c o e⟩) hn) (rp.anti fun b o _ q => ?_) (fun bad h q => .ownL rfl q) fun s' I' t' => wpAny_pure ⟨.next, _, rfl, I', tS.trans t', .next⟩
    rcases q with (q | q) | q
    · exact .inl (.inl q)
    · cases q; exact .inr rfl
    · exact .inl (.inr q)
theorem sim_ownCall {y x : Str} {py spos fp pos : Pos} {f k : Nat} {es : List Expr} {b : M (List V)} (G : Ground g Δ) (ok : FxOk g hm fx) (ck : CallOk g cf fx.d) (hy : tgtOk fx.ρ fx.env.scope.names (.Name y py) k = true) (hx : glob fx.env.scope.names x = true) (hf : Δ.fns.lookup x = some f) (hp : es.all plainE = true)
    (hfn : ∃ o fd, g.h0.get? (g.fn f) = some o ∧ o.data = .func fd) (ha : SimVs g hm fx (spliced (backTo pos (starEach es fx.env))) b) (hb0 : es = [] → b = M.pure []) :
    SimFs g hm fx (exec (.Assign [.Name y py] (.Call (.Name x fp) es [] pos) spos) fx.env) (M.bind b fun xs => M.bind (callS cf hm f xs) fun sl => M.bind (storeSlot k sl) fun _ => M.pure .next) := fun oa σ s I r σ' e => by
  rw [exec_Assign_Name _ _ _ _ _ (swaps_no rfl)]
  simp only [tgtOk, Bool.and_eq_true, beq_iff_eq, bne_iff_ne] at hy
  refine wpAny_bind (wpAny_standAt (wpAny_bind ?_))
  refine bind_elim e (fun c e₁ => ?_) fun args σ₁ e₁ e₂ => ?_
  · exact fncall_wp G ok hx hf hp hfn ha hb0 I e₁ (fun _ _ _ _ q => by cases q) fun x s' p => (p.cast rfl).toS
  refine fncall_wp G ok hx hf hp hfn ha hb0 I e₁ (fun args' oa₁ s₁ vals q l₁ t₁ I₁ rs => ?_) fun x s' p => p.no
  cases q
  have tS : TrS fx oa s oa₁ s₁ := t₁.toS l₁
  refine bind_elim e₂ (fun c e₃ => ?_) fun sl σ₂ e₃ e₄ => ?_
  · refine wpAny_mono (sim_callS ck ok I₁ rs _ _ e₃) (fun v s' p => p.no) fun v s' p => ?_
    obtain ⟨c', ea, oa₂, q, hh, rfl, l, I₂, t, xx⟩ := p
    cases q
    exact ⟨c, ea, oa₂, rfl, hh, rfl, I₂, tS.trans (t.toS l), xx.le t₁.live⟩
  · have e₅ : some (.ok Fl.next, setSlot k sl σ₂) = some (r, σ') := e₄
    cases e₅
    refine wpAny_mono (sim_callR ck ok I₁ rs e₃) (fun v s₂ p => ?_) fun v s' p => p.elim
    obtain ⟨rfl, I₂, t, rr⟩ := p
    exact wpAny_bind (wpAny_standAt (wpAny_bind (wpAny_bindName (own_store ok hy I₁ I₂ tS t rr))))
theorem needL_elim {δ : Type} {k : Nat} {f : Unit → M δ} {r : Except Nat δ} {C : Prop} (e : M.bind (needL k) f σ = some (r, σ')) (c : ∀ l, getSlot k σ = .ownL l → f () σ = some (r, σ') → C) : C := by
  refine bind_or e (fun c e₀ _ => ?_) fun u σ₀ e₀ e₁ => ?_
  · cases (needL_some e₀).1
  · obtain ⟨_, rfl, l, hl⟩ := needL_some e₀
    exact c l hl e₁
theorem own_elim {k : Nat} {l : List V} {C : Prop} (I : Inv g hm fx oa σ s) (hl : getSlot k σ = .ownL l) (c : ∀ D vs, oa k = some D → PlRead s.heap (fx.pl k) (some (.ref D)) → ListObj s.heap D vs → RpAll g hm (badA fx oa) s.heap vs.toList l → C) : C := by
  obtain ⟨D, vs, h1, h2, h3, h4⟩ := own_list I hl
  exact c D vs h1 h2 h3 h4
@[elab_as_elim] theorem appendVar_elim {k : Nat} {x : V} {r : Except Nat Fl} {C : Except Nat Fl → St → Prop} (e : M.bind (appendVar k x) (fun _ => M.pure .next) σ = some (r, σ')) (c : ∀ l, getSlot k σ = .ownL l → l.length < szLine → C (.ok .next) (setSlot k (.ownL (l ++ [x])) σ)) : C r σ' := by
  have e' : M.bind (fun s => match getSlot k σ with | .ownL l => if l.length < szLine then some (.ok (), setSlot k (.ownL (l ++ [x])) s) else none | _ => none) (fun _ => M.pure Fl.next) σ = some (r, σ') := e
  cases hg : getSlot k σ with
  | ownL l =>
    rw [hg] at e'
    by_cases hs : l.length < szLine
    · have e' : M.bind (fun s => if l.length < szLine then some (.ok (), setSlot k (.ownL (l ++ [x])) s) else none) (fun _ => M.pure Fl.next) σ = some (r, σ') := e'
      simp only [hs, if_true] at e'
      cases e'
      exact c l hg hs
    · have e' : M.bind (fun s => if l.length < szLine then some (.ok (), setSlot k (.ownL (l ++ [x])) s) else none) (fun _ => M.pure Fl.next) σ = some (r, σ') := e'
      simp only [hs, if_false] at e'
      cases e'
  | _ => rw [hg] at e'; cases e'
@[elab_as_elim] theorem setItem_elim {k : Nat} {i x : V} {r : Except Nat Fl} {D : V → Prop} {C : Except Nat Fl → St → Prop} (d : D i) (e : M.bind (setItemVar k i x) (fun _ => M.pure .next) σ = some (r, σ'))
    (c : ∀ l (j : Int), D (.int j) → getSlot k σ = .ownL l → 0 ≤ j ∧ j < l.length ∧ l.length ≤ szLine → C (.ok .next) (setSlot k (.ownL (l.set j.toNat x)) σ)) : C r σ' := by
  have e' : M.bind (fun s => match getSlot k σ, i with | .ownL l, .int j => if 0 ≤ j ∧ j < l.length ∧ l.length ≤ szLine then some (.ok (), setSlot k (.ownL (l.set j.toNat x)) s) else none | _, _ => none) (fun _ => M.pure Fl.next) σ = some (r, σ') := e
  cases hg : getSlot k σ with
  | ownL l =>
    rw [hg] at e'
    cases i with
    | int j =>
      have e' : M.bind (fun s => if 0 ≤ j ∧ j < l.length ∧ l.length ≤ szLine then some (.ok (), setSlot k (.ownL (l.set j.toNat x)) s) else none) (fun _ => M.pure Fl.next) σ = some (r, σ') := e'
      by_cases hs : 0 ≤ j ∧ j < l.length ∧ l.length ≤ szLine
      · simp only [hs, and_self, if_true] at e'
        cases e'
        exact c l j d hg hs
      · simp only [hs, if_false] at e'
        cases e'
    | _ => cases e'
  | _ => rw [hg] at e'; cases e'
theorem change_own {k : Nat} {D : Addr} {l l' : List V} {vs' : Array Value} {oa₀ : Nat → Option Addr} {s₀ : Shared} (I : Inv g hm fx oa σ s) (hoa : oa k = some D) (hl : getSlot k σ = .ownL l) (t : TrS fx oa₀ s₀ oa s) (hs : Heap.SameBut D s.heap h') (hL : ListObj h' D vs')
    (hr : KeepBut (badA fx oa) s.heap h' → RpAll g hm (badA fx oa) h' vs'.toList l') : PostS g hm fx (FlOk g hm fx) oa₀ s₀ (.ok Fl.next) (setSlot k (.ownL l') σ) Flow.next { s with heap := h' } := by
  have hown : badA fx oa D := .inr (.inr ⟨k, hoa⟩)
  have kb : KeepBut (badA fx oa) s.heap h' := fun b o e n => .of_eq (hs.extBut b o (fun q => n (q ▸ hown)) e)
  obtain ⟨I2, t2, _⟩ := I.mutate (tk := s.toks) hoa hl hs hL (l' := l') (hr kb)
  exact ⟨.next, oa, rfl, I2, t.trans t2, .next⟩
theorem args1 {id : String} {e : Expr} {a : M V} (h : SimV g hm false fx (eval e fx.env) a) (I : Inv g hm fx oa σ s) : SimAt g hm fx (fun bad h (a : Args) x => (∃ v, a.pos = [v] ∧ Rp g hm bad h false v x) ∧ a.kw = []) oa σ s (evalArgs (.builtin id) true [(false, eval e fx.env)] []) a := by
  refine fun r' σ'' e' => Calls.evalArgs_plain ?_
  have q : spliced [(false, eval e fx.env)] = (eval e fx.env >>= fun v => holding [v] (pure []) >>= fun vs => pure (v :: vs)) := rfl
  rw [q]
  refine wpAny_bind (wpAny_mono (h _ _ _ I _ _ e') (fun v s₁ p => wpAny_bind (wpAny_holding (wpAny_pure (wpAny_pure ?_)))) fun _ _ z => z)
  obtain ⟨b, oa', e1, l1, I1, t1, rr⟩ := p
  exact ⟨b, oa', e1, l1, I1, t1, ⟨v, rfl, rr⟩, rfl⟩
theorem sim_append {y : Str} {k : Nat} {np apos pos spos : Pos} {e : Expr} {a : M V} (ok : FxOk g hm fx) (hx : fx.ρ.lookup y = some k) (hn : okName y = true) (hp : plainE e = true) (hline : (apos.endLine == pos.line) = true) (h : SimV g hm false fx (eval e fx.env) a) :
    SimFs g hm fx (exec (.Expr (.Call (.Attribute (.Name y np) "append" apos) [e] [] pos) spos) fx.env) (M.bind (needL k) fun _ => M.bind a fun x => M.bind (appendVar k x) fun _ => M.pure .next) := fun oa σ s I r σ' er => by
  refine wpAny_Expr ?_ (by unfold interactive; rw [ok.kind]; rfl) rfl
  refine needL_elim er fun l hl e₁ => own_elim I hl fun D vs hoa pr hL rl => ?_
  refine Exists.elim (id hL) fun o ho => Exists.elim ho fun n ho => ?_
  refine wpAny_Call_method (T := "list") (id := "list.append") (base_simple rfl) ?_ hline PySem.F.plainAttrs_list slot_list_append type_list_append (name_read ok hx hn pr ⟨⟨o, ho.1, ho.2.1⟩, fun a q => by cases q; exact ⟨o, ho.1, ho.2.2.1⟩, ?_⟩)
  · rw [star_plain hp]; rfl
  rw [star_plain hp]
  refine callWith_builtin rfl (?_ : wpAny _ _ (evalArgs (.builtin "list.append") true ((false, eval e fx.env) :: []) []) _ _ _)
  refine SimAt.stepS (args1 h I) e₁ (.refl _ _ _) fun a s₁ x oa₁ σ₁ e₂ l₁ I₁ t₁ ra => ?_
  refine Exists.elim ra.1 fun v hv => ?_
  rw [ra.2, hv.1]
  refine appendVar_elim e₂ fun l₂ hl₂ hsz => own_elim I₁ hl₂ fun D' vs' hoa' pr' hL' rl' => ?_
  cases (Option.some.inj ((l₁ k D' hoa').symm.trans hoa) : D' = D)
  refine append_at hL' (fun h' hL2 hs => ?_) (by have := rl'.length; rw [Array.length_toList] at this; rw [this]; exact sz_le (Nat.le_of_lt hsz))
  refine change_own I₁ hoa' hl₂ (t₁.toS l₁) hs hL2 fun kb => ?_
  rw [Array.toList_push]
  exact (rl'.keep kb).append (.cons (hv.2.keep kb (by intro q; cases q)) .nil)
theorem set_all {vs : Array Value} {l : List V} {j : Nat} {v : Value} {x : V} {bad : Addr → Prop} (r : RpAll g hm bad h vs.toList l) (rx : Rp g hm bad h false v x) : RpAll g hm bad h (vs.setIfInBounds j v).toList (l.set j x) := by
  rw [Array.toList_setIfInBounds]
  generalize vs.toList = ws at r
  induction j generalizing ws l with
  | zero => cases r with
    | nil => exact .nil
    | cons a b => exact .cons rx b
  | succ j ih => cases r with
    | nil => exact .nil
    | cons a b => exact .cons a (ih _ b)
theorem sim_setItem {y : Str} {k : Nat} {np pos spos : Pos} {i e : Expr} {mi me : M V} (ok : FxOk g hm fx) (hx : fx.ρ.lookup y = some k) (hn : okName y = true) (hc : notComp e = true) (he : SimV g hm false fx (eval e fx.env) me) (hi : SimV g hm wk fx (eval i fx.env) mi) :
    SimFs g hm fx (exec (.Assign [.Subscript (.Name y np) i pos] e spos) fx.env) (M.bind me fun x => M.bind (needL k) fun _ => M.bind mi fun j => M.bind (setItemVar k j x) fun _ => M.pure .next) := fun oa σ s I r σ' er => by
  refine wpAny_Assign_Subscript ?_ (swaps_no hc)
  refine SimAt.stepS (he _ _ _ I) er (.refl _ _ _) fun v s₁ x oa₁ σ₁ e₂ l₁ I₁ t₁ rx => ?_
  refine needL_elim e₂ fun l hl e₃ => own_elim I₁ hl fun D vs hoa pr hL rl => ?_
  refine name_read ok hx hn pr ?_
  refine SimAt.stepS (hi _ _ _ I₁) e₃ (t₁.toS l₁) fun vi s₂ j oa₂ σ₂ e₄ l₂ I₂ t₂ rj => ?_
  refine setItem_elim rj e₄ fun l₃ ji rj hl₃ hb => own_elim I₂ hl₃ fun D' vs' hoa' pr' hL' rl' => ?_
  cases (Option.some.inj ((l₂ k D' hoa').symm.trans hoa) : D' = D)
  have len := rl'.length
  rw [Array.length_toList] at len
  refine rj.int_elim fun tj => setItem_at hL' hb.1 (by have := sz63 hb.2.2; omega) (by omega) (fun h' hL2 hs => ?_) (by rw [len]; exact sz_le hb.2.2)
  exact change_own I₂ hoa' hl₃ ((t₁.toS l₁).trans (t₂.toS l₂)) hs hL2 fun kb => set_all (rl'.keep kb) ((rx.on l₂ t₂).keep kb (by intro q; cases q))
end
end Mine
end

noncomputable section
set_option maxRecDepth 100000
namespace Mine
open PySem PySem.Calls PyProof.Rows PySem.W

/-! exceptions: what the program's own classes must give -/
noncomputable def RaiseOk (g : Gl) (c : Nat) : Prop := ∃ (nm q : Str) (N : Addr) (bs bm bmB : List Value) (hdct : Bool) (sn : List Str) (sub : List Value) (ab : Bool) (col : Option Bool) (dd : Option Addr) (k0 k1 k2 k3 k5 : Option Value) (B newId initId : String) (mN : Str → Option Value),
  ExcBaseFacts B newId initId bmB ∧ bm.contains (.type "BaseException") = true ∧ mN "__init__" = none ∧ g.h0.get? (g.cls c) = some (excClassObj nm q (g.cls c) N bs bm hdct sn sub ab col dd k0 k1 k2 k3 k5 newId) ∧ g.h0.Ns N mN ∧ OwnTail g.h0 bmB bm
noncomputable def CatchOk (g : Gl) (c c' : Nat) : Prop := ∀ (A : Around) (E : Value → Shared → Prop) (Q : Bool → Shared → Prop) (s : Shared) (e : Addr) (o : Obj), g.h0.StaysIn s.heap → s.heap.get? e = some o → o.cls = .ref (g.cls c) → Q true s →
  wpAny (model g.prog g.w) A (excMatches (.ref e) (.ref (g.cls c'))) Q E s
noncomputable def IsiOk (g : Gl) (c : Nat) (cv : Value) (b : Bool) : Prop := ∀ (A : Around) (E : Value → Shared → Prop) (Q : Value → Shared → Prop) (s : Shared) (e : Addr) (o : Obj), g.h0.StaysIn s.heap → s.heap.get? e = some o → o.cls = .ref (g.cls c) → o.dict = none → (∃ vs, o.data = .fields vs) →
  (∀ s', Grown s s' → Q (.bool b) s') → wpAny (model g.prog g.w) A (call (.builtin "isinstance") [.ref e, cv]) Q E s
noncomputable def clsVal (g : Gl) (P : Prog) (c : Nat) : Value := if c = P.clss.length then .type "ValueError" else .ref (g.cls c)
structure ExcGround (g : Gl) (P : Prog) : Prop where
  raises : ∀ c, c < P.clss.length → RaiseOk g c
  catches : ∀ c c', c < P.clss.length → c' < P.clss.length → matchesX P c c' = true → CatchOk g c c'
  isi : ∀ c c', c < P.clss.length → c' ≤ P.clss.length → IsiOk g c (clsVal g P c') (matchesX P c c')

section
variable {g : Gl} {hm wk : Bool} {fx : Fx} {oa oa₁ : Nat → Option Addr} {σ σ' σ₁ σ₂ : St} {s s₁ s' s₀ s₂ : Shared} {h h' : Heap} {Δ : Dl} {X : Addr → Prop} {P : Prog} {cf : CallF}

theorem sim_raise {x : Str} {c : Nat} {msg : Str} {kk : Nat} {np mp cpos pos : Pos} (G : Ground g Δ) (ok : FxOk g false fx) (rk : RaiseOk g c) (hx : glob fx.env.scope.names x = true) (hc : Δ.cls.lookup x = some c) :
    SimFs g false fx (exec (.Raise (some (.Call (.Name x np) [.Constant (.str msg) kk mp] [] cpos)) none pos) fx.env) (fun s => some (.error c, s)) := fun oa σ s I r σ' e => by
  cases e
  obtain ⟨nm, q, N, bs, bm, bmB, hdct, sn, sub, ab, col, dd, k0, k1, k2, k3, k5, B, newId, initId, mN, F, hb, hni, hC, hN, hT⟩ := rk
  refine wpAny_Raise_call_subT (C := g.cls c) (nm := nm) (q := q) (N := N) (bs := bs) (bm := bm) (hdct := hdct) (sn := sn) (sub := sub) (ab := ab) (col := col) (dd := dd) (k0 := k0) (k1 := k1) (k2 := k2) (k3 := k3) (k5 := k5) F hb (ok.hand rfl) rfl hni (name_main G ok I hx (G.cls x c hc) ⟨rfl, ?_⟩)
  refine Calls.evalArgs_plain (x := eval (.Constant (.str msg) kk mp) fx.env) (rest := []) (Calls.spliced_cons (wpAny_Constant_str (Calls.spliced_nil ⟨rfl, by show 1 ≤ sizeLine; decide, I.stays _ _ hC, hN.at' fun o e => I.stays _ o e, hT.keeps fun b o e => I.stays b o e, fun h' e hm => ?_⟩)))
  have gr : Grown s { s with heap := h', toks := s.toks + 1 } := ⟨hm.keeps, rfl, rfl⟩
  obtain ⟨t, ht, _, _⟩ := hm.there
  exact ⟨c, e, oa, rfl, rfl, rfl, I.grown gr, gr.trX.toS (.refl _), _, _, ht, rfl, rfl, rfl, hm.new, by show 1 < 6; decide, .inl rfl⟩

theorem Inv.mode {A : Around} (I : Inv g false fx oa σ s) : Inv g true { fx with A := A } oa σ s where
  stays := I.stays
  os := I.os
  gens := I.gens
  frames := I.frames
  fcls := I.fcls
  slot := fun k => by
    obtain ⟨v, r, so⟩ := I.slot k
    refine ⟨v, r, ?_⟩
    show SlotOk g true (badA fx oa) s.heap (oa k) v (getSlot k σ)
    generalize getSlot k σ = sl at so ⊢
    cases so with
    | unset e => exact .unset e
    | v e x => exact .v e (Rp.mode (hm := false) (fun _ => rfl) x)
    | ownL e x => exact .ownL e (Rp.mode (hm := false) (fun _ => rfl) x)
  new := I.new
  inj := I.inj
  off := I.off
  len := I.len
  gl := I.gl
  mo := I.mo
theorem Rp.dataMode {bad : Addr → Prop} {h : Heap} {wk : Bool} {v : Value} {x : V} (r : Rp g true bad h wk v x) : dataV x = true → Rp g false bad h wk v x := by
  refine Rp.rec (motive_1 := fun wk v x _ => dataV x = true → Rp g false bad h wk v x) (motive_2 := fun vs l _ => dataVs l = true → RpAll g false bad h vs l) ?_ ?_ ?_ ?_ ?_ ?_ ?_ ?_ ?_ ?_ r
  · exact fun _ => .none
  · exact fun b _ => .bool b
  · exact fun i t _ => .int i t
  · exact fun t e _ => .str t e
  · exact fun hb ha hc hd _ ih q => .list hb ha hc hd (ih q)
  · exact fun hb ha hc hd _ ih q => .tuple hb ha hc hd (ih q)
  · exact fun hb ha hc hd _ => .dict0 hb ha hc hd
  · exact fun _ _ _ _ _ _ q => nomatch q
  · exact fun _ => .nil
  · exact fun _ _ i1 i2 q => .cons (i1 (and_true_of q).1) (i2 (and_true_of q).2)
theorem not_own {e : Addr} {oe : Obj} {vs : Array Value} (I : Inv g hm fx oa σ s) (he : s.heap.get? e = some oe) (hd : oe.data = .fields vs) : ¬ ownA fx.pl oa e := by
  rintro (⟨j, q⟩ | ⟨j, q⟩)
  · obtain ⟨v, pr, _⟩ := I.slot j
    generalize fx.pl j = p at q pr
    cases p with
    | ns a x => cases q; obtain ⟨m, ⟨o, es, ep, ho, hdd, _⟩, _⟩ := pr; rw [he] at ho; cases ho; rw [hd] at hdd; cases hdd
    | cell c => cases q; obtain ⟨o, ho, hdd⟩ := pr; rw [he] at ho; cases ho; rw [hd] at hdd; cases hdd
    | off => cases q
  · obtain ⟨v, pr, so⟩ := I.slot j
    rw [q] at so
    generalize getSlot j σ = sl at so
    cases so with
    | unset z => cases z
    | v z _ => cases z
    | ownL z rp => cases z; cases rp with | list _ ha _ hdd => rw [he] at ha; cases ha; rw [hd] at hdd; cases hdd
structure FxTop (fx : Fx) : Prop where
  top : ∃ outer L, fx.frs = fx.env :: outer ∧ fx.env.frame = some L
  out : ∀ b ∈ frameAddrs fx.frs.tail, fx.Mo b
theorem FxTop.mo (t : FxTop fx) : FxTop (moreMo fx X) := ⟨t.top, fun b hb => .inl (t.out b hb)⟩
theorem TrS.noted {lo : Heap} {oa' : Nat → Option Addr} (t : TrS fx oa s oa' s₁) (I : Inv g hm fx oa' σ s₁) (n : Noted (frameAddrs fx.frs) lo s₁.heap h') (hlo : ∀ b, Live s.heap b → Live lo b) : TrS fx oa s oa' { s₁ with heap := h' } where
  keep := fun b o e nb => by
    refine (t.keep b o e nb).trans fun o' e' => ?_
    obtain ⟨x, y⟩ := n.low b o' e' (hlo b ⟨o, e⟩)
    exact ⟨x, fun hc => y fun hF => by obtain ⟨o'', e'', c''⟩ := I.fcls b hF; rw [e'] at e''; cases e''; exact hc c''⟩
  live := fun b l => n.live b (t.live b l)
  grow := t.grow
theorem dataFl_elim {fl : Fl} {C : Prop} (h : dataFl fl = true) (k : ∀ x, fl = .ret (.v x) → dataV x = true → C) : C := by
  cases fl with
  | next => cases h
  | ret sl => cases sl with
    | v x => exact k x rfl h
    | _ => cases h
theorem tryM_elim {mb mh : M Fl} {c k : Nat} {r : Except Nat Fl} {σf : St} {C : Prop} (er : tryM P mb c k mh σ = some (r, σf)) (k1 : ∀ fl, mb σ = some (.ok fl, σf) → r = .ok fl → C)
    (k2 : ∀ d σ₁ x σ₃, mb σ = some (.error d, σ₁) → (matchesX P d c = true ∧ d < P.clss.length) → mh (setSlot k (.v (.exc d)) σ₁) = some (.ok (.ret (.v x)), σ₃) → dataV x = true → r = .ok (.ret (.v x)) → σf = setSlot k .unset σ₃ → C) : C := by
  unfold tryM at er
  cases em : mb σ with
  | none => rw [em] at er; cases er
  | some p =>
    obtain ⟨rb, σ₁⟩ := p
    rw [em] at er
    cases rb with
    | ok fl => cases er; exact k1 _ em rfl
    | error d =>
      refine ifo_elim er fun hmx er => ?_
      refine bind_or er (fun c' e₁ _ => nomatch e₁) fun u σ₂ e₁ e₂ => ?_
      cases e₁
      refine bind_or e₂ (fun c' e₃ _ => (noErr_some e₃).elim fun _ q => nomatch q.1) fun fl σ₃ e₃ e₄ => ?_
      refine (noErr_some e₃).elim fun fl' q => ?_
      obtain ⟨q, e₃'⟩ := q
      cases q
      cases hdf : dataFl fl with
      | false => rw [hdf] at e₄; cases e₄
      | true =>
        rw [hdf] at e₄
        refine dataFl_elim hdf fun x q hdx => ?_
        subst q
        cases e₄
        exact k2 d σ₁ x σ₃ em hmx e₃' hdx rfl rfl
theorem try_done {f : Flow} {fl : Fl} {Q : Flow → Shared → Prop} {E : Value → Shared → Prop} (hf : FlOk g false fx oa s.heap f fl) (q : Q f s) : (match (generalizing := false) f with | .next => wpAny (model g.prog g.w) fx.A (execs [] fx.env) Q E s | f => Q f s) := by
  cases hf with
  | next => exact wpAny_execs_nil q
  | retV rp => exact q
  | retL e rp => exact q
theorem frames_but {h h' : Heap} {b : Addr} (hs : Heap.SameBut b h h') : ∀ (fr : List Env), h.FunFrames g.h0 fr → (∀ a ∈ frameAddrs fr, a ≠ b) → h'.FunFrames g.h0 fr
  | [], _, _ => trivial
  | env :: rest, f, n => by
    obtain ⟨hk, ⟨L, o, hf, hn, ho, hd⟩, hr⟩ := f
    have e : frameAddrs (env :: rest) = L :: frameAddrs rest := by unfold frameAddrs; rw [List.filterMap_cons, hf]
    rw [e] at n
    exact ⟨hk, ⟨L, o, hf, hn, hs.extBut L o (n L (.head _)) ho, hd⟩, frames_but hs rest hr fun a ha => n a (.tail _ ha)⟩
theorem local_at {n : Str} {k : Nat} (ok : FxOk g hm fx) (hn : fx.ρ.lookup n = some k) (hnl : fx.env.kindOf n = some .local) : fx.pl k = .ns fx.env.locals n := by
  rcases ok.vis n k hn with ⟨_, hp⟩ | ⟨q, _⟩
  · exact hp
  · rcases q with q | q <;> rw [hnl] at q <;> cases q
theorem try_tail {n : Str} {hpos : Pos} {k : Nat} {A A' : Around} {v : Value} {x : V} {σ₃ σf : St} {Q : Unit → Shared → Prop} {E : Value → Shared → Prop} (ok : FxOk g false fx) (tp : FxTop fx) (hn : fx.ρ.lookup n = some k) (hnl : fx.env.kindOf n = some .local) (hdx : dataV x = true)
    (I : Inv g true { fx with A := A' } oa₁ σ₃ s₁) (B : Base g fx.frs.tail s₁) (t : TrS fx oa s oa₁ s₁) (rp : Rp g true (badA fx oa₁) s₁.heap false v x) (hQ : ∀ s', PostF g false fx oa s (.ok (.ret (.v x))) σf (.ret v) s' → Q () s') :
    wpAny (model g.prog g.w) A (do bindName fx.env n .none; unbindBehindTheSuite fx.env n hpos) Q E s₁ := by
  have hp := local_at ok hn hnl
  refine gen_goal fun Z kZ => ?_
  obtain ⟨u₆, pr, _⟩ := I.slot k
  have pr' : PlRead s₁.heap (fx.pl k) u₆ := pr
  rw [hp] at pr'
  obtain ⟨m₆, hn₆, _⟩ := pr'
  refine kZ (wpAny_nameGoes hnl hn₆ (by rw [ok.kind]; rfl) fun h₇ m₇ hn₇ hs₇ => hQ _ ?_)
  clear kZ hQ
  have hown : ∀ oa', ownA fx.pl oa' fx.env.locals := fun oa' => .inl ⟨k, by rw [hp]; rfl⟩
  have nw := I.new fx.env.locals (hown oa₁)
  have lv : ∀ b, Live s₁.heap b → Live h₇ b := fun b ⟨o, e⟩ => by
    by_cases q : b = fx.env.locals
    · subst q; obtain ⟨o', _, _, e', _⟩ := hn₇; exact ⟨o', e'⟩
    · exact ⟨o, hs₇.extBut b o q e⟩
  have outl : ∀ b ∈ frameAddrs fx.frs.tail, b ≠ fx.env.locals := fun b hb q => nw.2.2 (q ▸ tp.out b hb)
  refine ⟨_, oa₁, rfl, t.trans ⟨fun b o e nb => .of_eq (hs₇.extBut b o (fun q => nb (q ▸ hown oa₁)) e), lv, fun _ _ q => q⟩, .retV ((rp.dataMode hdx).keep (fun b o e nb => .of_eq (hs₇.extBut b o (fun q => nb (q ▸ .inr (hown oa₁))) e)) nofun),
    ⟨fun b o e => hs₇.extBut b o (fun q => ?_) (B.stays b o e), B.os, B.gens, frames_but hs₇ _ B.frames outl, fun b hb => ?_⟩, fun q => q.elim nofun nofun⟩
  · rw [q, nw.2.1] at e; cases e
  · exact (B.fcls b hb).elim fun o p => ⟨o, hs₇.extBut b o (outl b hb) p.1, p.2⟩
theorem try_suite {hbody : List Stmt} {n : Str} {hpos : Pos} {k d : Nat} {A : Around} {mh : M Fl} {x : V} {e : Addr} {σ₁ σ₃ : St} {R : Flow → Shared → Prop} {E E' : Value → Shared → Prop} (ok : FxOk g false fx) (tp : FxTop fx) (hn : fx.ρ.lookup n = some k) (hnl : fx.env.kindOf n = some .local)
    (hh : ∀ A, A.frames = some fx.frs → A.depth + fx.d < 990 → A.units + 4 * fx.d + 100 < cLine → SimFl g true { fx with A := A } (execs hbody fx.env) mh) (hdx : dataV x = true) (em : mh (setSlot k (.v (.exc d)) σ₁) = some (.ok (.ret (.v x)), σ₃))
    (I : Inv g false fx oa σ s) (I₁ : Inv g false fx oa₁ σ₁ s₁) (t₁ : TrS fx oa s oa₁ s₁) (xa : ExcAt s₁.heap s.heap e (.ref (g.cls d)) .none) (hR : ∀ v s₆, (∀ E, wpAny (model g.prog g.w) A (do bindName fx.env n .none; unbindBehindTheSuite fx.env n hpos) (fun _ s' => PostF g false fx oa s (.ok (.ret (.v x))) (setSlot k .unset σ₃) (.ret v) s') E s₆) → R (.ret v) s₆) :
    wpAny (model g.prog g.w) (fx.A.mark (some (.ref e))) (storeName fx.env n (.ref e)) (fun _ s₅ => wpAny (model g.prog g.w) (fx.A.mark (some (.ref e))) (execs hbody fx.env) R E s₅) E' s₁ := by
  refine gen_goal fun Z kZ => ?_
  obtain ⟨oe₄, vs₄, he₄, hcl₄, hdi₄, hdat₄, hnew₄, _⟩ := xa
  have okh : FxOk g true { fx with A := fx.A.mark (some (.ref e)) } := ⟨ok.hA, (fun q => nomatch q), ok.kind, ok.globals, ok.builtins, ok.vis, ok.inj, ok.apart, ok.frame, ok.offs, ok.room, ok.units⟩
  have Ih : Inv g true { fx with A := fx.A.mark (some (.ref e)) } oa₁ σ₁ s₁ := I₁.mode
  have nb : ¬ badA fx oa₁ e := by
    rintro (q | q)
    · obtain ⟨o', e'⟩ := I.mo e q; rw [hnew₄] at e'; cases e'
    · exact not_own I₁ he₄ hdat₄ q
  refine kZ (wpAny_mono (sim_store (fx := { fx with A := fx.A.mark (some (.ref e)) }) okh hn (fun q => by have q : fx.env.kindOf n = some .free := q; rw [hnl] at q; cases q) Ih (.exc rfl nb he₄ hcl₄ hdi₄ ⟨_, hdat₄⟩) _ _ rfl) (fun _ s₅ p => ?_) fun _ _ p => p.no)
  clear kZ
  refine p.ok fun oa₅ I₅ t₅ _ => ?_
  refine wpAny_mono (hh (fx.A.mark (some (.ref e))) ok.hA ok.room ok.units oa₅ _ s₅ I₅ _ _ em) (fun f s₆ p => ?_) fun _ _ p => p.no
  refine p.ok fun oa₆ t₆ hf B₆ I₆ => ?_
  cases hf with
  | retV rp => exact hR _ _ fun E => try_tail ok tp hn hnl hdx (I₆ (.inl rfl)) B₆ (t₁.trans (TrS.trans (fx := fx) ⟨t₅.keep, t₅.live, t₅.grow⟩ ⟨t₆.keep, t₆.live, t₆.grow⟩)) rp fun s' p => p
theorem try_caught {hbody : List Stmt} {C n : Str} {np hpos : Pos} {c k d : Nat} {mh : M Fl} {x : V} {e L : Addr} {outer : List Env} {σ₁ σ₃ : St} (G : Ground g Δ) (eg : ExcGround g P) (ok : FxOk g false fx) (tp : FxTop fx) (hc : c < P.clss.length)
    (hC : glob fx.env.scope.names C = true) (hCl : Δ.cls.lookup C = some c) (hn : fx.ρ.lookup n = some k) (hnl : fx.env.kindOf n = some .local) (hne : hbody ≠ [])
    (hh : ∀ A, A.frames = some fx.frs → A.depth + fx.d < 990 → A.units + 4 * fx.d + 100 < cLine → SimFl g true { fx with A := A } (execs hbody fx.env) mh)
    (hmx : matchesX P d c = true ∧ d < P.clss.length) (hdx : dataV x = true) (em : mh (setSlot k (.v (.exc d)) σ₁) = some (.ok (.ret (.v x)), σ₃)) (hfrs : fx.frs = fx.env :: outer) (hL : fx.env.frame = some L)
    (I : Inv g false fx oa σ s) (I₁ : Inv g false fx oa₁ σ₁ s₁) (t₁ : TrS fx oa s oa₁ s₁) (xa : ExcAt s₁.heap s.heap e (.ref (g.cls d)) .none) :
    wpAny (model g.prog g.w) fx.A (noteFrame (.ref e) fx.env) (fun _ s₂ => wpAny (model g.prog g.w) fx.A (setFlight (.ref e) none) (fun _ s₃ => wpAny (model g.prog g.w) fx.A (handleBy (.ref e) fx.env [.ExceptHandler (some (.Name C np)) (some n) hbody hpos])
      (PostF g false fx oa s (.ok (.ret (.v x))) (setSlot k .unset σ₃)) (PostXS g false fx oa s (.ok (Fl.ret (.v x))) (setSlot k .unset σ₃)) s₃) (PostXS g false fx oa s (.ok (Fl.ret (.v x))) (setSlot k .unset σ₃)) s₂) (PostXS g false fx oa s (.ok (Fl.ret (.v x))) (setSlot k .unset σ₃)) s₁ := by
  have hlo : ∀ b, Live g.h0 b → Live s.heap b := fun b ⟨o, e⟩ => ⟨o, I.stays b o e⟩
  have frm : s₁.heap.FunFrames g.h0 (fx.env :: outer) := hfrs ▸ I₁.frames
  refine note_ok (lo := s.heap) (hfrs ▸ ok.hA) frm hL t₁.live xa fun h₂ n₂ x₂ => ?_
  rw [← hfrs] at n₂
  have I₂ : Inv g false fx oa₁ σ₁ { s₁ with heap := h₂ } := I₁.noted n₂ hlo
  have t₂ : TrS fx oa s oa₁ { s₁ with heap := h₂ } := t₁.noted I₁ n₂ fun _ l => l
  clear xa frm n₂ t₁ I₁ hfrs
  refine flight_ok (s := { s₁ with heap := h₂ }) (F := frameAddrs fx.frs) x₂ fun h₃ n₃ x₃ => ?_
  have I₃ : Inv g false fx oa₁ σ₁ { s₁ with heap := h₃ } := I₂.noted n₃ hlo
  have t₃ : TrS fx oa s oa₁ { s₁ with heap := h₃ } := t₂.noted I₂ n₃ fun _ l => l
  clear x₂ n₃ t₂ I₂
  refine wpAny_handleBy_cons (codeAny_handlers_test ?_) nofun
  unfold glob okName at hC
  simp only [Bool.and_eq_true, Bool.not_eq_true', beq_iff_eq] at hC
  refine Name_function_global ok.kind hC.1 (loadGlobal_global (by rw [ok.globals]; exact stays_ns I₃ G.main) (G.cls C c hCl) ?_) hC.2.1
  refine gen_goal fun Z kZ => ?_
  obtain ⟨oe, vs, he, hcl, _⟩ := id x₃
  refine kZ ?_
  clear kZ
  refine eg.catches d c hmx.2 hc hmx.1 _ _ _ _ e oe I₃.stays he hcl ?_
  cases hbody with
  | nil => exact absurd rfl hne
  | cons b₀ hbody' =>
    show codeAny _ _ _ _ _
    exact codeAny_handlers_suite_as (flight_ok (s := { s₁ with heap := h₃ }) (F := frameAddrs fx.frs) x₃ fun h₄ n₄ x₄ => try_suite ok tp hn hnl hh hdx em I (I₃.noted n₄ hlo) (t₃.noted I₃ n₄ fun _ l => l) x₄ fun _ _ p => p _)
theorem sim_try {body hbody : List Stmt} {C n : Str} {np hpos pos : Pos} {c k : Nat} {mb mh : M Fl} (G : Ground g Δ) (eg : ExcGround g P) (ok : FxOk g false fx) (tp : FxTop fx) (hc : c < P.clss.length)
    (hC : glob fx.env.scope.names C = true) (hCl : Δ.cls.lookup C = some c) (hn : fx.ρ.lookup n = some k) (hnl : fx.env.kindOf n = some .local) (hne : hbody ≠ []) (hb : SimFl g false fx (execs body fx.env) mb)
    (hh : ∀ A, A.frames = some fx.frs → A.depth + fx.d < 990 → A.units + 4 * fx.d + 100 < cLine → SimFl g true { fx with A := A } (execs hbody fx.env) mh) :
    SimFl g false fx (exec (.Try body [.ExceptHandler (some (.Name C np)) (some n) hbody hpos] [] [] pos) fx.env) (tryM P mb c k mh) := fun oa σ s I r σf er => by
  refine gen_goal fun Z kZ => ?_
  obtain ⟨outer, L, hfrs, hL⟩ := tp.top
  refine tryM_elim er (fun fl em er => ?_) fun d σ₁ x σ₃ em hmx e₃' hdx hr hσ => ?_
  · refine kZ (wpAny_Try_except (wpAny_mono (hb _ _ _ I _ _ em) (fun f s₁ p => ?_) fun v s₁ p => p.no))
    exact p.ok fun oa₁ t₁ hf B I₁ => try_done (Q := PostF g false fx oa s r σf) hf ⟨fl, oa₁, er, t₁, hf, B, I₁⟩
  · subst hr hσ
    refine kZ (wpAny_Try_except (wpAny_mono (hb _ _ _ I _ _ em) (fun f s₁ p => p.no) fun v s₁ p => ?_))
    clear kZ
    refine p.err fun e oa₁ _ ev I₁ t₁ xa => ?_
    subst ev
    clear p em
    have hd : d < P.clss.length := hmx.2
    exact try_caught G eg ok tp hc hC hCl hn hnl hne hh hmx hdx e₃' hfrs hL I I₁ t₁ xa
theorem sim_isiOwn {c : Nat} {C : Str} {fp pos pC : Pos} {e : Expr} {a : M V} (G : Ground g Δ) (eg : ExcGround g P) (ok : FxOk g hm fx) (hx : glob fx.env.scope.names "isinstance" = true) (hy : glob fx.env.scope.names C = true) (hp : plainE e = true)
    (hC : (Δ.cls.lookup C = some c ∧ c < P.clss.length) ∨ (C = "ValueError" ∧ c = P.clss.length)) (h : SimV g hm wk fx (eval e fx.env) a) :
    SimV g hm false fx (eval (.Call (.Name "isinstance" fp) [e, .Name C pC] [] pos) fx.env) (M.bind (M.bind a fun x => M.bind (M.pure []) fun xs => M.pure (x :: xs)) fun xs => M.ofOpt (biOp P hm (.isinst (.own c)) xs)) := by
  have nameC : ∀ oa σ s, Inv g hm fx oa σ s → ∀ Q E, Q (clsVal g P c) s → wpAny (model g.prog g.w) fx.A (eval (.Name C pC) fx.env) Q E s := fun oa σ s I Q E q => by
    rcases hC with ⟨h1, h2⟩ | ⟨h1, h2⟩
    · refine name_main G ok I hy (G.cls C c h1) ?_
      unfold clsVal at q; rw [if_neg (by omega)] at q; exact q
    · refine name_blt (v := .type "ValueError") G ok I hy (by rw [h1]; decide) ?_
      unfold clsVal at q; rw [if_pos h2] at q; exact q
  refine sim_callB (R := fun bad h vs xs => ∃ v x wk, vs = [v, clsVal g P c] ∧ xs = [x] ∧ Rp g hm bad h wk v x) (fun oa σ s I Q E q => name_blt (v := .builtin "isinstance") G ok I hx (by decide) q) (.inl ⟨_, rfl⟩) (star_plain hp) rfl (fun oa σ s I => ?_) fun oa σ s vs xs y I rr ey E => ?_
  · rw [star_plain hp]
    have q : spliced (backTo pos ((false, eval e fx.env) :: starEach [.Name C pC] fx.env)) = (eval e fx.env >>= fun v => holding [v] (eval (.Name C pC) fx.env >>= fun u => holding [u] (pure []) >>= fun vs => pure (u :: vs)) >>= fun vs => pure (v :: vs)) := rfl
    rw [q]
    refine SimAt.bind (h _ _ _ I) fun v x oa₁ σ₁ s₁ l₁ I₁ t₁ ra => ?_
    refine SimAt.bind (R := fun _ _ a (b : List V) => a = [clsVal g P c] ∧ b = []) (SimAt.holding fun r σ' er => ?_) fun vs xs oa₂ σ₂ s₂ l₂ I₂ t₂ rs => SimAt.pure I₂ ⟨v, x, wk, by rw [rs.1], by rw [rs.2], ra.on l₂ t₂⟩
    obtain ⟨rfl, rfl⟩ := pure_some er
    exact wpAny_bind (nameC _ _ _ I₁ _ _ (wpAny_bind (wpAny_holding (wpAny_pure (wpAny_pure ⟨[], oa₁, rfl, .refl _, I₁, .refl _, rfl, rfl⟩)))))
  · obtain ⟨v, x, wk, rfl, rfl, r⟩ := rr
    refine map_elim (C := fun y => wpAny (model g.prog g.w) fx.A (call (.builtin "isinstance") [v, clsVal g P c]) (Gives1 g hm (badA fx oa) s y) E s) ey fun b hb' => ?_
    cases r with
    | exc hh hb ha hc hx hy => exact if_elim hb' fun q => eg.isi _ c q.1 q.2 _ _ _ s _ _ I.stays ha hc hx hy fun s' gr => ⟨gr, .bool _⟩
    | _ => cases hb'
end
end Mine
end

noncomputable section
set_option maxRecDepth 100000
namespace Mine
open PySem PySem.Calls PyProof.Rows PySem.W

/-! the check that a term is a given text -/
structure Kx where
  Δ : Dl
  P : Prog
structure Sx where
  sc : List (Str × NameKind)
  ρ : List (Str × Nat)
  nf : Nat
  ns : Nat
noncomputable def tgtNames : Expr → Option (List Str)
  | .Name x _ => some [x]
  | .Tuple es _ _ => es.mapM fun | .Name x _ => some x | _ => none
  | _ => none
noncomputable def tgtShape (nf : Nat) : Tgt → List Str → Bool
  | .one k, xs => k == nf && xs.length == 1
  | .many ks, xs => ks == List.range' nf xs.length
noncomputable def compChk (x : Sx) (scope : Scope) (xs : List Str) : Bool :=
  scope.kind == .function && xs.all (fun n => scope.names.lookup n == some .local) && decide xs.Nodup && !xs.isEmpty && scope.names.all (fun p => p.2 != .cell) &&
  scope.names.all (fun p => p.2 != .local || scope.names.lookup p.1 == some .local) && scope.names.all (fun p => p.2 != .free || ((x.sc.lookup p.1 == some .cell || x.sc.lookup p.1 == some .free) && (x.ρ.lookup p.1).isSome)) && decide (x.nf + xs.length ≤ x.ns)
noncomputable def Sx.comp (x : Sx) (scope : Scope) (xs : List Str) : Sx := ⟨relab x.sc scope.names, compρ x.ρ scope.names x.nf xs, x.nf + xs.length, x.ns⟩
noncomputable def litIs (Δ : Dl) (n : Str) : V → Bool
  | .int i => match Δ.cons.lookup n with | some (.int j) => i == j | _ => false
  | .str s => match Δ.cons.lookup n with | some (.str t) => s == t | _ => false
  | _ => false
noncomputable def revStep : Expr → Bool
  | .UnaryOp .USub (.Constant (.int 1) _ _) _ => true
  | _ => false
noncomputable def ownName (K : Kx) (C : Str) (c : Nat) : Bool := (K.Δ.cls.lookup C == some c && decide (c < K.P.clss.length)) || (C == ("ValueError" : Str) && c == K.P.clss.length)

/-! looks at a text: each takes one form -/
noncomputable def vName (x : Expr) : Option (Str × Pos) := if h : x.ctorIdx = 23 then some (Expr.Name.elim (motive_1 := fun _ => Str × Pos) x h fun n p => (n, p)) else none
theorem lName {x : Expr} {f : Str × Pos → Bool} {C : Expr → Prop} (h : (vName x).any f = true) (k : ∀ n p, f (n, p) = true → C (.Name n p)) : C x :=
  if hi : x.ctorIdx = 23 then Expr.Name.elim (motive_1 := fun x => (vName x).any f = true → C x) x hi (fun n p h => k n p h) h else by
    unfold vName at h; rw [dif_neg hi] at h; cases h
noncomputable def vConst (x : Expr) : Option (Const × Nat × Pos) := if h : x.ctorIdx = 19 then some (Expr.Constant.elim (motive_1 := fun _ => Const × Nat × Pos) x h fun c k p => (c, k, p)) else none
theorem lConst {x : Expr} {f : Const × Nat × Pos → Bool} {C : Expr → Prop} (h : (vConst x).any f = true) (k : ∀ c k p, f (c, k, p) = true → C (.Constant c k p)) : C x :=
  if hi : x.ctorIdx = 19 then Expr.Constant.elim (motive_1 := fun x => (vConst x).any f = true → C x) x hi (fun c j p h => k c j p h) h else by
    unfold vConst at h; rw [dif_neg hi] at h; cases h
noncomputable def vBin (x : Expr) : Option (Expr × Operator × Expr × Pos) := if h : x.ctorIdx = 2 then some (Expr.BinOp.elim (motive_1 := fun _ => Expr × Operator × Expr × Pos) x h fun l o r p => (l, o, r, p)) else none
theorem lBin {x : Expr} {f : Expr × Operator × Expr × Pos → Bool} {C : Expr → Prop} (h : (vBin x).any f = true) (k : ∀ l o r p, f (l, o, r, p) = true → C (.BinOp l o r p)) : C x :=
  if hi : x.ctorIdx = 2 then Expr.BinOp.elim (motive_1 := fun x => (vBin x).any f = true → C x) x hi (fun l o r p h => k l o r p h) h else by
    unfold vBin at h; rw [dif_neg hi] at h; cases h
noncomputable def vCmp0 (x : Expr) : Option (Expr × List CmpOp × List Expr × Pos) := if h : x.ctorIdx = 15 then some (Expr.Compare.elim (motive_1 := fun _ => Expr × List CmpOp × List Expr × Pos) x h fun l o r p => (l, o, r, p)) else none
theorem lCmp0 {x : Expr} {f : Expr × List CmpOp × List Expr × Pos → Bool} {C : Expr → Prop} (h : (vCmp0 x).any f = true) (k : ∀ l o r p, f (l, o, r, p) = true → C (.Compare l o r p)) : C x :=
  if hi : x.ctorIdx = 15 then Expr.Compare.elim (motive_1 := fun x => (vCmp0 x).any f = true → C x) x hi (fun l o r p h => k l o r p h) h else by
    unfold vCmp0 at h; rw [dif_neg hi] at h; cases h
noncomputable def vBool (x : Expr) : Option (BoolOp × List Expr × Pos) := if h : x.ctorIdx = 0 then some (Expr.BoolOp.elim (motive_1 := fun _ => BoolOp × List Expr × Pos) x h fun o xs p => (o, xs, p)) else none
theorem lBool {x : Expr} {f : BoolOp × List Expr × Pos → Bool} {C : Expr → Prop} (h : (vBool x).any f = true) (k : ∀ o xs p, f (o, xs, p) = true → C (.BoolOp o xs p)) : C x :=
  if hi : x.ctorIdx = 0 then Expr.BoolOp.elim (motive_1 := fun x => (vBool x).any f = true → C x) x hi (fun o xs p h => k o xs p h) h else by
    unfold vBool at h; rw [dif_neg hi] at h; cases h
noncomputable def vUn (x : Expr) : Option (UnaryOp × Expr × Pos) := if h : x.ctorIdx = 3 then some (Expr.UnaryOp.elim (motive_1 := fun _ => UnaryOp × Expr × Pos) x h fun o y p => (o, y, p)) else none
theorem lUn {x : Expr} {f : UnaryOp × Expr × Pos → Bool} {C : Expr → Prop} (h : (vUn x).any f = true) (k : ∀ o y p, f (o, y, p) = true → C (.UnaryOp o y p)) : C x :=
  if hi : x.ctorIdx = 3 then Expr.UnaryOp.elim (motive_1 := fun x => (vUn x).any f = true → C x) x hi (fun o y p h => k o y p h) h else by
    unfold vUn at h; rw [dif_neg hi] at h; cases h
noncomputable def vIf (x : Expr) : Option (Expr × Expr × Expr × Pos) := if h : x.ctorIdx = 5 then some (Expr.IfExp.elim (motive_1 := fun _ => Expr × Expr × Expr × Pos) x h fun t y z p => (t, y, z, p)) else none
theorem lIf {x : Expr} {f : Expr × Expr × Expr × Pos → Bool} {C : Expr → Prop} (h : (vIf x).any f = true) (k : ∀ t y z p, f (t, y, z, p) = true → C (.IfExp t y z p)) : C x :=
  if hi : x.ctorIdx = 5 then Expr.IfExp.elim (motive_1 := fun x => (vIf x).any f = true → C x) x hi (fun t y z p h => k t y z p h) h else by
    unfold vIf at h; rw [dif_neg hi] at h; cases h
noncomputable def vTup (x : Expr) : Option (List Expr × Nat × Pos) := if h : x.ctorIdx = 25 then some (Expr.Tuple.elim (motive_1 := fun _ => List Expr × Nat × Pos) x h fun xs k p => (xs, k, p)) else none
theorem lTup {x : Expr} {f : List Expr × Nat × Pos → Bool} {C : Expr → Prop} (h : (vTup x).any f = true) (k : ∀ xs k p, f (xs, k, p) = true → C (.Tuple xs k p)) : C x :=
  if hi : x.ctorIdx = 25 then Expr.Tuple.elim (motive_1 := fun x => (vTup x).any f = true → C x) x hi (fun xs j p h => k xs j p h) h else by
    unfold vTup at h; rw [dif_neg hi] at h; cases h
noncomputable def vLst (x : Expr) : Option (List Expr × Pos) := if h : x.ctorIdx = 24 then some (Expr.List.elim (motive_1 := fun _ => List Expr × Pos) x h fun xs p => (xs, p)) else none
theorem lLst {x : Expr} {f : List Expr × Pos → Bool} {C : Expr → Prop} (h : (vLst x).any f = true) (k : ∀ xs p, f (xs, p) = true → C (.List xs p)) : C x :=
  if hi : x.ctorIdx = 24 then Expr.List.elim (motive_1 := fun x => (vLst x).any f = true → C x) x hi (fun xs p h => k xs p h) h else by
    unfold vLst at h; rw [dif_neg hi] at h; cases h
noncomputable def vSub (x : Expr) : Option (Expr × Expr × Pos) := if h : x.ctorIdx = 21 then some (Expr.Subscript.elim (motive_1 := fun _ => Expr × Expr × Pos) x h fun v s p => (v, s, p)) else none
theorem lSub {x : Expr} {f : Expr × Expr × Pos → Bool} {C : Expr → Prop} (h : (vSub x).any f = true) (k : ∀ v s p, f (v, s, p) = true → C (.Subscript v s p)) : C x :=
  if hi : x.ctorIdx = 21 then Expr.Subscript.elim (motive_1 := fun x => (vSub x).any f = true → C x) x hi (fun v s p h => k v s p h) h else by
    unfold vSub at h; rw [dif_neg hi] at h; cases h
noncomputable def vSlc (x : Expr) : Option (Option Expr × Option Expr × Option Expr × Pos) := if h : x.ctorIdx = 26 then some (Expr.Slice.elim (motive_1 := fun _ => Option Expr × Option Expr × Option Expr × Pos) x h fun l u st p => (l, u, st, p)) else none
theorem lSlc {x : Expr} {f : Option Expr × Option Expr × Option Expr × Pos → Bool} {C : Expr → Prop} (h : (vSlc x).any f = true) (k : ∀ l u st p, f (l, u, st, p) = true → C (.Slice l u st p)) : C x :=
  if hi : x.ctorIdx = 26 then Expr.Slice.elim (motive_1 := fun x => (vSlc x).any f = true → C x) x hi (fun l u st p h => k l u st p h) h else by
    unfold vSlc at h; rw [dif_neg hi] at h; cases h
noncomputable def vCall0 (x : Expr) : Option (Expr × List Expr × List Keyword × Pos) := if h : x.ctorIdx = 16 then some (Expr.Call.elim (motive_1 := fun _ => Expr × List Expr × List Keyword × Pos) x h fun u xs ks p => (u, xs, ks, p)) else none
theorem lCall0 {x : Expr} {f : Expr × List Expr × List Keyword × Pos → Bool} {C : Expr → Prop} (h : (vCall0 x).any f = true) (k : ∀ u xs ks p, f (u, xs, ks, p) = true → C (.Call u xs ks p)) : C x :=
  if hi : x.ctorIdx = 16 then Expr.Call.elim (motive_1 := fun x => (vCall0 x).any f = true → C x) x hi (fun u xs ks p h => k u xs ks p h) h else by
    unfold vCall0 at h; rw [dif_neg hi] at h; cases h
noncomputable def vAttr (x : Expr) : Option (Expr × Str × Pos) := if h : x.ctorIdx = 20 then some (Expr.Attribute.elim (motive_1 := fun _ => Expr × Str × Pos) x h fun o n q => (o, n, q)) else none
theorem lAttr {x : Expr} {f : Expr × Str × Pos → Bool} {C : Expr → Prop} (h : (vAttr x).any f = true) (k : ∀ o n q, f (o, n, q) = true → C (.Attribute o n q)) : C x :=
  if hi : x.ctorIdx = 20 then Expr.Attribute.elim (motive_1 := fun x => (vAttr x).any f = true → C x) x hi (fun o n q h => k o n q h) h else by
    unfold vAttr at h; rw [dif_neg hi] at h; cases h
noncomputable def vDict (x : Expr) : Option (List (Option Expr) × List Expr × Pos) := if h : x.ctorIdx = 6 then some (Expr.Dict.elim (motive_1 := fun _ => List (Option Expr) × List Expr × Pos) x h fun ks vs p => (ks, vs, p)) else none
theorem lDict {x : Expr} {f : List (Option Expr) × List Expr × Pos → Bool} {C : Expr → Prop} (h : (vDict x).any f = true) (k : ∀ ks vs p, f (ks, vs, p) = true → C (.Dict ks vs p)) : C x :=
  if hi : x.ctorIdx = 6 then Expr.Dict.elim (motive_1 := fun x => (vDict x).any f = true → C x) x hi (fun ks vs p h => k ks vs p h) h else by
    unfold vDict at h; rw [dif_neg hi] at h; cases h
noncomputable def vComp0 (x : Expr) : Option (Expr × List Comprehension × Scope × Pos) := if h : x.ctorIdx = 8 then some (Expr.ListComp.elim (motive_1 := fun _ => Expr × List Comprehension × Scope × Pos) x h fun y gs sc p => (y, gs, sc, p)) else none
theorem lComp0 {x : Expr} {f : Expr × List Comprehension × Scope × Pos → Bool} {C : Expr → Prop} (h : (vComp0 x).any f = true) (k : ∀ y gs sc p, f (y, gs, sc, p) = true → C (.ListComp y gs sc p)) : C x :=
  if hi : x.ctorIdx = 8 then Expr.ListComp.elim (motive_1 := fun x => (vComp0 x).any f = true → C x) x hi (fun y gs sc p h => k y gs sc p h) h else by
    unfold vComp0 at h; rw [dif_neg hi] at h; cases h
noncomputable def vAsg0 (x : Stmt) : Option (List Expr × Expr × Pos) := if h : x.ctorIdx = 5 then some (Stmt.Assign.elim (motive_2 := fun _ => List Expr × Expr × Pos) x h fun t v p => (t, v, p)) else none
theorem lAsg0 {x : Stmt} {f : List Expr × Expr × Pos → Bool} {C : Stmt → Prop} (h : (vAsg0 x).any f = true) (k : ∀ t v p, f (t, v, p) = true → C (.Assign t v p)) : C x :=
  if hi : x.ctorIdx = 5 then Stmt.Assign.elim (motive_2 := fun x => (vAsg0 x).any f = true → C x) x hi (fun t v p h => k t v p h) h else by
    unfold vAsg0 at h; rw [dif_neg hi] at h; cases h
noncomputable def vExS (x : Stmt) : Option (Expr × Pos) := if h : x.ctorIdx = 24 then some (Stmt.Expr.elim (motive_2 := fun _ => Expr × Pos) x h fun e p => (e, p)) else none
theorem lExS {x : Stmt} {f : Expr × Pos → Bool} {C : Stmt → Prop} (h : (vExS x).any f = true) (k : ∀ e p, f (e, p) = true → C (.Expr e p)) : C x :=
  if hi : x.ctorIdx = 24 then Stmt.Expr.elim (motive_2 := fun x => (vExS x).any f = true → C x) x hi (fun e p h => k e p h) h else by
    unfold vExS at h; rw [dif_neg hi] at h; cases h
noncomputable def vRet0 (x : Stmt) : Option (Option Expr × Pos) := if h : x.ctorIdx = 3 then some (Stmt.Return.elim (motive_2 := fun _ => Option Expr × Pos) x h fun e p => (e, p)) else none
theorem lRet0 {x : Stmt} {f : Option Expr × Pos → Bool} {C : Stmt → Prop} (h : (vRet0 x).any f = true) (k : ∀ e p, f (e, p) = true → C (.Return e p)) : C x :=
  if hi : x.ctorIdx = 3 then Stmt.Return.elim (motive_2 := fun x => (vRet0 x).any f = true → C x) x hi (fun e p h => k e p h) h else by
    unfold vRet0 at h; rw [dif_neg hi] at h; cases h
noncomputable def vIfS (x : Stmt) : Option (Expr × List Stmt × List Stmt × Pos) := if h : x.ctorIdx = 12 then some (Stmt.If.elim (motive_2 := fun _ => Expr × List Stmt × List Stmt × Pos) x h fun t a b p => (t, a, b, p)) else none
theorem lIfS {x : Stmt} {f : Expr × List Stmt × List Stmt × Pos → Bool} {C : Stmt → Prop} (h : (vIfS x).any f = true) (k : ∀ t a b p, f (t, a, b, p) = true → C (.If t a b p)) : C x :=
  if hi : x.ctorIdx = 12 then Stmt.If.elim (motive_2 := fun x => (vIfS x).any f = true → C x) x hi (fun t a b p h => k t a b p h) h else by
    unfold vIfS at h; rw [dif_neg hi] at h; cases h
noncomputable def vFor0 (x : Stmt) : Option (Expr × Expr × List Stmt × List Stmt × Pos) := if h : x.ctorIdx = 9 then some (Stmt.For.elim (motive_2 := fun _ => Expr × Expr × List Stmt × List Stmt × Pos) x h fun T it bd el p => (T, it, bd, el, p)) else none
theorem lFor0 {x : Stmt} {f : Expr × Expr × List Stmt × List Stmt × Pos → Bool} {C : Stmt → Prop} (h : (vFor0 x).any f = true) (k : ∀ T it bd el p, f (T, it, bd, el, p) = true → C (.For T it bd el p)) : C x :=
  if hi : x.ctorIdx = 9 then Stmt.For.elim (motive_2 := fun x => (vFor0 x).any f = true → C x) x hi (fun T it bd el p h => k T it bd el p h) h else by
    unfold vFor0 at h; rw [dif_neg hi] at h; cases h
noncomputable def vRai0 (x : Stmt) : Option (Option Expr × Option Expr × Pos) := if h : x.ctorIdx = 16 then some (Stmt.Raise.elim (motive_2 := fun _ => Option Expr × Option Expr × Pos) x h fun e c p => (e, c, p)) else none
theorem lRai0 {x : Stmt} {f : Option Expr × Option Expr × Pos → Bool} {C : Stmt → Prop} (h : (vRai0 x).any f = true) (k : ∀ e c p, f (e, c, p) = true → C (.Raise e c p)) : C x :=
  if hi : x.ctorIdx = 16 then Stmt.Raise.elim (motive_2 := fun x => (vRai0 x).any f = true → C x) x hi (fun e c p h => k e c p h) h else by
    unfold vRai0 at h; rw [dif_neg hi] at h; cases h
noncomputable def vTry0 (x : Stmt) : Option (List Stmt × List ExceptHandler × List Stmt × List Stmt × Pos) := if h : x.ctorIdx = 17 then some (Stmt.Try.elim (motive_2 := fun _ => List Stmt × List ExceptHandler × List Stmt × List Stmt × Pos) x h fun bd hs el fi p => (bd, hs, el, fi, p)) else none
theorem lTry0 {x : Stmt} {f : List Stmt × List ExceptHandler × List Stmt × List Stmt × Pos → Bool} {C : Stmt → Prop} (h : (vTry0 x).any f = true) (k : ∀ bd hs el fi p, f (bd, hs, el, fi, p) = true → C (.Try bd hs el fi p)) : C x :=
  if hi : x.ctorIdx = 17 then Stmt.Try.elim (motive_2 := fun x => (vTry0 x).any f = true → C x) x hi (fun bd hs el fi p h => k bd hs el fi p h) h else by
    unfold vTry0 at h; rw [dif_neg hi] at h; cases h
noncomputable def vPass (x : Stmt) : Option (Pos) := if h : x.ctorIdx = 25 then some (Stmt.Pass.elim (motive_2 := fun _ => Pos) x h fun p => (p)) else none
theorem lPass {x : Stmt} {f : Pos → Bool} {C : Stmt → Prop} (h : (vPass x).any f = true) (k : ∀ p, f (p) = true → C (.Pass p)) : C x :=
  if hi : x.ctorIdx = 25 then Stmt.Pass.elim (motive_2 := fun x => (vPass x).any f = true → C x) x hi (fun p h => k p h) h else by
    unfold vPass at h; rw [dif_neg hi] at h; cases h
theorem any_bind {α β : Type} {x : Option α} {g : α → Option β} {f : β → Bool} : (x.bind g).any f = x.any fun a => (g a).any f := by cases x <;> rfl
noncomputable def sole {α : Type} : List α → Option α
  | [y] => some y
  | _ => none
theorem l1 {α : Type} {xs : List α} {f : α → Bool} {C : List α → Prop} (h : (sole xs).any f = true) (k : ∀ y, f y = true → C [y]) : C xs := by
  match xs, h with
  | [], h => cases h
  | [y], h => exact k y h
  | _ :: _ :: _, h => cases h
theorem lo {α : Type} {x : Option α} {f : α → Bool} {C : Option α → Prop} (h : x.any f = true) (k : ∀ y, f y = true → C (some y)) : C x := by
  cases x with
  | none => cases h
  | some y => exact k y h
theorem ln {α : Type} {xs : List α} {C : List α → Prop} (h : xs.isEmpty = true) (k : C []) : C xs := by
  cases xs with
  | nil => exact k
  | cons => cases h
noncomputable def vCmp (x : Expr) : Option (Expr × CmpOp × Expr × Pos) := (vCmp0 x).bind fun q => (sole q.2.1).bind fun o => (sole q.2.2.1).map fun r => (q.1, o, r, q.2.2.2)
theorem lCmp {x : Expr} {f : Expr × CmpOp × Expr × Pos → Bool} {C : Expr → Prop} (h : (vCmp x).any f = true) (k : ∀ l o r p, f (l, o, r, p) = true → C (.Compare l [o] [r] p)) : C x := by
  unfold vCmp at h
  rw [any_bind] at h
  refine lCmp0 h fun l os rs p h => ?_
  rw [any_bind] at h
  refine l1 (C := fun os => C (.Compare l os rs p)) h fun o h => ?_
  rw [Option.any_map] at h
  exact l1 (C := fun rs => C (.Compare l [o] rs p)) h fun r h => k l o r p h
noncomputable def vCall (x : Expr) : Option (Str × Pos × List Expr × Pos) := (vCall0 x).bind fun q => if q.2.2.1.isEmpty then (vName q.1).map fun n => (n.1, n.2, q.2.1, q.2.2.2) else none
theorem any_if {α : Type} {b : Bool} {x : Option α} {f : α → Bool} (h : (if b = true then x else none).any f = true) : b = true ∧ x.any f = true := by
  cases b with
  | true => exact ⟨rfl, h⟩
  | false => cases h
theorem lCall {x : Expr} {f : Str × Pos × List Expr × Pos → Bool} {C : Expr → Prop} (h : (vCall x).any f = true) (k : ∀ n q xs p, f (n, q, xs, p) = true → C (.Call (.Name n q) xs [] p)) : C x := by
  unfold vCall at h
  rw [any_bind] at h
  refine lCall0 h fun u xs ks p h => ?_
  have h := any_if h
  rw [Option.any_map] at h
  exact ln (C := fun ks => C (.Call u xs ks p)) h.1 (lName (C := fun u => C (.Call u xs [] p)) h.2 fun n q h => k n q xs p h)
noncomputable def vMet (x : Expr) : Option (Expr × Str × Pos × Expr × Pos) := (vCall0 x).bind fun q => if q.2.2.1.isEmpty then (vAttr q.1).bind fun n => (sole q.2.1).map fun y => (n.1, n.2.1, n.2.2, y, q.2.2.2) else none
theorem lMet {x : Expr} {f : Expr × Str × Pos × Expr × Pos → Bool} {C : Expr → Prop} (h : (vMet x).any f = true) (k : ∀ o n q y p, f (o, n, q, y, p) = true → C (.Call (.Attribute o n q) [y] [] p)) : C x := by
  unfold vMet at h
  rw [any_bind] at h
  refine lCall0 h fun u xs ks p h => ?_
  have h := any_if h
  rw [any_bind] at h
  refine ln (C := fun ks => C (.Call u xs ks p)) h.1 (lAttr (C := fun u => C (.Call u xs [] p)) h.2 fun o n q h => ?_)
  rw [Option.any_map] at h
  exact l1 (C := fun xs => C (.Call (.Attribute o n q) xs [] p)) h fun y h => k o n q y p h
noncomputable def vComp (x : Expr) : Option (Expr × Expr × Expr × List Expr × Scope × Pos) := (vComp0 x).bind fun q => (sole q.2.1).bind fun c => if c.is_async = 0 then some (q.1, c.target, c.iter, c.ifs, q.2.2.1, q.2.2.2) else none
theorem lComp {x : Expr} {f : Expr × Expr × Expr × List Expr × Scope × Pos → Bool} {C : Expr → Prop} (h : (vComp x).any f = true) (k : ∀ y T it ifs sc p, f (y, T, it, ifs, sc, p) = true → C (.ListComp y [⟨T, it, ifs, 0⟩] sc p)) : C x := by
  unfold vComp at h
  rw [any_bind] at h
  refine lComp0 h fun y gs sc p h => ?_
  rw [any_bind] at h
  refine l1 (C := fun gs => C (.ListComp y gs sc p)) h fun c h => ?_
  obtain ⟨T, it, ifs, n⟩ := c
  have h : ((if n = 0 then some (y, T, it, ifs, sc, p) else none).any f) = true := h
  by_cases hn : n = 0
  · subst hn; exact k y T it ifs sc p h
  · rw [if_neg hn] at h; cases h
noncomputable def vDict0 (x : Expr) : Bool := (vDict x).any fun q => q.1.isEmpty && q.2.1.isEmpty
noncomputable def tyChk (K : Kx) (C : Str) : Ty → Bool
  | .own c => ownName K C c
  | t => tyName t == some C
noncomputable def two? : List Expr → Option (Expr × Expr)
  | [y, z] => some (y, z)
  | _ => none
theorem l2 {xs : List Expr} {f : Expr × Expr → Bool} {C : List Expr → Prop} (h : (two? xs).any f = true) (k : ∀ y z, f (y, z) = true → C [y, z]) : C xs := by
  unfold two? at h
  split at h
  · exact k _ _ h
  · cases h
noncomputable def uncons? : List Expr → Option (Expr × List Expr)
  | y :: r => some (y, r)
  | [] => none
theorem lc {xs : List Expr} {f : Expr × List Expr → Bool} {C : List Expr → Prop} (h : (uncons? xs).any f = true) (k : ∀ y r, f (y, r) = true → C (y :: r)) : C xs := by
  cases xs with
  | nil => cases h
  | cons y r => exact k y r h
noncomputable def isLenSet : Bi → Bool
  | .lenSet => true
  | _ => false
noncomputable def tyOf : Bi → Option Ty
  | .isinst t => some t
  | _ => none

mutual
noncomputable def chkE (K : Kx) (X : Sx) : E → Expr → Bool
  | .lit v, x => (vConst x).any (fun q => constIs q.1 v) || (vName x).any fun q => glob X.sc q.1 && litIs K.Δ q.1 v
  | .var k, x => (vName x).any fun q => X.ρ.lookup q.1 == some k && okName q.1
  | .bor k, x => (vName x).any fun q => X.ρ.lookup q.1 == some k && okName q.1
  | .bin op a b, x => (vBin x).any fun q => decide (q.2.1 = op.op) && chkE K X a q.1 && chkE K X b q.2.2.1
  | .cmp op a b, x => (vCmp x).any fun q => decide (q.2.1 = op.op) && notSet q.2.2.1 && chkE K X a q.1 && chkE K X b q.2.2.1
  | .and es, x => (vBool x).any fun q => decide (q.1 = .And) && chkEs K X es q.2.1 && !es.isEmpty
  | .or es, x => (vBool x).any fun q => decide (q.1 = .Or) && chkEs K X es q.2.1 && !es.isEmpty
  | .not a, x => (vUn x).any fun q => decide (q.1 = .Not) && chkE K X a q.2.1
  | .ite c a b, x => (vIf x).any fun q => chkE K X c q.1 && chkE K X a q.2.1 && chkE K X b q.2.2.1 && !isBor a && !isBor b
  | .tuple es, x => (vTup x).any fun q => chkEs K X es q.1
  | .list es, x => (vLst x).any fun q => chkEs K X es q.1
  | .dict0, x => vDict0 x
  | .sub a i, x => (vSub x).any fun q => chkE K X a q.1 && chkE K X i q.2.1
  | .slice a lo hi, x => (vSub x).any fun q => (vSlc q.2.1).any fun r => r.2.2.1.isNone && chkE K X a q.1 && chkO K X lo r.1 && chkO K X hi r.2.1
  | .rev a, x => (vSub x).any fun q => (vSlc q.2.1).any fun r => r.1.isNone && r.2.1.isNone && r.2.2.1.any revStep && chkE K X a q.1
  | .call f es, x => (vCall x).any fun q => glob X.sc q.1 && K.Δ.fns.lookup q.1 == some f && decide (f < K.P.fns.length) && chkEs K X es q.2.2.1
  | .bi b es, x => (match es with
    | [e] => (vCall x).any fun q =>
      if isLenSet b then (sole q.2.2.1).any fun y => q.1 == ("len" : Str) && glob X.sc "len" && (vCall y).any fun r => (sole r.2.2.1).any fun z => r.1 == ("set" : Str) && glob X.sc "set" && plainE z && chkE K X e z
      else match tyOf b with
        | some t => (two? q.2.2.1).any fun y => q.1 == ("isinstance" : Str) && glob X.sc "isinstance" && plainE y.1 && chkE K X e y.1 && (vName y.2).any fun r => glob X.sc r.1 && tyChk K r.1 t
        | none => (sole q.2.2.1).any fun y => b.fn == some q.1 && glob X.sc q.1 && plainE y && chkE K X e y
    | _ => false)
  | .met b o es, x => (match es with
    | [e] => (vMet x).any fun q => b.meth == some q.2.1 && simpleE q.1 && plainE q.2.2.2.1 && q.2.2.1.endLine == q.2.2.2.2.line && chkE K X o q.1 && chkE K X e q.2.2.2.1
    | _ => false)
  | .comp elt t src ifs, x => (vComp x).any fun q => (tgtNames q.2.1).any fun xs =>
      compChk X q.2.2.2.2.1 xs && tgtShape X.nf t xs && notSet q.2.2.1 && tgtChk (X.comp q.2.2.2.2.1 xs).ρ (X.comp q.2.2.2.2.1 xs).sc q.2.1 t && chkSrc K X src q.2.1 q.2.2.1 && chkE K (X.comp q.2.2.2.2.1 xs) elt q.1 && !isBor elt && chkIfs K (X.comp q.2.2.2.2.1 xs) ifs q.2.2.2.1
noncomputable def chkEs (K : Kx) (X : Sx) : List E → List Expr → Bool
  | [], xs => xs.isEmpty
  | e :: es, xs => (uncons? xs).any fun q => chkE K X e q.1 && !isBor e && plainE q.1 && chkEs K X es q.2
noncomputable def chkO (K : Kx) (X : Sx) : Option E → Option Expr → Bool
  | none, x => x.isNone
  | some e, x => x.any fun y => chkE K X e y
noncomputable def chkIfs (K : Kx) (X : Sx) : List E → List Expr → Bool
  | [], xs => xs.isEmpty
  | e :: es, xs => (uncons? xs).any fun q => chkE K X e q.1 && chkIfs K X es q.2
noncomputable def chkSrc (K : Kx) (X : Sx) : Src → Expr → Expr → Bool
  | .e e, _, x => chkE K X e x
  | .range es, _, x => (vCall x).any fun q => q.1 == ("range" : Str) && glob X.sc "range" && chkEs K X es q.2.2.1 && !es.isEmpty
  | .zip es, T, x => (vTup T).any fun _ => (vCall x).any fun q => q.1 == ("zip" : Str) && glob X.sc "zip" && chkEs K X es q.2.2.1 && !es.isEmpty
end
end Mine
end

noncomputable section
set_option maxRecDepth 100000
namespace Mine
open PySem PySem.Calls PyProof.Rows PySem.W

structure Cx (g : Gl) (P : Prog) (Δ : Dl) : Prop where
  G : Ground g Δ
  eg : ExcGround g P
  fo : ∀ f, f < P.fns.length → ∃ o fd, g.h0.get? (g.fn f) = some o ∧ o.data = .func fd
noncomputable def sxOf (fx : Fx) : Sx := ⟨fx.env.scope.names, fx.ρ, fx.nf, fx.ns⟩

section
variable {g : Gl} {hm : Bool} {P : Prog} {Δ : Dl} {cf : CallF}
noncomputable def Good (g : Gl) (hm : Bool) (P : Prog) (cf : CallF) (fx : Fx) (e : E) (x : Expr) : Prop :=
  SimV g hm (isBor e) fx (eval x fx.env) (ev P cf hm e) ∧ SimBo g hm fx (isTrue x fx.env (eval x fx.env)) (evB P cf hm e (ev P cf hm e))
theorem good_plain {fx : Fx} {e : E} {x : Expr} (hv : SimV g hm (isBor e) fx (eval x fx.env) (ev P cf hm e)) (he : evB P cf hm e (ev P cf hm e) = M.bind (ev P cf hm e) fun x => M.ofOpt (truthV x))
    (hx : isTrue x fx.env (eval x fx.env) = (do let v ← eval x fx.env; standAt x.pos; holding [v] (truthy v))) : Good g hm P cf fx e x := ⟨hv, by rw [he]; exact sim_test hv hx⟩
theorem lit_const {n : Str} {v : V} (h : litIs Δ n v = true) : Δ.cons.lookup n = some v := by
  unfold litIs at h
  split at h
  · split at h
    · rename_i q; rw [q, eq_of_beq h]
    · cases h
  · split at h
    · rename_i q; rw [q, eq_of_beq h]
    · cases h
  · cases h
theorem xs_of_empty {es : List E} (h : (!es.isEmpty) = true) : ∃ e r, es = e :: r := by
  cases es with
  | nil => simp at h
  | cons e r => exact ⟨e, r, rfl⟩

noncomputable def borSrc : Src → Bool
  | .e e => isBor e
  | _ => false
theorem SimSrc.weak {wk : Bool} {fx : Fx} {T iter : Expr} {m : M (List V)} (h : SimSrc g hm wk fx T iter m) : SimSrc g hm true fx T iter m := by
  cases wk with
  | true => exact h
  | false => exact h.toWk
theorem compOk_of {fx : Fx} {scope : Scope} {xs : List Str} (ok : FxOk g hm fx) (h : compChk (sxOf fx) scope xs = true) : CompOk fx scope xs := by
  unfold compChk at h
  simp only [Bool.and_eq_true, beq_iff_eq, List.all_eq_true, decide_eq_true_eq, Bool.not_eq_true', bne_iff_ne, ne_eq, Bool.or_eq_true] at h
  obtain ⟨⟨⟨⟨⟨⟨⟨h1, h2⟩, h3⟩, h4⟩, h5⟩, h6⟩, h7⟩, h8⟩ := h
  have fr : ∀ n, (n, NameKind.free) ∈ scope.names → (fx.env.kindOf n = some .cell ∨ fx.env.kindOf n = some .free) ∧ ∃ k, fx.ρ.lookup n = some k := fun n hn => by
    rcases h7 _ hn with q | ⟨q1, q2⟩
    · exact absurd rfl q
    · exact ⟨q1, Option.isSome_iff_exists.mp q2⟩
  refine ⟨h1, h2, h3, by simpa using h4, h5, fun y hy hl => (h6 y hy).resolve_left fun q => q hl, fun n hn => (fr n hn).1, fun n hn => ?_, h8⟩
  obtain ⟨q, k, hk⟩ := fr n hn
  rcases ok.vis n k hk with ⟨z, _⟩ | ⟨_, c, hc, _⟩
  · rcases q with q | q <;> rw [z] at q <;> cases q
  · exact ⟨c, hc⟩
theorem slots_of {t : Tgt} {xs : List Str} {nf : Nat} (h : tgtShape nf t xs = true) (k : Nat) : k ∈ t.slots ↔ nf ≤ k ∧ k < nf + xs.length := by
  cases t with
  | one j =>
    simp only [tgtShape, Bool.and_eq_true, beq_iff_eq] at h
    simp only [Tgt.slots, List.mem_singleton, h.2]
    omega
  | many ks =>
    simp only [tgtShape, beq_iff_eq] at h
    simp only [Tgt.slots, h, List.mem_range'_1]
theorem sx_comp {fx : Fx} {scope : Scope} {xs : List Str} {C : Addr} {Y : Addr → Prop} (ok : FxOk g hm fx) : (sxOf fx).comp scope xs = sxOf (compFx fx scope C xs Y) := by
  unfold Sx.comp sxOf
  have : (compFx fx scope C xs Y).env.scope.names = relab fx.env.scope.names scope.names := relabel_names ok.kind
  rw [this]
  rfl

theorem strong_of {fx : Fx} {e : E} {t : Sem Value} {m : M V} (h : isBor e = false) (x : SimV g hm (isBor e) fx t m) : SimV g hm false fx t m := by rw [h] at x; exact x
theorem sim_dict0 {fx : Fx} {pos : Pos} : SimV g hm false fx (eval (.Dict [] [] pos) fx.env) (M.pure .dict) := fun oa σ s I r σ' e => by
  obtain ⟨rfl, rfl⟩ := pure_some e
  have gr := Grown.push s { cls := .type "dict", data := .dict #[] } s.toks
  exact wpAny_Dict_empty ⟨_, oa, rfl, .refl _, I.grown gr, gr.trX, .dict0 (.inr (fresh_ok I.badLt)) (Heap.get?_push_size _ rfl) rfl rfl⟩
theorem plains_of : ∀ {es : List E} {xs : List Expr} {K : Kx} {X : Sx}, chkEs K X es xs = true → xs.all plainE = true
  | [], xs, _, _, h => by
    cases xs with
    | nil => rfl
    | cons _ _ => cases h
  | e :: es, xs, _, _, h => by
    refine lc (C := fun xs => xs.all plainE = true) h fun y r h => ?_
    simp only [Bool.and_eq_true] at h
    rw [List.all_cons, h.1.2, plains_of h.2]; rfl
theorem evs_nil_of {es : List E} {xs : List Expr} {K : Kx} {X : Sx} (h : chkEs K X es xs = true) (hx : xs = []) : evs P cf hm es = M.pure [] := by
  subst hx
  cases es with
  | nil => rfl
  | cons e es => cases h
theorem cons_of {es : List E} {xs : List Expr} {K : Kx} {X : Sx} (h : chkEs K X es xs = true) (hn : (!es.isEmpty) = true) : ∃ x r, xs = x :: r ∧ plainE x = true ∧ r.all plainE = true := by
  have hp := plains_of h
  cases es with
  | nil => cases hn
  | cons e es =>
    cases xs with
    | nil => cases h
    | cons x r => rw [List.all_cons, Bool.and_eq_true] at hp; exact ⟨x, r, rfl, hp.1, hp.2⟩
theorem evs_one (e : E) : evs P cf hm [e] = M.bind (ev P cf hm e) fun x => M.bind (M.pure []) fun xs => M.pure (x :: xs) := rfl
theorem own_of {C : Str} {c : Nat} (h : ownName ⟨Δ, P⟩ C c = true) : (Δ.cls.lookup C = some c ∧ c < P.clss.length) ∨ (C = "ValueError" ∧ c = P.clss.length) := by
  unfold ownName at h
  simp only [Bool.or_eq_true, Bool.and_eq_true, beq_iff_eq, decide_eq_true_eq] at h
  exact h
theorem rev_lit {fx : Fx} {st : Expr} (h : revStep st = true) : SimV g hm false fx (eval st fx.env) (M.pure (.int (-1))) := by
  unfold revStep at h
  split at h
  · rename_i k p p'
    have := sim_neg (g := g) (hm := hm) (fx := fx) (pos := p') (wk := false) (x := .Constant (.int 1) k p) (a := M.pure (.int 1)) (fun oa σ s I => sim_lit (by rfl) I)
    exact this
  · cases h

set_option maxHeartbeats 4000000
theorem opt_none {α : Type} {o : Option α} (h : o.isNone = true) : o = none := by cases o <;> first | rfl | cases h
theorem any_get {α : Type} {o : Option α} {f : α → Bool} (h : o.any f = true) : ∃ a, o = some a ∧ f a = true := by
  cases o with
  | none => cases h
  | some a => exact ⟨a, rfl, h⟩
mutual
theorem simE (cx : Cx g P Δ) : ∀ (e : E) (hm : Bool) (X : Sx) (x : Expr) (fx : Fx), FxOk g hm fx → CallOk g cf fx.d → X = sxOf fx → chkE ⟨Δ, P⟩ X e x = true → Good g hm P cf fx e x
  | .lit v, hm, X, x, fx, ok, ck, hX, h => by
    subst hX
    refine ((Bool.or_eq_true _ _).mp h).elim (fun h => ?_) fun h => ?_
    · exact lConst (C := Good g hm P cf fx (.lit v)) h fun c k p h => good_plain (fun oa σ s I => sim_lit h I) rfl rfl
    · refine lName (C := Good g hm P cf fx (.lit v)) h fun n p h => ?_
      rw [Bool.and_eq_true] at h
      exact good_plain (sim_const cx.G ok h.1 (lit_const h.2)) rfl rfl
  | .var k, hm, X, x, fx, ok, ck, hX, h => by
    subst hX
    refine lName (C := Good g hm P cf fx (.var k)) h fun n p h => ?_
    rw [Bool.and_eq_true, beq_iff_eq] at h
    exact good_plain (fun oa σ s I => sim_var ok h.1 h.2 I) rfl rfl
  | .bor k, hm, X, x, fx, ok, ck, hX, h => by
    subst hX
    refine lName (C := Good g hm P cf fx (.bor k)) h fun n p h => ?_
    rw [Bool.and_eq_true, beq_iff_eq] at h
    exact good_plain (fun oa σ s I => sim_bor ok h.1 h.2 I) rfl rfl
  | .bin op a b, hm, X, x, fx, ok, ck, hX, h => by
    subst hX
    refine lBin (C := Good g hm P cf fx (.bin op a b)) h fun l o r p h => ?_
    rw [Bool.and_eq_true, Bool.and_eq_true, decide_eq_true_eq] at h
    obtain ⟨⟨rfl, h1⟩, h2⟩ := h
    exact good_plain (sim_bin (simE cx a _ _ _ fx ok ck rfl h1).1 (simE cx b _ _ _ fx ok ck rfl h2).1) rfl rfl
  | .cmp op a b, hm, X, x, fx, ok, ck, hX, h => by
    subst hX
    refine lCmp (C := Good g hm P cf fx (.cmp op a b)) h fun l o r p h => ?_
    rw [Bool.and_eq_true, Bool.and_eq_true, Bool.and_eq_true, decide_eq_true_eq] at h
    obtain ⟨⟨⟨rfl, hs⟩, h1⟩, h2⟩ := h
    exact ⟨sim_cmp ok hs (simE cx a _ _ _ fx ok ck rfl h1).1 (simE cx b _ _ _ fx ok ck rfl h2).1, sim_test_cmp ok hs (simE cx a _ _ _ fx ok ck rfl h1).1 (simE cx b _ _ _ fx ok ck rfl h2).1⟩
  | .and es, hm, X, x, fx, ok, ck, hX, h => by
    subst hX
    refine lBool (C := Good g hm P cf fx (.and es)) h fun o xs p h => ?_
    rw [Bool.and_eq_true, Bool.and_eq_true, decide_eq_true_eq] at h
    obtain ⟨⟨rfl, h1⟩, h2⟩ := h
    exact ⟨simAnd cx es _ _ _ fx ok ck h1 h2, simAll cx es _ _ fx ok ck h1⟩
  | .or es, hm, X, x, fx, ok, ck, hX, h => by
    subst hX
    refine lBool (C := Good g hm P cf fx (.or es)) h fun o xs p h => ?_
    rw [Bool.and_eq_true, Bool.and_eq_true, decide_eq_true_eq] at h
    obtain ⟨⟨rfl, h1⟩, h2⟩ := h
    exact ⟨simOr cx es _ _ _ fx ok ck h1 h2, simAny cx es _ _ fx ok ck h1⟩
  | .not a, hm, X, x, fx, ok, ck, hX, h => by
    subst hX
    refine lUn (C := Good g hm P cf fx (.not a)) h fun o y p h => ?_
    rw [Bool.and_eq_true, decide_eq_true_eq] at h
    obtain ⟨rfl, h⟩ := h
    exact ⟨sim_not (simE cx a _ _ _ fx ok ck rfl h).1, sim_test_not (simE cx a _ _ _ fx ok ck rfl h).2⟩
  | .ite c a b, hm, X, x, fx, ok, ck, hX, h => by
    subst hX
    refine lIf (C := Good g hm P cf fx (.ite c a b)) h fun t y z p h => ?_
    simp only [Bool.and_eq_true, Bool.not_eq_true'] at h
    obtain ⟨⟨⟨⟨h1, h2⟩, h3⟩, h4⟩, h5⟩ := h
    have g1 := simE cx c _ _ _ fx ok ck rfl h1
    have g2 := simE cx a _ _ _ fx ok ck rfl h2
    have g3 := simE cx b _ _ _ fx ok ck rfl h3
    exact ⟨sim_ite g1.2 (strong_of h4 g2.1) (strong_of h5 g3.1), sim_test_ite g1.2 g2.2 g3.2⟩
  | .tuple es, hm, X, x, fx, ok, ck, hX, h => by
    subst hX
    exact lTup (C := Good g hm P cf fx (.tuple es)) h fun xs k p h => good_plain (sim_tuple (simEs cx es _ _ _ _ fx ok ck rfl h)) rfl rfl
  | .list es, hm, X, x, fx, ok, ck, hX, h => by
    subst hX
    exact lLst (C := Good g hm P cf fx (.list es)) h fun xs p h => good_plain (sim_list (simEs cx es _ _ _ _ fx ok ck rfl h)) rfl rfl
  | .dict0, hm, X, x, fx, ok, ck, hX, h => by
    refine lDict (C := Good g hm P cf fx .dict0) h fun ks vs p h => ?_
    rw [Bool.and_eq_true] at h
    refine ln (C := fun ks => Good g hm P cf fx .dict0 (.Dict ks vs p)) h.1 (ln (C := fun vs => Good g hm P cf fx .dict0 (.Dict [] vs p)) h.2 ?_)
    exact good_plain sim_dict0 rfl rfl
  | .sub a i, hm, X, x, fx, ok, ck, hX, h => by
    subst hX
    refine lSub (C := Good g hm P cf fx (.sub a i)) h fun v s p h => ?_
    rw [Bool.and_eq_true] at h
    exact good_plain (sim_sub (simE cx a _ _ _ fx ok ck rfl h.1).1 (simE cx i _ _ _ fx ok ck rfl h.2).1) rfl rfl
  | .slice a lo hi, hm, X, x, fx, ok, ck, hX, h => by
    subst hX
    refine lSub (C := Good g hm P cf fx (.slice a lo hi)) h fun v s p h => ?_
    refine lSlc (C := fun s => Good g hm P cf fx (.slice a lo hi) (.Subscript v s p)) h fun l u st q h => ?_
    simp only [Bool.and_eq_true] at h
    obtain ⟨⟨⟨h0, h1⟩, h2⟩, h3⟩ := h
    cases opt_none h0
    exact good_plain (sim_slice (simE cx a _ _ _ fx ok ck rfl h1).1 (simO cx lo _ _ _ fx ok ck rfl h2) (simO cx hi _ _ _ fx ok ck rfl h3)) rfl rfl
  | .rev a, hm, X, x, fx, ok, ck, hX, h => by
    subst hX
    refine lSub (C := Good g hm P cf fx (.rev a)) h fun v s p h => ?_
    refine lSlc (C := fun s => Good g hm P cf fx (.rev a) (.Subscript v s p)) h fun l u st q h => ?_
    simp only [Bool.and_eq_true] at h
    obtain ⟨⟨⟨h0, h1⟩, h2⟩, h3⟩ := h
    cases opt_none h0
    cases opt_none h1
    obtain ⟨st', rfl, h2⟩ := any_get h2
    exact good_plain (sim_rev (simE cx a _ _ _ fx ok ck rfl h3).1 (rev_lit h2)) rfl rfl
  | .call f es, hm, X, x, fx, ok, ck, hX, h => by
    subst hX
    refine lCall (C := Good g hm P cf fx (.call f es)) h fun n q xs p h => ?_
    simp only [Bool.and_eq_true, beq_iff_eq, decide_eq_true_eq] at h
    obtain ⟨⟨⟨h1, h2⟩, h3⟩, h4⟩ := h
    exact good_plain (sim_call cx.G ok ck h1 h2 (plains_of h4) (cx.fo f h3) (simEs cx es _ _ _ _ fx ok ck rfl h4) (evs_nil_of h4)) rfl rfl
  | .bi b [e], hm, X, x, fx, ok, ck, hX, h => by
    subst hX
    refine lCall (C := Good g hm P cf fx (.bi b [e])) h fun n q xs p h' => ?_
    clear h
    have h := h'
    clear h'
    by_cases hb : isLenSet b = true
    · rw [if_pos hb] at h
      cases b <;> first | cases hb | skip
      refine l1 (C := fun xs => Good g hm P cf fx (.bi .lenSet [e]) (.Call (.Name n q) xs [] p)) h fun y hy => ?_
      rw [Bool.and_eq_true, Bool.and_eq_true, beq_iff_eq] at hy
      obtain ⟨⟨rfl, h1⟩, hz⟩ := hy
      refine lCall (C := fun y => Good g hm P cf fx (.bi .lenSet [e]) (.Call (.Name "len" q) [y] [] p)) hz fun m q' ys p' hw => ?_
      refine l1 (C := fun ys => Good g hm P cf fx (.bi .lenSet [e]) (.Call (.Name "len" q) [.Call (.Name m q') ys [] p'] [] p)) hw fun z hu => ?_
      simp only [Bool.and_eq_true, beq_iff_eq] at hu
      obtain ⟨⟨⟨rfl, h2⟩, h3⟩, h4⟩ := hu
      exact good_plain (sim_lenSet cx.G ok h1 h2 h3 (simE cx e _ _ _ fx ok ck rfl h4).1) rfl rfl
    · rw [if_neg hb] at h
      cases ht : tyOf b with
      | some t =>
        rw [ht] at h
        cases b <;> first | cases ht | skip
        refine l2 (C := fun xs => Good g hm P cf fx (.bi (.isinst t) [e]) (.Call (.Name n q) xs [] p)) h fun y z h => ?_
        simp only [Bool.and_eq_true, beq_iff_eq] at h
        obtain ⟨⟨⟨⟨rfl, h1⟩, h2⟩, h3⟩, h4⟩ := h
        refine lName (C := fun z => Good g hm P cf fx (.bi (.isinst t) [e]) (.Call (.Name "isinstance" q) [y, z] [] p)) h4 fun T r h4 => ?_
        rw [Bool.and_eq_true] at h4
        cases t with
        | own c => exact good_plain (sim_isiOwn cx.G cx.eg ok h1 h4.1 h2 (own_of h4.2) (simE cx e _ _ _ fx ok ck rfl h3).1) rfl rfl
        | _ => exact good_plain (sim_isi cx.G ok (eq_of_beq h4.2) h1 h4.1 h2 (simE cx e _ _ _ fx ok ck rfl h3).1) rfl rfl
      | none =>
        rw [ht] at h
        refine l1 (C := fun xs => Good g hm P cf fx (.bi b [e]) (.Call (.Name n q) xs [] p)) h fun y h => ?_
        simp only [Bool.and_eq_true, beq_iff_eq] at h
        obtain ⟨⟨⟨h1, h2⟩, h3⟩, h4⟩ := h
        exact good_plain (sim_bi1 cx.G ok h1 h2 h3 (simE cx e _ _ _ fx ok ck rfl h4).1) rfl rfl
  | .bi b [], hm, X, x, fx, ok, ck, hX, h => by cases h
  | .bi b (_ :: _ :: _), hm, X, x, fx, ok, ck, hX, h => by cases h
  | .met b o [e], hm, X, x, fx, ok, ck, hX, h => by
    subst hX
    refine lMet (C := Good g hm P cf fx (.met b o [e])) h fun oy n q y p h => ?_
    simp only [Bool.and_eq_true, beq_iff_eq] at h
    obtain ⟨⟨⟨⟨⟨h1, h2⟩, h3⟩, h4⟩, h5⟩, h6⟩ := h
    exact good_plain (sim_met h1 h2 h3 (by simpa using h4) (simE cx o _ _ _ fx ok ck rfl h5).1 (simE cx e _ _ _ fx ok ck rfl h6).1) rfl rfl
  | .met b o [], hm, X, x, fx, ok, ck, hX, h => by cases h
  | .met b o (_ :: _ :: _), hm, X, x, fx, ok, ck, hX, h => by cases h
  | .comp elt t src ifs, hm, X, x, fx, ok, ck, hX, h => by
    subst hX
    refine lComp (C := Good g hm P cf fx (.comp elt t src ifs)) h fun y T it ifs' sc p h => ?_
    cases hm with
    | true => exact good_plain (fun oa σ s I => SimAt.stuck) rfl rfl
    | false =>
      obtain ⟨xs, hxs, h⟩ := any_get h
      simp only [Bool.and_eq_true, Bool.not_eq_true'] at h
      obtain ⟨⟨⟨⟨⟨⟨⟨h1, h2⟩, h3⟩, h4⟩, h5⟩, h6⟩, h7⟩, h8⟩ := h
      refine good_plain (sim_comp ok (compOk_of ok h1) (slots_of h2) h3 (simSrc cx src _ _ _ fx ok ck rfl h5).weak h4 (fun C Y ok' => ?_) fun C Y ok' => ?_) rfl rfl
      · exact strong_of h7 (simE cx elt _ _ _ (compFx fx _ C xs Y) ok' ck (sx_comp ok) h6).1
      · exact simTests cx ifs _ _ _ (compFx fx _ C xs Y) ok' ck (sx_comp ok) h8
theorem simEs (cx : Cx g P Δ) : ∀ (es : List E) (hm : Bool) (X : Sx) (xs : List Expr) (pos : Pos) (fx : Fx), FxOk g hm fx → CallOk g cf fx.d → X = sxOf fx → chkEs ⟨Δ, P⟩ X es xs = true → SimVs g hm fx (spliced (backTo pos (starEach xs fx.env))) (evs P cf hm es)
  | [], hm, X, xs, pos, fx, ok, ck, hX, h => by
    cases xs with
    | nil => exact sim_items_nil
    | cons _ _ => cases h
  | e :: es, hm, X, xs, pos, fx, ok, ck, hX, h => by
    subst hX
    refine lc (C := fun xs => SimVs g hm fx (spliced (backTo pos (starEach xs fx.env))) (evs P cf hm (e :: es))) h fun y r h => ?_
    simp only [Bool.and_eq_true, Bool.not_eq_true'] at h
    obtain ⟨⟨⟨h1, h2⟩, h3⟩, h4⟩ := h
    exact sim_items_cons (star_plain h3) (h2 ▸ (simE cx e _ _ _ fx ok ck rfl h1).1) (simEs cx es _ _ _ pos fx ok ck rfl h4)
theorem simO (cx : Cx g P Δ) : ∀ (o : Option E) (hm : Bool) (X : Sx) (x : Option Expr) (fx : Fx), FxOk g hm fx → CallOk g cf fx.d → X = sxOf fx → chkO ⟨Δ, P⟩ X o x = true → SimO g hm fx (valueOrNone (evalOpt x fx.env)) (evO P cf hm o)
  | none, hm, X, x, fx, ok, ck, hX, h => by
    cases opt_none h
    exact fun oa σ s I => sim_part_none I
  | some e, hm, X, x, fx, ok, ck, hX, h => by
    subst hX
    obtain ⟨y, rfl, h⟩ := any_get h
    exact sim_part_some (simE cx e _ _ _ fx ok ck rfl h).1
theorem simAnd (cx : Cx g P Δ) : ∀ (es : List E) (hm : Bool) (xs : List Expr) (pos : Pos) (fx : Fx), FxOk g hm fx → CallOk g cf fx.d → chkEs ⟨Δ, P⟩ (sxOf fx) es xs = true → (!es.isEmpty) = true → SimV g hm false fx (boolOp pos .And (evalEach xs fx.env)) (evAnd P cf hm es)
  | [], hm, xs, pos, fx, ok, ck, h, hn => by cases hn
  | [e], hm, xs, pos, fx, ok, ck, h, hn => by
    refine lc (C := fun xs => SimV g hm false fx (boolOp pos .And (evalEach xs fx.env)) (evAnd P cf hm [e])) h fun y r h => ?_
    rw [Bool.and_eq_true, Bool.and_eq_true, Bool.and_eq_true, Bool.not_eq_true'] at h
    obtain ⟨⟨⟨h1, h2⟩, h3⟩, h4⟩ := h
    cases List.isEmpty_iff.mp h4
    exact strong_of h2 (simE cx e _ _ _ fx ok ck rfl h1).1
  | e :: e' :: es, hm, xs, pos, fx, ok, ck, h, hn => by
    refine lc (C := fun xs => SimV g hm false fx (boolOp pos .And (evalEach xs fx.env)) (evAnd P cf hm (e :: e' :: es))) h fun x r h => ?_
    simp only [Bool.and_eq_true, Bool.not_eq_true'] at h
    obtain ⟨⟨⟨h1, h2⟩, h3⟩, h4⟩ := h
    cases r with
    | nil => cases h4
    | cons x' r => exact sim_and_cons (strong_of h2 (simE cx e _ _ _ fx ok ck rfl h1).1) (simAnd cx (e' :: es) _ (x' :: r) pos fx ok ck h4 rfl)
theorem simOr (cx : Cx g P Δ) : ∀ (es : List E) (hm : Bool) (xs : List Expr) (pos : Pos) (fx : Fx), FxOk g hm fx → CallOk g cf fx.d → chkEs ⟨Δ, P⟩ (sxOf fx) es xs = true → (!es.isEmpty) = true → SimV g hm false fx (boolOp pos .Or (evalEach xs fx.env)) (evOr P cf hm es)
  | [], hm, xs, pos, fx, ok, ck, h, hn => by cases hn
  | [e], hm, xs, pos, fx, ok, ck, h, hn => by
    refine lc (C := fun xs => SimV g hm false fx (boolOp pos .Or (evalEach xs fx.env)) (evOr P cf hm [e])) h fun y r h => ?_
    rw [Bool.and_eq_true, Bool.and_eq_true, Bool.and_eq_true, Bool.not_eq_true'] at h
    obtain ⟨⟨⟨h1, h2⟩, h3⟩, h4⟩ := h
    cases List.isEmpty_iff.mp h4
    exact strong_of h2 (simE cx e _ _ _ fx ok ck rfl h1).1
  | e :: e' :: es, hm, xs, pos, fx, ok, ck, h, hn => by
    refine lc (C := fun xs => SimV g hm false fx (boolOp pos .Or (evalEach xs fx.env)) (evOr P cf hm (e :: e' :: es))) h fun x r h => ?_
    simp only [Bool.and_eq_true, Bool.not_eq_true'] at h
    obtain ⟨⟨⟨h1, h2⟩, h3⟩, h4⟩ := h
    cases r with
    | nil => cases h4
    | cons x' r => exact sim_or_cons (strong_of h2 (simE cx e _ _ _ fx ok ck rfl h1).1) (simOr cx (e' :: es) _ (x' :: r) pos fx ok ck h4 rfl)
theorem simAll (cx : Cx g P Δ) : ∀ (es : List E) (hm : Bool) (xs : List Expr) (fx : Fx), FxOk g hm fx → CallOk g cf fx.d → chkEs ⟨Δ, P⟩ (sxOf fx) es xs = true → SimBo g hm fx (allTrue .And xs fx.env) (evIfs P cf hm es)
  | [], hm, xs, fx, ok, ck, h => by
    cases List.isEmpty_iff.mp h
    exact sim_all_nil
  | e :: es, hm, xs, fx, ok, ck, h => by
    refine lc (C := fun xs => SimBo g hm fx (allTrue .And xs fx.env) (evIfs P cf hm (e :: es))) h fun x r h => ?_
    simp only [Bool.and_eq_true, Bool.not_eq_true'] at h
    exact sim_all_cons (simE cx e _ _ _ fx ok ck rfl h.1.1.1).2 (simAll cx es _ _ fx ok ck h.2)
theorem simAny (cx : Cx g P Δ) : ∀ (es : List E) (hm : Bool) (xs : List Expr) (fx : Fx), FxOk g hm fx → CallOk g cf fx.d → chkEs ⟨Δ, P⟩ (sxOf fx) es xs = true → SimBo g hm fx (allTrue .Or xs fx.env) (evAny P cf hm es)
  | [], hm, xs, fx, ok, ck, h => by
    cases List.isEmpty_iff.mp h
    exact sim_any_nil
  | e :: es, hm, xs, fx, ok, ck, h => by
    refine lc (C := fun xs => SimBo g hm fx (allTrue .Or xs fx.env) (evAny P cf hm (e :: es))) h fun x r h => ?_
    simp only [Bool.and_eq_true, Bool.not_eq_true'] at h
    exact sim_any_cons (simE cx e _ _ _ fx ok ck rfl h.1.1.1).2 (simAny cx es _ _ fx ok ck h.2)
theorem simTests (cx : Cx g P Δ) : ∀ (es : List E) (hm : Bool) (X : Sx) (xs : List Expr) (fx : Fx), FxOk g hm fx → CallOk g cf fx.d → X = sxOf fx → chkIfs ⟨Δ, P⟩ X es xs = true → SimBo g hm fx (testsT xs fx.env) (evIfs P cf hm es)
  | [], hm, X, xs, fx, ok, ck, hX, h => by
    cases List.isEmpty_iff.mp h
    exact sim_tests_nil
  | e :: es, hm, X, xs, fx, ok, ck, hX, h => by
    subst hX
    refine lc (C := fun xs => SimBo g hm fx (testsT xs fx.env) (evIfs P cf hm (e :: es))) h fun x r h => ?_
    rw [Bool.and_eq_true] at h
    exact sim_tests_cons (simE cx e _ _ _ fx ok ck rfl h.1).2 (simTests cx es _ _ _ fx ok ck rfl h.2)
theorem simSrc (cx : Cx g P Δ) : ∀ (src : Src) (X : Sx) (T iter : Expr) (fx : Fx), FxOk g false fx → CallOk g cf fx.d → X = sxOf fx → chkSrc ⟨Δ, P⟩ X src T iter = true → SimSrc g false (borSrc src) fx T iter (evSrc P cf false src)
  | .e e, X, T, iter, fx, ok, ck, hX, h => by
    subst hX
    exact src_e (ok.hand rfl) (simE cx e _ _ _ fx ok ck rfl h).1
  | .range es, X, T, iter, fx, ok, ck, hX, h => by
    subst hX
    refine lCall (C := fun x => SimSrc g false false fx T x (evSrc P cf false (.range es))) h fun n q xs p h => ?_
    simp only [Bool.and_eq_true, beq_iff_eq] at h
    obtain ⟨⟨⟨rfl, h1⟩, h2⟩, h3⟩ := h
    obtain ⟨x, r, rfl, hp, hr⟩ := cons_of h2 h3
    rw [show evSrc P cf false (.range es) = M.bind (evs P cf false es) fun xs => M.ofOpt (rangeOp xs) from by
      show M.bind _ _ = _
      congr 1; funext xs; exact range_eq xs]
    exact src_range cx.G ok (ok.hand rfl) h1 hp hr (simEs cx es _ _ _ _ fx ok ck rfl h2)
  | .zip es, X, T, iter, fx, ok, ck, hX, h => by
    subst hX
    refine lTup (C := fun T => SimSrc g false false fx T iter (evSrc P cf false (.zip es))) h fun ts tk tp h => ?_
    refine lCall (C := fun x => SimSrc g false false fx (.Tuple ts tk tp) x (evSrc P cf false (.zip es))) h fun n q xs p h => ?_
    simp only [Bool.and_eq_true, beq_iff_eq] at h
    obtain ⟨⟨⟨rfl, h1⟩, h2⟩, h3⟩ := h
    obtain ⟨x, r, rfl, hp, hr⟩ := cons_of h2 h3
    exact src_zip cx.G ok (ok.hand rfl) h1 hp hr (simEs cx es _ _ _ _ fx ok ck rfl h2)
end
end
end Mine
end

noncomputable section
set_option maxRecDepth 100000
namespace Mine
open PySem PySem.Calls PyProof.Rows PySem.W

noncomputable def isComp (e : E) : Bool := e.ctorIdx == (E.comp .dict0 (.one 0) (.e .dict0) []).ctorIdx
noncomputable def vAsg (x : Stmt) : Option (Str × Pos × Expr × Pos) := (vAsg0 x).bind fun q => (sole q.1).bind fun t => (vName t).map fun n => (n.1, n.2, q.2.1, q.2.2)
theorem lAsg {x : Stmt} {f : Str × Pos × Expr × Pos → Bool} {C : Stmt → Prop} (h : (vAsg x).any f = true) (k : ∀ y q v p, f (y, q, v, p) = true → C (.Assign [.Name y q] v p)) : C x := by
  unfold vAsg at h
  rw [any_bind] at h
  refine lAsg0 h fun ts v p h => ?_
  rw [any_bind] at h
  refine l1 (C := fun ts => C (.Assign ts v p)) h fun t h => ?_
  rw [Option.any_map] at h
  exact lName (C := fun t => C (.Assign [t] v p)) h fun y q h => k y q v p h
noncomputable def vSet (x : Stmt) : Option (Str × Pos × Expr × Pos × Expr × Pos) := (vAsg0 x).bind fun q => (sole q.1).bind fun t => (vSub t).bind fun u => (vName u.1).map fun n => (n.1, n.2, u.2.1, u.2.2, q.2.1, q.2.2)
theorem lSet {x : Stmt} {f : Str × Pos × Expr × Pos × Expr × Pos → Bool} {C : Stmt → Prop} (h : (vSet x).any f = true) (k : ∀ y q i r v p, f (y, q, i, r, v, p) = true → C (.Assign [.Subscript (.Name y q) i r] v p)) : C x := by
  unfold vSet at h
  rw [any_bind] at h
  refine lAsg0 h fun ts v p h => ?_
  rw [any_bind] at h
  refine l1 (C := fun ts => C (.Assign ts v p)) h fun t h => ?_
  rw [any_bind] at h
  refine lSub (C := fun t => C (.Assign [t] v p)) h fun u i r h => ?_
  rw [Option.any_map] at h
  exact lName (C := fun u => C (.Assign [.Subscript u i r] v p)) h fun y q h => k y q i r v p h
noncomputable def vRet (x : Stmt) : Option (Expr × Pos) := (vRet0 x).bind fun q => q.1.map fun e => (e, q.2)
theorem lRet {x : Stmt} {f : Expr × Pos → Bool} {C : Stmt → Prop} (h : (vRet x).any f = true) (k : ∀ e p, f (e, p) = true → C (.Return (some e) p)) : C x := by
  unfold vRet at h
  rw [any_bind] at h
  refine lRet0 h fun e p h => ?_
  rw [Option.any_map] at h
  exact lo (C := fun e => C (.Return e p)) h fun e h => k e p h
noncomputable def vStr (x : Expr) : Option (Str × Nat × Pos) := (vConst x).bind fun q => match q.1 with | .str w => some (w, q.2.1, q.2.2) | _ => none
theorem lStr {x : Expr} {f : Str × Nat × Pos → Bool} {C : Expr → Prop} (h : (vStr x).any f = true) (k : ∀ w j p, f (w, j, p) = true → C (.Constant (.str w) j p)) : C x := by
  unfold vStr at h
  rw [any_bind] at h
  refine lConst h fun c j p h => ?_
  cases c with
  | str w => exact k w j p h
  | _ => cases h
noncomputable def vHd (x : ExceptHandler) : Option (Option Expr × Option Str × List Stmt × Pos) := match x with | .ExceptHandler t n b p => some (t, n, b, p)

mutual
noncomputable def chkS (K : Kx) (X : Sx) : S → Stmt → Bool
  | .assign k e, st => (vAsg st).any fun q => tgtOk X.ρ X.sc (.Name q.1 q.2.1) k && chkE K X e q.2.2.1 && !isBor e && (isComp e || notComp q.2.2.1)
  | .ownL k es, st => (vAsg st).any fun q => (vLst q.2.2.1).any fun l => tgtOk X.ρ X.sc (.Name q.1 q.2.1) k && chkEs K X es l.1
  | .append k e, st => (vExS st).any fun q => (vMet q.1).any fun m => (vName m.1).any fun n => m.2.1 == ("append" : Str) && X.ρ.lookup n.1 == some k && okName n.1 && plainE m.2.2.2.1 && m.2.2.1.endLine == m.2.2.2.2.line && chkE K X e m.2.2.2.1 && !isBor e
  | .setItem k i e, st => (vSet st).any fun q => X.ρ.lookup q.1 == some k && okName q.1 && notComp q.2.2.2.2.1 && chkE K X e q.2.2.2.2.1 && !isBor e && chkE K X i q.2.2.1
  | .ret e, st => (vRet st).any fun q => chkE K X e q.1 && !isBor e
  | .retOwn k, st => (vRet st).any fun q => (vName q.1).any fun n => X.ρ.lookup n.1 == some k && okName n.1
  | .ownCall k f es, st => (vAsg st).any fun q => (vCall q.2.2.1).any fun c => tgtOk X.ρ X.sc (.Name q.1 q.2.1) k && glob X.sc c.1 && K.Δ.fns.lookup c.1 == some f && decide (f < K.P.fns.length) && chkEs K X es c.2.2.1
  | .ite c a b, st => (vIfS st).any fun q => chkE K X c q.1 && chkSs K X a q.2.1 && chkSs K X b q.2.2.1
  | .forS t src body, st => (vFor0 st).any fun q => tgtChk X.ρ X.sc q.1 t && notSet q.2.1 && chkSrc K X src q.1 q.2.1 && !borSrc src && chkSs K X body q.2.2.1 && q.2.2.2.1.isEmpty
  | .raise c _, st => (vRai0 st).any fun q => q.2.1.isNone && q.1.any fun x => (vCall x).any fun r => (sole r.2.2.1).any fun y => (vStr y).any fun _ => glob X.sc r.1 && K.Δ.cls.lookup r.1 == some c && decide (c < K.P.clss.length)
  | .tryS body c k h, st => (vTry0 st).any fun q => q.2.2.1.isEmpty && q.2.2.2.1.isEmpty && (sole q.2.1).any fun e => (vHd e).any fun e => e.1.any fun t => (vName t).any fun C => e.2.1.any fun n =>
      chkSs K X body q.1 && chkSs K X h e.2.2.1 && glob X.sc C.1 && K.Δ.cls.lookup C.1 == some c && decide (c < K.P.clss.length) && X.ρ.lookup n == some k && X.sc.lookup n == some .local && !e.2.2.1.isEmpty
noncomputable def chkSs (K : Kx) (X : Sx) : List S → List Stmt → Bool
  | [], xs => xs.isEmpty
  | s :: r, xs => match xs with | x :: q => chkS K X s x && chkSs K X r q | [] => false
end

section
variable {g : Gl} {P : Prog} {Δ : Dl} {cf : CallF}
theorem assign_comp {hm : Bool} {fx : Fx} {y : Str} {py spos : Pos} {value : Expr} {k : Nat} {el : E} {t : Tgt} {src : Src} {ifs : List E} (cx : Cx g P Δ) (ok : FxOk g hm fx) (ck : CallOk g cf fx.d) (hy : tgtOk fx.ρ fx.env.scope.names (.Name y py) k = true) (h : chkE ⟨Δ, P⟩ (sxOf fx) (.comp el t src ifs) value = true) :
    SimFs g hm fx (exec (.Assign [.Name y py] value spos) fx.env) (M.bind (ev P cf hm (.comp el t src ifs)) fun x => M.bind (storeVar k x) fun _ => M.pure .next) := by
  have h' := h
  refine lComp (C := fun value => chkE ⟨Δ, P⟩ (sxOf fx) (.comp el t src ifs) value = true → SimFs g hm fx (exec (.Assign [.Name y py] value spos) fx.env) (M.bind (ev P cf hm (.comp el t src ifs)) fun x => M.bind (storeVar k x) fun _ => M.pure .next)) h' (fun y' T it ifs' sc p h2 h => ?_) h
  by_cases hsw : swapB fx.env.scope.names sc y py p = true
  · cases hm with
    | true => intro oa σ s I r σ' e; cases e
    | false =>
      obtain ⟨xs, hxs, h⟩ := any_get h2
      simp only [Bool.and_eq_true, Bool.not_eq_true'] at h
      obtain ⟨⟨⟨⟨⟨⟨⟨h1, h2⟩, h3⟩, h4⟩, h5⟩, h6⟩, h7⟩, h8⟩ := h
      exact sim_assign_comp ok (compOk_of ok h1) (slots_of h2) h3 (simSrc cx src _ _ _ fx ok ck rfl h5).weak h4
        (fun C Y ok' => strong_of h7 (simE cx el _ _ _ (compFx fx _ C xs Y) ok' ck (sx_comp ok) h6).1) (fun C Y ok' => simTests cx ifs _ _ _ (compFx fx _ C xs Y) ok' ck (sx_comp ok) h8) hsw hy
  · exact sim_assign ok ((swap_eq ok.kind).trans (by rw [Bool.eq_false_iff.mpr hsw])) hy (simE cx (.comp el t src ifs) hm _ _ fx ok ck rfl h).1

set_option maxHeartbeats 4000000
mutual
theorem simS (cx : Cx g P Δ) : ∀ (s : S) (hm : Bool) (X : Sx) (st : Stmt) (fx : Fx), FxOk g hm fx → FxTop fx → CallOk g cf fx.d → X = sxOf fx → chkS ⟨Δ, P⟩ X s st = true → SimFl g hm fx (exec st fx.env) (ex P cf hm s)
  | .assign k e, hm, X, st, fx, ok, tp, ck, hX, h => by
    subst hX
    refine lAsg (C := fun st => SimFl g hm fx (exec st fx.env) (ex P cf hm (.assign k e))) h fun y q v p h' => ?_
    clear h
    simp only [Bool.and_eq_true, Bool.not_eq_true', Bool.or_eq_true] at h'
    obtain ⟨⟨⟨h1, h2⟩, h3⟩, h4⟩ := h'
    refine h4.elim (fun h4 => ?_) fun h4 => ?_
    · refine E.comp.elim (motive_1 := fun e => chkE ⟨Δ, P⟩ (sxOf fx) e v = true → SimFl g hm fx (exec (.Assign [.Name y q] v p) fx.env) (ex P cf hm (.assign k e))) e (eq_of_beq h4) (fun el t src ifs h2 => ?_) h2
      exact (assign_comp cx ok ck h1 h2).toF
    · exact (sim_assign ok (swaps_no h4) h1 (strong_of h3 (simE cx e hm _ _ fx ok ck rfl h2).1)).toF
  | .ownL k es, hm, X, st, fx, ok, tp, ck, hX, h => by
    subst hX
    refine lAsg (C := fun st => SimFl g hm fx (exec st fx.env) (ex P cf hm (.ownL k es))) h fun y q v p h => ?_
    refine lLst (C := fun v => SimFl g hm fx (exec (.Assign [.Name y q] v p) fx.env) (ex P cf hm (.ownL k es))) h fun xs r h => ?_
    rw [Bool.and_eq_true] at h
    exact (sim_ownL ok h.1 (simEs cx es _ _ _ _ fx ok ck rfl h.2)).toF
  | .append k e, hm, X, st, fx, ok, tp, ck, hX, h => by
    subst hX
    refine lExS (C := fun st => SimFl g hm fx (exec st fx.env) (ex P cf hm (.append k e))) h fun x p h => ?_
    refine lMet (C := fun x => SimFl g hm fx (exec (.Expr x p) fx.env) (ex P cf hm (.append k e))) h fun o n q y r h => ?_
    refine lName (C := fun o => SimFl g hm fx (exec (.Expr (.Call (.Attribute o n q) [y] [] r) p) fx.env) (ex P cf hm (.append k e))) h fun z zp h => ?_
    simp only [Bool.and_eq_true, Bool.not_eq_true', beq_iff_eq] at h
    obtain ⟨⟨⟨⟨⟨⟨rfl, h1⟩, h2⟩, h3⟩, h4⟩, h5⟩, h6⟩ := h
    exact (sim_append ok h1 h2 h3 (by simpa using h4) (strong_of h6 (simE cx e _ _ _ fx ok ck rfl h5).1)).toF
  | .setItem k i e, hm, X, st, fx, ok, tp, ck, hX, h => by
    subst hX
    refine lSet (C := fun st => SimFl g hm fx (exec st fx.env) (ex P cf hm (.setItem k i e))) h fun y q ix r v p h => ?_
    simp only [Bool.and_eq_true, Bool.not_eq_true', beq_iff_eq] at h
    obtain ⟨⟨⟨⟨⟨h1, h2⟩, h3⟩, h4⟩, h5⟩, h6⟩ := h
    exact (sim_setItem ok h1 h2 h3 (strong_of h5 (simE cx e _ _ _ fx ok ck rfl h4).1) (simE cx i _ _ _ fx ok ck rfl h6).1).toF
  | .ret e, hm, X, st, fx, ok, tp, ck, hX, h => by
    subst hX
    refine lRet (C := fun st => SimFl g hm fx (exec st fx.env) (ex P cf hm (.ret e))) h fun x p h => ?_
    rw [Bool.and_eq_true, Bool.not_eq_true'] at h
    exact (sim_ret (strong_of h.2 (simE cx e _ _ _ fx ok ck rfl h.1).1)).toF
  | .retOwn k, hm, X, st, fx, ok, tp, ck, hX, h => by
    subst hX
    refine lRet (C := fun st => SimFl g hm fx (exec st fx.env) (ex P cf hm (.retOwn k))) h fun x p h => ?_
    refine lName (C := fun x => SimFl g hm fx (exec (.Return (some x) p) fx.env) (ex P cf hm (.retOwn k))) h fun y q h => ?_
    rw [Bool.and_eq_true, beq_iff_eq] at h
    exact (sim_retOwn ok h.1 h.2).toF
  | .ownCall k f es, hm, X, st, fx, ok, tp, ck, hX, h => by
    subst hX
    refine lAsg (C := fun st => SimFl g hm fx (exec st fx.env) (ex P cf hm (.ownCall k f es))) h fun y q v p h => ?_
    refine lCall (C := fun v => SimFl g hm fx (exec (.Assign [.Name y q] v p) fx.env) (ex P cf hm (.ownCall k f es))) h fun n r xs t h => ?_
    simp only [Bool.and_eq_true, beq_iff_eq, decide_eq_true_eq] at h
    obtain ⟨⟨⟨⟨h1, h2⟩, h3⟩, h4⟩, h5⟩ := h
    exact (sim_ownCall cx.G ok ck h1 h2 h3 (plains_of h5) (cx.fo f h4) (simEs cx es _ _ _ _ fx ok ck rfl h5) (evs_nil_of h5)).toF
  | .ite c a b, hm, X, st, fx, ok, tp, ck, hX, h => by
    subst hX
    refine lIfS (C := fun st => SimFl g hm fx (exec st fx.env) (ex P cf hm (.ite c a b))) h fun t x y p h => ?_
    rw [Bool.and_eq_true, Bool.and_eq_true] at h
    exact sim_if (simE cx c _ _ _ fx ok ck rfl h.1.1).2 (simSs cx a _ _ _ fx ok tp ck rfl h.1.2) (simSs cx b _ _ _ fx ok tp ck rfl h.2)
  | .forS t src body, hm, X, st, fx, ok, tp, ck, hX, h => by
    subst hX
    refine lFor0 (C := fun st => SimFl g hm fx (exec st fx.env) (ex P cf hm (.forS t src body))) h fun T it bd el p h => ?_
    cases hm with
    | true => intro oa σ s I r σ' e; cases e
    | false =>
      simp only [Bool.and_eq_true, Bool.not_eq_true'] at h
      obtain ⟨⟨⟨⟨⟨h1, h2⟩, h3⟩, h4⟩, h5⟩, h6⟩ := h
      exact ln (C := fun el => SimFl g false fx (exec (.For T it bd el p) fx.env) (ex P cf false (.forS t src body))) h6 (sim_for ok h1 h2 (h4 ▸ simSrc cx src _ _ _ fx ok ck rfl h3) fun Y => simSs cx body _ _ _ (moreMo fx Y) ok.mo tp.mo ck rfl h5)
  | .raise c m, hm, X, st, fx, ok, tp, ck, hX, h => by
    subst hX
    refine lRai0 (C := fun st => SimFl g hm fx (exec st fx.env) (ex P cf hm (.raise c m))) h fun e ca p h => ?_
    cases hm with
    | true => intro oa σ s I r σ' e; cases e
    | false =>
      rw [Bool.and_eq_true] at h
      cases opt_none h.1
      refine lo (C := fun e => SimFl g false fx (exec (.Raise e none p) fx.env) (ex P cf false (.raise c m))) h.2 fun x h => ?_
      refine lCall (C := fun x => SimFl g false fx (exec (.Raise (some x) none p) fx.env) (ex P cf false (.raise c m))) h fun n q xs r h => ?_
      refine l1 (C := fun xs => SimFl g false fx (exec (.Raise (some (.Call (.Name n q) xs [] r)) none p) fx.env) (ex P cf false (.raise c m))) h fun y h => ?_
      refine lStr (C := fun y => SimFl g false fx (exec (.Raise (some (.Call (.Name n q) [y] [] r)) none p) fx.env) (ex P cf false (.raise c m))) h fun w j wp h => ?_
      simp only [Bool.and_eq_true, beq_iff_eq, decide_eq_true_eq] at h
      exact (sim_raise cx.G ok (cx.eg.raises c h.2) h.1.1 h.1.2).toF
  | .tryS body c k hd, hm, X, st, fx, ok, tp, ck, hX, h => by
    subst hX
    refine lTry0 (C := fun st => SimFl g hm fx (exec st fx.env) (ex P cf hm (.tryS body c k hd))) h fun bd hs el fi p h => ?_
    cases hm with
    | true => intro oa σ s I r σ' e; cases e
    | false =>
      rw [Bool.and_eq_true, Bool.and_eq_true] at h
      refine ln (C := fun el => SimFl g false fx (exec (.Try bd hs el fi p) fx.env) (ex P cf false (.tryS body c k hd))) h.1.1 (ln (C := fun fi => SimFl g false fx (exec (.Try bd hs [] fi p) fx.env) (ex P cf false (.tryS body c k hd))) h.1.2 ?_)
      refine l1 (C := fun hs => SimFl g false fx (exec (.Try bd hs [] [] p) fx.env) (ex P cf false (.tryS body c k hd))) h.2 fun e h => ?_
      obtain ⟨t, n, hb, hp⟩ := e
      refine lo (C := fun t => SimFl g false fx (exec (.Try bd [.ExceptHandler t n hb hp] [] [] p) fx.env) (ex P cf false (.tryS body c k hd))) (show t.any _ = true from h) fun t h => ?_
      refine lName (C := fun t => SimFl g false fx (exec (.Try bd [.ExceptHandler (some t) n hb hp] [] [] p) fx.env) (ex P cf false (.tryS body c k hd))) h fun C q h => ?_
      refine lo (C := fun n => SimFl g false fx (exec (.Try bd [.ExceptHandler (some (.Name C q)) n hb hp] [] [] p) fx.env) (ex P cf false (.tryS body c k hd))) h fun n h => ?_
      simp only [Bool.and_eq_true, beq_iff_eq, decide_eq_true_eq, Bool.not_eq_true'] at h
      obtain ⟨⟨⟨⟨⟨⟨⟨h1, h2⟩, h3⟩, h4⟩, h5⟩, h6⟩, h7⟩, h8⟩ := h
      refine sim_try cx.G cx.eg ok tp h5 h3 h4 h6 h7 (by intro q; subst q; simp at h8) (simSs cx body _ _ _ fx ok tp ck rfl h1) fun A hA hr hu => ?_
      exact simSs cx hd true _ _ { fx with A := A } ⟨hA, (fun q => nomatch q), ok.kind, ok.globals, ok.builtins, ok.vis, ok.inj, ok.apart, ok.frame, ok.offs, hr, hu⟩ ⟨tp.top, tp.out⟩ ck rfl h2
theorem simSs (cx : Cx g P Δ) : ∀ (ss : List S) (hm : Bool) (X : Sx) (sts : List Stmt) (fx : Fx), FxOk g hm fx → FxTop fx → CallOk g cf fx.d → X = sxOf fx → chkSs ⟨Δ, P⟩ X ss sts = true → SimFl g hm fx (execs sts fx.env) (exs P cf hm ss)
  | [], hm, X, sts, fx, ok, tp, ck, hX, h => by
    cases List.isEmpty_iff.mp h
    exact sim_seq_nil.toF
  | s :: r, hm, X, sts, fx, ok, tp, ck, hX, h => by
    subst hX
    cases sts with
    | nil => cases h
    | cons x q =>
      have h := (Bool.and_eq_true _ _).mp h
      exact sim_seq_cons (simS cx s _ _ _ fx ok tp ck rfl h.1) (simSs cx r _ _ _ fx ok tp ck rfl h.2)
end
end
end Mine
end

noncomputable section
set_option maxRecDepth 100000
namespace Mine
open PySem PySem.Calls PyProof.Rows PySem.W

/-! a function's frame -/
noncomputable def FrameAt (h : Heap) (L : Addr) : Prop := ∃ o, h.get? L = some o ∧ o.cls = .type "frame"
section
variable {M : Model} {A : Around} {E : Value → Shared → Prop} {s₀ s : Shared} {m cm : Str → Option Value} {env : Env}

theorem stLF {n : Str} {v : Value} {Q : Unit → Shared → Prop} (x : InCallC s₀ env.locals m env.cells cm s) (fr : FrameAt s.heap env.locals) (hk : env.scope.kind = .function) (hl : env.kindOf n = some .local)
    (h : ∀ s', InCallC s₀ env.locals (fun y => if y = n then some v else m y) env.cells cm s' → FrameAt s'.heap env.locals → Q () s') : wpAny M A (storeName env n v) Q E s := by
  rw [storeName_local hl (by rw [hk]; rfl)]
  refine wpAny_nsSetC x.toInCall.ns fun h' hn' hs' hc' => h _ ⟨⟨?_, hn', fun b o e => ?_, x.toInCall.fresh⟩, fun k c hc => ?_, x.apart, x.above⟩ ?_
  · obtain ⟨h₁, tk, rfl⟩ := x.toInCall.same
    exact ⟨h', _, rfl⟩
  · exact hs'.extBut b o (Nat.ne_of_lt (Nat.lt_of_lt_of_le (Heap.lt_size e) x.toInCall.fresh)) (x.toInCall.keep b o e)
  · exact (x.cell k c hc).sameBut hs' (Nat.ne_of_gt (x.above k c (mem_of_lookup hc)))
  · obtain ⟨o, e, c⟩ := fr
    obtain ⟨o', e', c'⟩ := hc' o e
    exact ⟨o', e', c'.trans c⟩

theorem stCF {n : Str} {c : Addr} {v : Value} {Q : Unit → Shared → Prop} (x : InCallC s₀ env.locals m env.cells cm s) (fr : FrameAt s.heap env.locals) (hk : env.scope.kind = .function) (hl : env.kindOf n = some .cell)
    (hc : env.cells.lookup n = some c)
    (h : ∀ s', InCallC s₀ env.locals m env.cells (fun y => if y = n then some v else cm y) s' → FrameAt s'.heap env.locals → Q () s') : wpAny M A (storeName env n v) Q E s := by
  have hLc := x.above n c (mem_of_lookup hc)
  refine wpAny_storeName_cell hk hl hc (x.cell n c hc) fun h' hc' hs' => h _ ⟨⟨?_, x.toInCall.ns.sameBut hs' (Nat.ne_of_lt hLc), fun b o e => ?_, x.toInCall.fresh⟩, fun k c' hk' => ?_, x.apart, x.above⟩ ?_
  · obtain ⟨h₁, tk, rfl⟩ := x.toInCall.same
    exact ⟨h', _, rfl⟩
  · exact hs'.extBut b o (Nat.ne_of_lt (Nat.lt_trans (Nat.lt_of_lt_of_le (Heap.lt_size e) x.toInCall.fresh) hLc)) (x.toInCall.keep b o e)
  · by_cases hkn : k = n
    · subst hkn
      rw [hc] at hk'; cases hk'
      simpa using hc'
    · rw [if_neg hkn]
      exact (x.cell k c' hk').sameBut hs' fun e => hkn (name_of_addr x.apart (mem_of_lookup hk') (e ▸ mem_of_lookup hc))
  · obtain ⟨o, e, hcl⟩ := fr
    exact ⟨o, hs'.extBut _ o (Nat.ne_of_lt hLc) e, hcl⟩

theorem bindParamsF (f : Str × Value → PUnit → Sem (ForInStep PUnit)) (hf : ∀ n v u, f (n, v) u = (do storeName env n v; pure (.yield ⟨⟩))) (hk : env.scope.kind = .function) :
    ∀ (binds : List (Str × Value)) (m cm : Str → Option Value) (s : Shared) (Q : PUnit → Shared → Prop), InCallC s₀ env.locals m env.cells cm s → FrameAt s.heap env.locals →
      (∀ x ∈ binds, env.kindOf x.1 = some .local ∨ (env.kindOf x.1 = some .cell ∧ (env.cells.lookup x.1).isSome = true)) →
      (∀ s', InCallC s₀ env.locals (bindL env.kindOf binds m) env.cells (bindC env.kindOf binds cm) s' → FrameAt s'.heap env.locals → Q ⟨⟩ s') → wpAny M A (forIn binds ⟨⟩ f) Q E s
  | [], m, cm, s, Q, x, fr, _, h => by rw [List.forIn_nil]; exact wpAny_pure (h s x fr)
  | (n, v) :: r, m, cm, s, Q, x, fr, hkind, h => by
    rw [List.forIn_cons, hf]
    have hr : ∀ y ∈ r, env.kindOf y.1 = some .local ∨ (env.kindOf y.1 = some .cell ∧ (env.cells.lookup y.1).isSome = true) := fun y hy => hkind y (List.mem_cons_of_mem _ hy)
    rcases hkind (n, v) List.mem_cons_self with hl | ⟨hl, hc⟩
    · refine wpAny_bind (wpAny_bind (stLF x fr hk hl fun s' x' fr' => wpAny_pure (bindParamsF f hf hk r _ _ s' Q x' fr' hr fun s'' x'' => h s'' ?_)))
      unfold bindL bindC; rw [if_pos hl, if_pos hl]; exact x''
    · obtain ⟨c, hc⟩ := Option.isSome_iff_exists.mp hc
      have hnl : ¬ env.kindOf n = some .local := by rw [hl]; decide
      refine wpAny_bind (wpAny_bind (stCF x fr hk hl hc fun s' x' fr' => wpAny_pure (bindParamsF f hf hk r _ _ s' Q x' fr' hr fun s'' x'' => h s'' ?_)))
      unfold bindL bindC; rw [if_neg hnl, if_neg hnl]; exact x''

theorem newEnvF {scope : Scope} {globals : Addr} {binds : List (Str × Value)} {qual : Str} {func : Option Addr} {code : Value} {builtins : Addr} {Q : Env → Shared → Prop}
    (hk : scope.kind = .function)
    (hkind : ∀ x ∈ binds, scope.names.lookup x.1 = some .local ∨ (scope.names.lookup x.1 = some .cell ∧ ((cellsFrom (s.heap.objs.size + 1) scope.names []).lookup x.1).isSome = true))
    (hQ : ∀ env, env = newEnv scope s.heap.objs.size globals (cellsFrom (s.heap.objs.size + 1) scope.names []) qual func code none builtins →
      ∀ s', InCallC s env.locals (bindL env.kindOf binds fun _ => none) env.cells (bindC env.kindOf binds fun _ => none) s' → FrameAt s'.heap env.locals → Q env s') :
    wpAny M A (newFunctionEnv scope globals [] binds qual func code none builtins) Q E s := by
  simp only [newFunctionEnv, Option.isSome_none, Bool.false_eq_true, if_false]
  refine wpAny_bind (wpAny_alloc ?_)
  refine wpAny_bind (wpAny_layCells _ (fun name kind cells => by cases hkc : kind == NameKind.cell <;> simp [hkc]) _ _ _ _ ?_)
  have ok := cellsFrom_ok scope.names (s.heap.push { cls := .type "frame", data := .dict #[] }) (s.heap.objs.size + 1) [] ⟨fun _ _ hm => (nomatch hm), List.Pairwise.nil⟩ (by rw [Heap.size_push]; exact Nat.le_refl _)
  rw [Heap.size_push] at ok
  rw [show ({ s with heap := s.heap.push { cls := .type "frame", data := .dict #[] } } : Shared).heap.objs.size = s.heap.objs.size + 1 from Heap.size_push ..]
  refine wpAny_bind (bindParamsF (s₀ := s) (env := newEnv scope s.heap.objs.size globals (cellsFrom (s.heap.objs.size + 1) scope.names []) qual func code none builtins)
    _ (fun _ _ _ => rfl) hk binds (fun _ => none) (fun _ => none) _ _
    ⟨⟨⟨_, _, rfl⟩, (Heap.Ns.new s.heap (.type "frame")).keeps (pushCells_keeps _ _), fun b o e => pushCells_keeps _ _ b o (Heap.get?_push_of_some _ e), Nat.le_refl _⟩,
      fun n c hc => (ok.empty n c (mem_of_lookup hc)).1, ok.apart, fun n c hm => (ok.empty n c hm).2⟩
    ⟨_, pushCells_keeps _ _ _ _ (Heap.get?_push_size _ rfl), rfl⟩
    hkind fun s' x fr => wpAny_pure (hQ _ rfl s' x fr))
end
section
variable {prog : Program} {w : World} {A : Around} {s : Shared}
theorem callF {R : Result → Shared → Prop} {a : Addr} {o : Obj} {fd : FuncData} {body : List Stmt} {vals : List Value} {binds : List (Str × Value)}
    (hroom : A.depth < recursionLimit) (ho : s.heap.get? a = some o) (hdata : o.data = .func fd) (hlim : s.heap.NoLimit) (hcd : s.heap.CodeRec fd.code fd.qualname)
    (hbody : fd.body = .stmts body) (hbind : bindArgs fd ⟨vals, []⟩ = pure binds) (hclo : fd.closure = [])
    (hkind : ∀ x ∈ binds, fd.scope.names.lookup x.1 = some .local ∨ (fd.scope.names.lookup x.1 = some .cell ∧ ((cellsFrom (s.heap.objs.size + 1) fd.scope.names []).lookup x.1).isSome = true))
    (hco : fd.scope.isCoroutine = false) (hgen : fd.scope.isGenerator = false) (hk : fd.scope.kind = .function)
    (h : ∀ s₁, InCallC s (callEnvC fd s.heap.objs.size a).locals (bindL (callEnvC fd s.heap.objs.size a).kindOf binds fun _ => none) (callEnvC fd s.heap.objs.size a).cells
        (bindC (callEnvC fd s.heap.objs.size a).kindOf binds fun _ => none) s₁ → FrameAt s₁.heap (callEnvC fd s.heap.objs.size a).locals →
      wpAny (model prog w) (A.deeper (callEnvC fd s.heap.objs.size a)) (execs body (callEnvC fd s.heap.objs.size a)) (fun f s' => R (.ok (.ret (match f with | .ret v => v | _ => .none))) s')
        (fun e s' => wpAny (model prog w) (A.deeper (callEnvC fd s.heap.objs.size a)) (leaving (callEnvC fd s.heap.objs.size a) e) (fun _ s'' => R (.error e) s'') (fun e' s'' => R (.error e') s'') s') s₁) :
    codeAny (model prog w) A (.call (.ref a) ⟨vals, []⟩) R s := by
  refine codeAny_call_function hroom ho hdata hco hgen hbody hcd ?_
  rw [hbind, hclo]
  refine wpAny_pure (newEnvF hk hkind fun env he s' x fr => ?_)
  subst he
  exact ⟨hlim.keeps x.toInCall.keep, codeAny_func (h s' x fr)⟩
end

/-! names and places -/
theorem cells_have : ∀ (names : List (Str × NameKind)) (n : Nat) (acc : List (Str × Addr)) (x : Str), ((x, NameKind.cell) ∈ names ∨ (acc.lookup x).isSome = true) → ((cellsFrom n names acc).lookup x).isSome = true
  | [], _, _, _, h => by
    rcases h with h | h
    · cases h
    · exact h
  | (y, k) :: r, n, acc, x, h => by
    unfold cellsFrom
    have more : ∀ q : Str × Addr, (acc.lookup x).isSome = true → ((q :: acc).lookup x).isSome = true := fun q e => by
      rw [List.lookup_cons]; split
      · rfl
      · exact e
    split
    · refine cells_have r _ _ x ?_
      rcases h with h | h
      · rcases List.mem_cons.mp h with e | e
        · cases e; right; rw [List.lookup_cons]; simp
        · exact .inl e
      · exact .inr (more _ h)
    · rename_i hk
      refine cells_have r _ _ x ?_
      rcases h with h | h
      · rcases List.mem_cons.mp h with e | e
        · cases e; exact absurd rfl hk
        · exact .inl e
      · exact .inr h
theorem bindL_get {kindOf : Str → Option NameKind} {x : Str} (hx : kindOf x = some .local) : ∀ (ps : List Str) (vs : List Value) (m : Str → Option Value), ps.Nodup → ps.length = vs.length →
    (∀ i : Nat, ps[i]? = some x → bindL kindOf (ps.zip vs) m x = vs[i]?) ∧ (x ∉ ps → bindL kindOf (ps.zip vs) m x = m x)
  | [], _, m, _, _ => ⟨fun i e => by simp at e, fun _ => by simp [bindL]⟩
  | p :: ps, [], m, _, e => by simp at e
  | p :: ps, v :: vs, m, hn, e => by
    obtain ⟨hp, hn'⟩ := List.nodup_cons.mp hn
    have ih := fun m => bindL_get hx ps vs m hn' (by simpa using e)
    refine ⟨fun i ei => ?_, fun nx => ?_⟩
    · simp only [List.zip_cons_cons, bindL]
      cases i with
      | zero =>
        simp at ei; subst ei
        rw [(ih _).2 hp, if_pos hx]; simp
      | succ i => simpa using (ih _).1 i (by simpa using ei)
    · simp only [List.zip_cons_cons, bindL]
      simp only [List.mem_cons, not_or] at nx
      rw [(ih _).2 nx.2]
      split
      · simp [nx.1]
      · rfl
theorem bindC_get {kindOf : Str → Option NameKind} {x : Str} (hx : kindOf x ≠ some .local) : ∀ (ps : List Str) (vs : List Value) (m : Str → Option Value), ps.Nodup → ps.length = vs.length →
    (∀ i : Nat, ps[i]? = some x → bindC kindOf (ps.zip vs) m x = vs[i]?) ∧ (x ∉ ps → bindC kindOf (ps.zip vs) m x = m x)
  | [], _, m, _, _ => ⟨fun i e => by simp at e, fun _ => by simp [bindC]⟩
  | p :: ps, [], m, _, e => by simp at e
  | p :: ps, v :: vs, m, hn, e => by
    obtain ⟨hp, hn'⟩ := List.nodup_cons.mp hn
    have ih := fun m => bindC_get hx ps vs m hn' (by simpa using e)
    refine ⟨fun i ei => ?_, fun nx => ?_⟩
    · simp only [List.zip_cons_cons, bindC]
      cases i with
      | zero =>
        simp at ei; subst ei
        rw [(ih _).2 hp, if_neg hx]; simp
      | succ i => simpa using (ih _).1 i (by simpa using ei)
    · simp only [List.zip_cons_cons, bindC]
      simp only [List.mem_cons, not_or] at nx
      rw [(ih _).2 nx.2]
      split
      · rfl
      · simp [nx.1]
theorem zipIdx_lookup : ∀ (l : List Str) (n : Nat) (x : Str) (k : Nat), (l.zipIdx n).lookup x = some k → n ≤ k ∧ l[k - n]? = some x
  | [], _, _, _, e => by simp at e
  | y :: r, n, x, k, e => by
    rw [List.zipIdx_cons, List.lookup_cons] at e
    cases hb : x == y with
    | true => rw [hb] at e; cases e; rw [beq_iff_eq.mp hb]; simp
    | false =>
      rw [hb] at e
      obtain ⟨h1, h2⟩ := zipIdx_lookup r (n + 1) x k e
      refine ⟨by omega, ?_⟩
      rw [show k - n = (k - (n + 1)) + 1 by omega]
      simpa using h2

structure FnOk (g : Gl) (K : Kx) (f : Nat) (fn : Fn) : Prop where
  it : ∃ (o : Obj) (fd : FuncData) (body : List Stmt) (nms : List Str), g.h0.get? (g.fn f) = some o ∧ o.data = .func fd ∧ fd.body = .stmts body ∧ g.h0.CodeRec fd.code fd.qualname ∧ fd.globals = mainGlobals ∧ fd.builtins = builtinsNs ∧ fd.closure = [] ∧
    fd.scope.isCoroutine = false ∧ fd.scope.isGenerator = false ∧ fd.scope.kind = .function ∧
    (∀ vals : List Value, vals.length = fn.npar → bindArgs fd ⟨vals, []⟩ = pure ((nms.take fn.npar).zip vals)) ∧
    nms.Nodup ∧ fn.npar ≤ nms.length ∧ nms.length ≤ fn.nslots ∧ (∀ x ∈ nms, fd.scope.names.lookup x = some .local ∨ fd.scope.names.lookup x = some .cell) ∧
    chkSs K ⟨fd.scope.names, nms.zipIdx, nms.length, fn.nslots⟩ fn.body body = true
noncomputable def plOf (nms : List Str) (sc : List (Str × NameKind)) (L : Addr) (cs : List (Str × Addr)) (k : Nat) : Pl := match nms[k]? with
  | none => .off
  | some x => if sc.lookup x = some .local then .ns L x else match cs.lookup x with | some c => .cell c | none => .off

section
variable {g : Gl} {P : Prog} {Δ : Dl}
theorem callOk_step (cx : Cx g P Δ) {d : Nat} (hfn : ∀ f fn, P.fns[f]? = some fn → FnOk g ⟨Δ, P⟩ f fn) (ih : CallOk g (callN P d) d) : CallOk g (callN P (d + 1)) (d + 1) := fun hm f args r A frs s bad vals hc hA hand hroom hunits B hbad hvals => by
  obtain ⟨fn, hf, hc⟩ := Option.bind_eq_some_iff.mp hc
  refine ifo_elim hc fun hlen hc => ?_
  obtain ⟨o, fd, body, nms, ho, hd, hbody, hcode, hgl, hbi, hclo, hco, hgen, hk, hbind, hnd, hnp, hns, hkinds, hchk⟩ := (hfn f fn hf).it
  have hvl : vals.length = fn.npar := hvals.length.trans hlen
  have hkc : ∀ x ∈ nms, fd.scope.names.lookup x = some .local ∨ (fd.scope.names.lookup x = some .cell ∧ ((cellsFrom (s.heap.objs.size + 1) fd.scope.names []).lookup x).isSome = true) := fun x hx => (hkinds x hx).imp id fun h => ⟨h, cells_have _ _ _ _ (.inl (mem_of_lookup h))⟩
  -- what the run gives
  cases hrun : exs P (callN P d) hm fn.body ⟨frame0 fn (args.map .v)⟩ with
  | none => rw [hrun] at hc; cases hc
  | some p =>
  obtain ⟨rf, σf⟩ := p
  rw [hrun] at hc
  let L := s.heap.objs.size
  let env := callEnvC fd L (g.fn f)
  let cs := cellsFrom (L + 1) fd.scope.names []
  let fx : Fx := { A := A.deeper env, env := env, ρ := nms.zipIdx, pl := plOf nms fd.scope.names L cs, Mo := fun b => bad b ∨ b ∈ frameAddrs frs, frs := env :: frs, nf := nms.length, ns := fn.nslots, d := d }
  have hkind : ∀ x, env.kindOf x = fd.scope.names.lookup x := fun x => rfl
  refine ⟨⟨o, fd, ho, hd⟩, ?_⟩
  have dead : ∀ a, s.heap.objs.size ≤ a → s.heap.get? a = none := fun a ha => by
    cases e : s.heap.get? a with
    | none => rfl
    | some o => exact absurd (Heap.lt_size e) (Nat.not_lt.mpr ha)
  have csAbove : ∀ x c, cs.lookup x = some c → L < c := fun x c hx => ((cellsFrom_ok fd.scope.names (s.heap.push { cls := .type "frame", data := .dict #[] }) (L + 1) [] ⟨fun _ _ hm => (nomatch hm), List.Pairwise.nil⟩ (by rw [Heap.size_push]; exact Nat.le_refl _)).empty x c (by rw [Heap.size_push]; exact mem_of_lookup hx)).2
  have csApart : cs.Pairwise fun x y => x.2 ≠ y.2 := by
    have := (cellsFrom_ok fd.scope.names (s.heap.push { cls := .type "frame", data := .dict #[] }) (L + 1) [] ⟨fun _ _ hm => (nomatch hm), List.Pairwise.nil⟩ (by rw [Heap.size_push]; exact Nat.le_refl _)).apart
    rw [Heap.size_push] at this; exact this
  -- a slot's place
  have plc : ∀ k x, nms[k]? = some x → (fd.scope.names.lookup x = some .local ∧ fx.pl k = .ns L x) ∨ (fd.scope.names.lookup x = some .cell ∧ ∃ c, cs.lookup x = some c ∧ fx.pl k = .cell c) := fun k x hk => by
    rcases hkc x (List.mem_of_getElem? hk) with h | ⟨h, h'⟩
    · exact .inl ⟨h, by show plOf _ _ _ _ _ = _; unfold plOf; rw [hk]; simp only [h, if_true]⟩
    · obtain ⟨c, hc'⟩ := Option.isSome_iff_exists.mp h'
      refine .inr ⟨h, c, hc', ?_⟩
      show plOf _ _ _ _ _ = _
      unfold plOf; rw [hk]
      simp only [h]
      rw [if_neg (by decide)]
      show (match cs.lookup x with | some c => Pl.cell c | none => .off) = _
      rw [show cs.lookup x = some c from hc']
  have plo : ∀ k, nms[k]? = none → fx.pl k = .off := fun k hk => by
    show plOf _ _ _ _ _ = _
    unfold plOf; rw [hk]
  have plAddr : ∀ a, plA fx.pl a → s.heap.get? a = none := fun a ⟨k, e⟩ => by
    cases hk : nms[k]? with
    | none => rw [plo k hk] at e; cases e
    | some x =>
      rcases plc k x hk with ⟨_, q⟩ | ⟨_, c, hc', q⟩
      · rw [q] at e; cases e; exact dead _ (Nat.le_refl _)
      · rw [q] at e; cases e; exact dead _ (Nat.le_of_lt (csAbove x _ hc'))
  have ok : FxOk g hm fx := by
    refine ⟨Around.frames_deeper hA, hand, hk, hgl, hbi, ?_, ?_, ?_, ⟨env, frs, L, rfl, rfl, rfl⟩, fun k hk => plo k (List.getElem?_eq_none hk), ?_, ?_⟩
    · intro x k hx
      obtain ⟨_, hx'⟩ := zipIdx_lookup nms 0 x k hx
      rcases plc k x hx' with ⟨h1, h2⟩ | ⟨h1, c, h2, h3⟩
      · exact .inl ⟨h1, h2⟩
      · exact .inr ⟨.inl h1, c, h2, h3⟩
    · intro k j e hne
      cases hk1 : nms[k]? with
      | none => exact absurd (plo k hk1) hne
      | some x =>
        cases hj1 : nms[j]? with
        | none => exact absurd (e.trans (plo j hj1)) hne
        | some y =>
          have : x = y := by
            rcases plc k x hk1 with ⟨_, q⟩ | ⟨_, c, q1, q⟩ <;> rcases plc j y hj1 with ⟨_, q'⟩ | ⟨_, c', q1', q'⟩ <;> rw [q, q'] at e <;> cases e
            · rfl
            · exact name_of_addr csApart (mem_of_lookup q1) (mem_of_lookup q1')
          subst this
          obtain ⟨hk2, ek⟩ := List.getElem?_eq_some_iff.mp hk1
          exact (List.getElem?_inj hk2 hnd).mp (hk1.trans hj1.symm)
    · intro k j a x c e1 e2
      cases hk1 : nms[k]? with
      | none => rw [plo k hk1] at e1; cases e1
      | some x =>
        cases hj1 : nms[j]? with
        | none => rw [plo j hj1] at e2; cases e2
        | some y =>
          rcases plc k x hk1 with ⟨_, q⟩ | ⟨_, c, q1, q⟩
          · rcases plc j y hj1 with ⟨_, q'⟩ | ⟨_, c', q1', q'⟩
            · rw [q'] at e2; cases e2
            · rw [q] at e1; rw [q'] at e2; cases e1; cases e2
              exact Nat.ne_of_lt (csAbove y _ q1')
          · rw [q] at e1; cases e1
    · show A.depth + 1 + d < 990
      omega
    · show A.units + 3 + 4 * d + 100 < cLine
      omega
  have tp : FxTop fx := ⟨⟨frs, L, rfl, rfl⟩, fun b hb => .inr hb⟩
  have sim := simSs cx (cf := callN P d) fn.body hm (sxOf fx) body fx ok tp ih rfl hchk
  refine wpAny_call ?_
  refine callF (o := o) (fd := fd) (body := body) (binds := (nms.take fn.npar).zip vals) (by show A.depth < 1000; omega) (B.stays _ _ ho) hd ((cx.G.nolim).keeps fun b o e => B.stays b o e) (hcode.keeps fun b o e => B.stays b o e) hbody (hbind vals hvl) hclo
    (fun x hx => hkc x.1 (List.mem_of_mem_take (List.of_mem_zip hx).1)) hco hgen hk fun s₁ ic fr => ?_
  have hfl : (frame0 fn (args.map .v)).length = fn.nslots := by
    unfold frame0
    rw [List.length_append, List.length_map, List.length_replicate, hlen]; omega
  have hlo : ∀ b, Live s.heap b → Live s₁.heap b := fun b ⟨o, e⟩ => ⟨o, ic.toInCall.keep b o e⟩
  have kp : KeepX s.heap s₁.heap := .of_keeps ic.toInCall.keep
  obtain ⟨hs₁, tk₁, es₁⟩ := ic.toInCall.same
  have gnone : ∀ a, s.heap.get? a = none → g.h0.get? a = none := fun a h => by
    cases e : g.h0.get? a with
    | none => rfl
    | some o => rw [B.stays a o e] at h; cases h
  have hpar : (nms.take fn.npar).length = vals.length := by rw [List.length_take, hvl]; omega
  have hpnd : (nms.take fn.npar).Nodup := hnd.sublist (List.take_sublist _ _)
  have inPar : ∀ k x, nms[k]? = some x → k < fn.npar → (nms.take fn.npar)[k]? = some x := fun k x hk hlt => by rw [List.getElem?_take_of_lt hlt]; exact hk
  have notPar : ∀ k x, nms[k]? = some x → ¬ k < fn.npar → x ∉ nms.take fn.npar := fun k x hk hge hm => by
    obtain ⟨j, hj⟩ := List.getElem?_of_mem hm
    have hjl : j < fn.npar := by
      have := (List.getElem?_eq_some_iff.mp hj).1
      rw [List.length_take] at this; omega
    rw [List.getElem?_take_of_lt hjl] at hj
    have := (List.getElem?_inj (List.getElem?_eq_some_iff.mp hj).1 hnd).mp (hj.trans hk.symm)
    omega
  have vk : ∀ k x, nms[k]? = some x → PlRead s₁.heap (fx.pl k) (if k < fn.npar then vals[k]? else none) := fun k x hk => by
    rcases plc k x hk with ⟨h1, h2⟩ | ⟨h1, c, h2, h3⟩
    · rw [h2]
      refine ⟨_, ic.toInCall.ns, ?_⟩
      have bl := bindL_get (kindOf := env.kindOf) (x := x) h1 (nms.take fn.npar) vals (fun _ => none) hpnd hpar
      split
      · rename_i hlt; exact bl.1 k (inPar k x hk hlt)
      · rename_i hge; exact bl.2 (notPar k x hk hge)
    · rw [h3]
      have bc := bindC_get (kindOf := env.kindOf) (x := x) (by rw [hkind, h1]; decide) (nms.take fn.npar) vals (fun _ => none) hpnd hpar
      have hcell := ic.cell x c h2
      show s₁.heap.IsCell c _
      split
      · rename_i hlt; rw [bc.1 k (inPar k x hk hlt)] at hcell; exact hcell
      · rename_i hge; rw [bc.2 (notPar k x hk hge)] at hcell; exact hcell
  have gs0 : ∀ k, ¬ k < fn.npar → getSlot k ⟨frame0 fn (args.map .v)⟩ = .unset := fun k hk => by
    unfold getSlot frame0
    rw [List.getD_eq_getElem?_getD, List.getElem?_append_right (by rw [List.length_map]; omega), List.getElem?_replicate]
    split <;> rfl
  have gs1 : ∀ k a, args[k]? = some a → getSlot k ⟨frame0 fn (args.map .v)⟩ = .v a := fun k a hk => by
    unfold getSlot frame0
    rw [List.getD_eq_getElem?_getD, List.getElem?_append_left (by rw [List.length_map]; exact (List.getElem?_eq_some_iff.mp hk).1), List.getElem?_map, hk]; rfl
  have badS : ∀ a o, s.heap.get? a = some o → o.cls ≠ .type "frame" → badA fx (fun _ => none) a → bad a := fun a o e hcl hb => by
    rcases hb with (hb | hb) | hb | ⟨j, hb⟩
    · exact hb
    · obtain ⟨o', e', c'⟩ := B.fcls a hb
      rw [e] at e'; cases e'; exact absurd c' hcl
    · rw [plAddr a hb] at e; cases e
    · cases hb
  have rps : RpAll g hm (badA fx fun _ => none) s₁.heap vals args := (hvals.antiF badS).keepX kp
  have I₁ : Inv g hm fx (fun _ => none) ⟨frame0 fn (args.map .v)⟩ s₁ := by
    refine ⟨fun b o e => ic.toInCall.keep b o (B.stays b o e), by rw [es₁]; exact B.os, by rw [es₁]; exact B.gens, ⟨by show fd.scope.kind ≠ .module; rw [hk]; decide, ?_, frames_keepX kp B.frames⟩, ?_, ?_, ?_, (fun k j a e => nomatch e), (fun k a e => nomatch e), ?_, hfl, ?_⟩
    · obtain ⟨o', es, ep, ho', hd', _⟩ := ic.toInCall.ns
      exact ⟨L, o', rfl, gnone L (dead L (Nat.le_refl _)), ho', fun vs q => by rw [hd'] at q; cases q⟩
    · intro b hb
      have hb' : b = L ∨ b ∈ frameAddrs frs := by
        unfold frameAddrs at hb ⊢
        rw [List.filterMap_cons] at hb
        rcases List.mem_cons.mp hb with h | h
        · exact .inl h
        · exact .inr h
      rcases hb' with rfl | hb'
      · exact fr
      · obtain ⟨o', e', c'⟩ := B.fcls b hb'
        exact ⟨o', ic.toInCall.keep b o' e', c'⟩
    · intro k
      cases hk1 : nms[k]? with
      | none =>
        refine ⟨none, by rw [plo k hk1]; rfl, ?_⟩
        rw [gs0 k (fun q => by have := List.getElem?_eq_none_iff.mp hk1; omega)]
        exact .unset rfl
      | some x =>
        refine ⟨_, vk k x hk1, ?_⟩
        by_cases hlt : k < fn.npar
        · have hka : k < args.length := by omega
          obtain ⟨v, hv, rv⟩ := rps.get (List.getElem?_eq_getElem hka)
          rw [if_pos hlt, hv, gs1 k _ (List.getElem?_eq_getElem hka)]
          exact .v rfl rv
        · rw [if_neg hlt, gs0 k hlt]
          exact .unset rfl
    · intro a ha
      rcases ha with ha | ⟨j, q⟩
      · have hn := plAddr a ha
        refine ⟨?_, gnone a hn, ?_⟩
        · obtain ⟨k, e⟩ := ha
          cases hk1 : nms[k]? with
          | none => rw [plo k hk1] at e; cases e
          | some x =>
            have := vk k x hk1
            generalize fx.pl k = p at this e
            cases p with
            | ns a' x => cases e; obtain ⟨m, ⟨o', _, _, ho', _⟩, _⟩ := this; exact ⟨o', ho'⟩
            | cell c => cases e; obtain ⟨o', ho', _⟩ := this; exact ⟨o', ho'⟩
            | off => cases e
        · rintro (hb | hb)
          · obtain ⟨o', e'⟩ := hbad a hb; rw [hn] at e'; cases e'
          · obtain ⟨o', e', _⟩ := B.fcls a hb; rw [hn] at e'; cases e'
      · cases q
    · intro k hk1
      show k < (frame0 fn (args.map .v)).length
      rw [hfl]
      cases hk2 : nms[k]? with
      | none => exact absurd (plo k hk2) hk1
      | some x => have := (List.getElem?_eq_some_iff.mp hk2).1; omega
    · rintro a (hb | hb)
      · exact hlo a (hbad a hb)
      · obtain ⟨o', e', _⟩ := B.fcls a hb; exact hlo a ⟨o', e'⟩
  have notOwn : ∀ b, Live s.heap b → ¬ ownA fx.pl (fun _ => none) b := fun b ⟨o', e'⟩ q => by
    rcases q with q | ⟨j, q⟩
    · rw [plAddr b q] at e'; cases e'
    · cases q
  have trx : ∀ oa' s', TrS fx (fun _ => none) s₁ oa' s' → TrX s s' := fun oa' s' t => ⟨fun b o' e' => (kp b o' e').trans fun o'' e'' => t.keep b o'' e'' (notOwn b ⟨o', e'⟩)⟩
  refine wpAny_mono (sim _ _ _ I₁ _ _ hrun) (fun fl s' p => ?_) fun v s' p => ?_
  · obtain ⟨fl', oa', e', t, hf', B', _⟩ := p
    have bd : ∀ a (o' : Obj), s'.heap.get? a = some o' → bad a → badA fx oa' a := fun a o' _ q => .inl (.inl q)
    subst e'
    cases hf' with
    | next => cases hc; exact ⟨_, rfl, B', trx _ _ t, .v .none⟩
    | retV rp => cases hc; exact ⟨_, rfl, B', trx _ _ t, .v (rp.anti bd)⟩
    | retL e rp =>
      cases hc
      refine ⟨_, rfl, B', trx _ _ t, .ownL ?_ (rp.anti fun a o' h q => ?_)⟩
      · cases hq : s.heap.get? _ with
        | none => rfl
        | some o' => exact absurd (t.grow _ (hlo _ ⟨o', hq⟩) (.inr ⟨_, e⟩)) (notOwn _ ⟨o', hq⟩)
      · rcases q with q | rfl
        · exact bd a o' h q
        · exact .inr (.inr ⟨_, e⟩)
  · obtain ⟨c, e, oa', e', hh, rfl, I', t, xa⟩ := p
    subst e'
    cases hc
    refine leaving_ok (base := g.h0) (lo := s.heap) (Around.frames_deeper hA) I'.frames rfl (fun b l => t.live b (hlo b l)) (xa.le hlo) fun h' n x' => ?_
    have hm' := hh
    subst hm'
    have I'' := I'.noted (lo := s.heap) n (fun b ⟨o', e'⟩ => ⟨o', B.stays b o' e'⟩)
    have trx2 : TrX s { s' with heap := h' } := ⟨fun b o' e' => by
      refine ((trx _ _ t).keep b o' e').trans fun o'' e'' => ?_
      obtain ⟨q1, q2⟩ := n.low b o'' e'' ⟨o', e'⟩
      exact ⟨q1, fun hcl => q2 fun hF => by obtain ⟨o3, e3, c3⟩ := I'.fcls b hF; rw [e''] at e3; cases e3; exact hcl c3⟩⟩
    exact ⟨c, e, rfl, rfl, rfl, I''.base.tail, trx2, x'⟩
theorem callOk_all (cx : Cx g P Δ) (hfn : ∀ f fn, P.fns[f]? = some fn → FnOk g ⟨Δ, P⟩ f fn) : ∀ d, CallOk g (callN P d) d
  | 0 => fun hm f args r A frs s bad vals hc => by cases hc
  | d + 1 => callOk_step cx hfn (callOk_all cx hfn d)
end
end Mine
end

noncomputable section
set_option maxRecDepth 100000
namespace Mine
open PySem PySem.Calls PyProof.Rows PySem.W

/-! what a piece of the heap says of the program's own exception classes -/
section
variable {prog : Program} {w : World} {A : Around} {E : Value → Shared → Prop} {s : Shared} {K : Frag} {x C D : Addr} {ox : Obj} {name : Str}
structure ClsOk (K : Frag) (D : Addr) : Prop where
  ga : findIn K (.ref D) "__getattribute__" = some (some (.builtin "BaseException.__getattribute__"))
  gh : findIn K (.ref D) "__getattr__" = some none
  exc : mroIn K D (.type "BaseException") = some true
  dct : hasDictIn K D = true
  att : findIn K (.ref D) "__class__" = some (some (.builtin "object.__class__"))
  obj : mroIn K D (.type "object") = some true
theorem cls_type {K : Frag} {h : Heap} {M : Model} (X : K.In h) (hdct : hasDictIn K D = true) : Looks M h (isType (.ref D)) true := by
  obtain ⟨cdD, hcD, _⟩ := any_some hdct
  unfold clsIn at hcD
  split at hcD
  · rename_i c' d' cd' sl' ho
    intro A' Q' E' s' k q
    unfold isType loadHead
    exact wpAny_bind (wpAny_loadPart (k _ _ (X _ _ ho)) (wpAny_pure q))
  · cases hcD
theorem my_class {Q : Option Value → Shared → Prop} (X : K.In s.heap) (I : InstAt s.heap x ox D none) (c : ClsOk K D) (hn : specialIn K (.builtin "object.__class__") "__get__" = some (some (.builtin "getset_descriptor.__get__"))) (htk : takesIn K (.builtin "object.__class__") = some true)
    (h : Q (some (.ref D)) { s with toks := s.toks + 1 }) : wpAny (model prog w) A (getAttr? (.ref x) "__class__") Q E s := by
  have hf : findObj K D none "__class__" = some (.bind (.builtin "getset_descriptor.__get__") (.builtin "object.__class__")) := by
    obtain ⟨cd, hc, _⟩ := any_some c.dct
    unfold findObj
    rw [hc, Option.bind_some, c.att, Option.bind_some]
    simp [hn, htk]
  have call_ga : ∀ (tk : Tok) (R : Result → Shared → Prop) (A : Around) (s : Shared), K.In s.heap → InstAt s.heap x ox D none → R (.ok (.ret (.ref D))) s → codeAny (model prog w) A (.call (.builtin "BaseException.__getattribute__") ⟨[.ref x, .str "__class__" tk], []⟩) R s := fun tk R A s X I hR => by
    have hk : builtinKind "BaseException.__getattribute__" = some .slot := by decide +kernel
    have hsplit : splitId "BaseException.__getattribute__" = some ("BaseException", "__getattribute__") := by decide +kernel
    have ha := F.args_bexc_ga (.ref x) (.str "__class__" tk)
    obtain ⟨hh, g, dr, t, os⟩ := s
    have L0 := I.type (M := model prog w)
    have L1 := looks_mroIn (M := model prog w) X c.exc
    have L2 := looks_find (M := model prog w) X I hf
    have LI : Looks (model prog w) hh (isInstance (.ref x) (.type "BaseException")) true := L0.andThen L1
    refine codeAny_call_builtin F.attr_ValueError.ga.plain F.entry_bexc_ga ?_
    simp only [checkBuiltinCall, hk, hsplit]
    refine wpAny_bind (LI.at ?_)
    simp only [Bool.not_true, Bool.false_eq_true, if_false]
    unfold argsOk at ha
    have rest : wpAny (model prog w) A.in1 (Builtin.«object.__getattribute__» { pos := [Value.ref x, Value.str (Str.ofString "__class__") tk] })
        (fun fin s' => match fin with | .done f => R (.ok f) s' | .again c' => c'.quiet = true ∧ codeAny (model prog w) A c' R s') (fun e s' => R (.error e) s') { heap := hh, gens := g, drawn := dr, toks := t, os := os } := by
      unfold Builtin.«object.__getattribute__»
      refine wpAny_bind (m := slotArgs "__getattribute__" 1 _) (wpAny_pure ?_)
      refine wpAny_bind (m := Builtin.ObjectAttr.attrName _) (wpAny_pure ?_)
      refine wpAny_bind (L0.at (wpAny_bind (L2.at ?_)))
      refine wpAny_bind (wpAny_holding (wpAny_call (class_get (ox := ox) (od := none) X I c.obj ?_)))
      exact wpAny_pure hR
    generalize Manifest.signature? "BaseException.__getattribute__" = sgn at ha ⊢
    cases sgn with
    | none => exact wpAny_pure rest
    | some sig =>
      simp only at ha ⊢
      rw [ha]
      exact wpAny_pure rest
  obtain ⟨hh, g, dr, t, os⟩ := s
  have L0 := I.type (M := model prog w)
  have L1 := looks_findIn (M := model prog w) X c.ga
  have L2 := looks_findIn (M := model prog w) X c.gh
  unfold getAttr? getAttrBy?
  refine wpAny_bind (wpAny_mkText (wpAny_bind (wpAny_attempt ?_)))
  unfold getAttrBy
  refine wpAny_holding (wpAny_bind (L0.at (wpAny_bind (L1.at ?_))))
  have hx2 : (onTheHeap (Value.ref D) && Value.builtin "BaseException.__getattribute__" == Value.builtin "object.__getattribute__") = false := by
    have : (Value.builtin "BaseException.__getattribute__" == Value.builtin "object.__getattribute__") = false := by decide +kernel
    rw [this]; rfl
  simp only [hx2, Bool.false_eq_true, if_false]
  unfold getAttrByItsOwn hookBefore
  refine wpAny_bind ?_
  rw [if_pos (show onTheHeap (Value.ref D) = true from rfl)]
  refine L2.at ?_
  refine wpAny_bind (wpAny_attempt (wpAny_holding ?_))
  show wpAny _ _ (boundAndCalled _ _ _) _ _ _
  unfold boundAndCalled
  rw [F.attr_ValueError.ga.bind]
  simp only [pure_bind]
  refine wpAny_call (call_ga _ _ _ _ X I ?_)
  exact handed_on rfl (wpAny_pure h)
theorem my_not {c : Value} {Q : Value → Shared → Prop} (X : K.In s.heap) (I : InstAt s.heap x ox D none) (co : ClsOk K D) (hn : specialIn K (.builtin "object.__class__") "__get__" = some (some (.builtin "getset_descriptor.__get__"))) (htk : takesIn K (.builtin "object.__class__") = some true)
    (hty : ∀ (M : Model) h', K.In h' → Looks M h' (typeOf c) (.type "type")) (his : ∀ (M : Model) h', K.In h' → Looks M h' (isType c) true)
    (hne : (Value.ref D == c) = false) (hsub : ∀ (M : Model) h', K.In h' → Looks M h' (isSubtype (.ref D) c) false) (h : Q (.bool false) { s with toks := s.toks + 1 }) : wpAny (model prog w) A (call (.builtin "isinstance") [.ref x, c]) Q E s := by
  refine call_isinstance (S := fun _ R s => (K.In s.heap ∧ InstAt s.heap x ox D none) ∧ R (.ok (.ret (.bool false))) { s with toks := s.toks + 1 }) (fun prog w A R s hs => isinstance_outer ?_ (by intro q; cases q)) ⟨⟨X, I⟩, h⟩
  obtain ⟨⟨X, I⟩, h⟩ := hs
  have hisD := cls_type (M := model prog w) X co.dct
  have L1 := hty (model prog w) _ X
  have L2 := his (model prog w) _ X
  have L3 := hsub (model prog w) _ X
  obtain ⟨h0, g, d, tt, os⟩ := s
  have L0 := I.type (M := model prog w)
  have LI : Looks (model prog w) h0 (isInstance (.ref x) c) false := L0.andThen L3
  unfold Builtin.«isinstance.nested»
  refine wpAny_bind (L0.at ?_)
  rw [if_neg (fun q => by rw [hne] at q; exact Bool.noConfusion q)]
  refine wpAny_bind (L1.at ?_)
  rw [if_pos (by decide)]
  k_delta "plainIsInstance"
  refine wpAny_bind (wpAny_bind (L2.at ?_))
  simp only [Bool.not_true, Bool.false_eq_true, if_false]
  refine wpAny_bind (LI.at ?_)
  simp only [Bool.false_eq_true, if_false]
  refine wpAny_bind (my_class X I co hn htk ?_)
  refine wpAny_bind (hisD.at ?_)
  simp only [Bool.not_true, Bool.false_eq_true, if_false]
  refine wpAny_bind (wpAny_rule ?_)
  refine L3.at ?_
  first
    | exact wpAny_pure h
    | exact wpAny_pure (wpAny_pure h)
    | exact wpAny_bind (wpAny_pure (wpAny_pure h))
theorem my_is {c : Value} {Q : Value → Shared → Prop} (X : K.In s.heap) (I : InstAt s.heap x ox D none)
    (hty : ∀ (M : Model) h', K.In h' → Looks M h' (typeOf c) (.type "type")) (his : ∀ (M : Model) h', K.In h' → Looks M h' (isType c) true)
    (hsub : ∀ (M : Model) h', K.In h' → Looks M h' (isSubtype (.ref D) c) true) (h : Q (.bool true) s) : wpAny (model prog w) A (call (.builtin "isinstance") [.ref x, c]) Q E s := by
  refine call_isinstance (S := fun _ R s => (K.In s.heap ∧ InstAt s.heap x ox D none) ∧ R (.ok (.ret (.bool true))) s) (fun prog w A R s hs => isinstance_outer ?_ (by intro q; cases q)) ⟨⟨X, I⟩, h⟩
  obtain ⟨⟨X, I⟩, h⟩ := hs
  have L1 := hty (model prog w) _ X
  have L2 := his (model prog w) _ X
  have L3 := hsub (model prog w) _ X
  obtain ⟨h0, g, d, tt, os⟩ := s
  have L0 := I.type (M := model prog w)
  have LI : Looks (model prog w) h0 (isInstance (.ref x) c) true := L0.andThen L3
  unfold Builtin.«isinstance.nested»
  refine wpAny_bind (L0.at ?_)
  by_cases q : (Value.ref D == c) = true
  · rw [if_pos q]
    refine wpAny_bind (wpAny_rule ?_)
    first
      | exact wpAny_pure h
      | exact wpAny_pure (wpAny_pure h)
      | (refine wpAny_bind ?_; exact wpAny_pure (wpAny_pure h))
  · rw [if_neg q]
    refine wpAny_bind (L1.at ?_)
    rw [if_pos (by decide)]
    k_delta "plainIsInstance"
    refine wpAny_bind (wpAny_bind (L2.at ?_))
    simp only [Bool.not_true, Bool.false_eq_true, if_false]
    refine wpAny_bind (LI.at ?_)
    simp only [if_true]
    exact wpAny_pure (wpAny_pure h)
theorem my_matches {e : Addr} {oe : Obj} {Q : Bool → Shared → Prop} (X : K.In s.heap) (he : s.heap.get? e = some oe) (hcls : oe.cls = .ref D)
    (hty : ∀ (M : Model) h', K.In h' → Looks M h' (typeOf (.ref C)) (.type "type")) (hex : ∀ (M : Model) h', K.In h' → Looks M h' (isExcClass (.ref C)) true) (hsub : ∀ (M : Model) h', K.In h' → Looks M h' (isSubtype (.ref D) (.ref C)) true) (hq : Q true s) :
    wpAny (model prog w) A (excMatches (.ref e) (.ref C)) Q E s := by
  have L1 := hty (model prog w) _ X
  have L2 := hex (model prog w) _ X
  have L3 := hsub (model prog w) _ X
  have LT : Looks (model prog w) s.heap (isInstance (.ref C) (.type "tuple")) false := L1.andThen (.of_pure tc_notTuple)
  have L0 : Looks (model prog w) s.heap (typeOf (.ref e)) (.ref D) := hcls ▸ (Looks.ld he).andThen .now
  unfold excMatches
  refine wpAny_bind (LT.here ?_)
  simp only [Bool.false_eq_true, if_false, pure_bind, List.forIn_cons, List.forIn_nil, bind_assoc]
  refine wpAny_bind (L2.here ?_)
  simp only [Bool.not_true, Bool.false_eq_true, if_false, pure_bind]
  refine wpAny_bind (L0.here ?_)
  refine wpAny_bind (L3.here ?_)
  simp only [if_true, pure_bind]
  exact wpAny_pure hq
end
end Mine
end

noncomputable section
set_option maxRecDepth 100000
namespace Mine
open PySem PySem.Calls PyProof.Rows PySem.W

/-! the ground, from a piece of the heap -/
theorem nsIn_of {K : Frag} {h : Heap} {a : Addr} {m : Str → Option Value} {x : Str} {r : Option Value} (X : K.In h) (n : h.Ns a m) (e : nsIn K a x = some r) : m x = r := by
  unfold nsIn at e
  split at e
  · rename_i c d es p sl ho
    obtain ⟨o, es', ep, ho', hd, hs, hf⟩ := n
    rw [X _ _ ho] at ho'
    cases ho'
    cases hd
    rw [← hf x]
    unfold nsFind findBy
    rw [← Array.find?_toList]
    split at e
    · rename_i en he; cases e; rw [he]; rfl
    · rename_i he
      split at e
      · cases e
      · cases e; rw [he]; rfl
  · cases e
theorem zip_lookup {ps : List Str} : ∀ {vals : List Value}, ps.length = vals.length → ∀ n ∈ ps, ((ps.zip vals).lookup n).isSome = true := by
  induction ps with
  | nil => intro vals _ n hn; cases hn
  | cons p ps ih =>
    intro vals h n hn
    cases vals with
    | nil => cases h
    | cons v vals =>
      rw [List.zip_cons_cons, List.lookup_cons]
      cases hb : n == p with
      | true => rfl
      | false =>
        rcases List.mem_cons.mp hn with rfl | hn
        · simp at hb
        · exact ih (by simpa using h) n hn
theorem fm_congr {α β : Type} {f g : α → Option β} : ∀ {l : List α}, (∀ x ∈ l, f x = g x) → l.filterMap f = l.filterMap g
  | [], _ => rfl
  | a :: l, h => by rw [List.filterMap_cons, List.filterMap_cons, h a (.head _), fm_congr fun x hx => h x (.tail _ hx)]
theorem zip_filter {ps : List Str} : ∀ {vals : List Value}, ps.Nodup → ps.length = vals.length → ps.filterMap (fun n => ((ps.zip vals).lookup n).map (n, ·)) = ps.zip vals := by
  induction ps with
  | nil => intro vals _ _; simp
  | cons p ps ih =>
    intro vals hn h
    cases vals with
    | nil => cases h
    | cons v vals =>
      obtain ⟨h1, h2⟩ := List.nodup_cons.mp hn
      rw [List.zip_cons_cons, List.filterMap_cons]
      simp only [List.lookup_cons, beq_self_eq_true, Option.map_some]
      congr 1
      refine Eq.trans (fm_congr fun n hnm => ?_) (ih h2 (by simpa using h))
      have : (n == p) = false := by
        have : n ≠ p := fun e => h1 (e ▸ hnm)
        simpa using this
      rw [this]
theorem binds_plain {fd : FuncData} {ps : List Str} {vals : List Value} (h1 : fd.params.posonlyargs = []) (h2 : fd.params.args.map (·.arg) = ps) (h3 : fd.params.kwonlyargs = []) (h4 : fd.params.vararg = none) (h5 : fd.params.kwarg = none)
    (h6 : fd.defaults = .none) (hn : ps.Nodup) (hl : vals.length = ps.length) : bindArgs fd ⟨vals, []⟩ = pure (ps.zip vals) := by
  unfold bindArgs
  have hm : (List.filter (fun n => (List.lookup n (ps.zip vals)).isNone) ps) = [] := by
    rw [List.filter_eq_nil_iff]
    intro n hn
    have := zip_lookup hl.symm n hn
    rw [Option.isSome_iff_ne_none] at this
    simpa [Option.isNone_iff_eq_none] using this
  simp only [h1, h2, h3, h4, h5, h6, List.map_nil, List.nil_append, seqItems?, pure_bind, List.forIn_nil, bind_pure_comp, hl]
  simp [hm, zip_filter hn hl.symm]
  rfl

noncomputable def codeChk (K : Frag) (cd : Value) (q : Str) : Bool := match cd with
  | .ref c => (match K.lookup c with
    | some ⟨_, _, .fields vs, _⟩ => (match (vs[1]? : Option Value) with | some (.str q' _) => q' == q | _ => false)
    | _ => false)
  | _ => false
theorem code_of {K : Frag} {h : Heap} {cd : Value} {q : Str} (X : K.In h) (e : codeChk K cd q = true) : h.CodeRec cd q := by
  unfold codeChk at e
  split at e
  · split at e
    · rename_i ho
      split at e
      · rename_i hv
        have := eq_of_beq e
        subst this
        exact ⟨_, _, _, _, rfl, X _ _ ho, rfl, hv⟩
      · cases e
    · cases e
  · cases e
noncomputable def noneV : Value → Bool
  | .none => true
  | _ => false
noncomputable def fnChk (K : Frag) (Z : Kx) (a : Addr) (fn : Fn) (nms : List Str) : Bool := match K.lookup a with
  | some ⟨_, _, .func fd, _⟩ => (match fd.body with
    | .stmts body => codeChk K fd.code fd.qualname && fd.globals == mainGlobals && fd.builtins == builtinsNs && fd.closure.isEmpty && !fd.scope.isCoroutine && !fd.scope.isGenerator && fd.scope.kind == .function &&
        fd.params.posonlyargs.isEmpty && (fd.params.args.map (·.arg)) == nms.take fn.npar && fd.params.kwonlyargs.isEmpty && fd.params.vararg.isNone && fd.params.kwarg.isNone && noneV fd.defaults &&
        decide nms.Nodup && decide (fn.npar ≤ nms.length) && decide (nms.length ≤ fn.nslots) && nms.all (fun x => fd.scope.names.lookup x == some .local || fd.scope.names.lookup x == some .cell) &&
        chkSs Z ⟨fd.scope.names, nms.zipIdx, nms.length, fn.nslots⟩ fn.body body
    | _ => false)
  | _ => false
theorem fnOk_of {g : Gl} {K : Frag} {Z : Kx} {f : Nat} {fn : Fn} {nms : List Str} (X : K.In g.h0) (e : fnChk K Z (g.fn f) fn nms = true) : FnOk g Z f fn := by
  unfold fnChk at e
  split at e
  · rename_i c d fd sl ho
    split at e
    · rename_i body hb
      simp only [Bool.and_eq_true, Bool.not_eq_true', decide_eq_true_eq, beq_iff_eq, List.all_eq_true, Bool.or_eq_true, List.isEmpty_iff, Option.isNone_iff_eq_none] at e
      obtain ⟨⟨⟨⟨⟨⟨⟨⟨⟨⟨⟨⟨⟨⟨⟨⟨⟨h1, h2⟩, h3⟩, h4⟩, h5⟩, h6⟩, h7⟩, h8⟩, h9⟩, h10⟩, h11⟩, h12⟩, h13⟩, h14⟩, h15⟩, h16⟩, h17⟩, h18⟩ := e
      refine ⟨⟨_, fd, body, nms, X _ _ ho, rfl, hb, code_of X h1, h2, h3, h4, h5, h6, h7, fun vals hv => ?_, h14, h15, h16, h17, h18⟩⟩
      refine binds_plain h8 h9 h10 h11 h12 ?_ (h14.sublist (List.take_sublist _ _)) (by rw [List.length_take, hv]; omega)
      cases hd : fd.defaults <;> rw [hd] at h13 <;> first | rfl | cases h13
    · cases e
  · cases e

noncomputable def constChk : Value → V → Bool
  | .int i _, .int j => i == j
  | .str x _, .str l => x.cps.toList == l
  | _, _ => false
theorem const_of {u : Value} {v : V} (e : constChk u v = true) : ConstOk u v := by
  unfold constChk at e
  split at e
  · rw [eq_of_beq e]; exact .int _ _
  · exact .str _ (eq_of_beq e)
  · cases e
theorem mem_of_look {α : Type} : ∀ {l : List (Str × α)} {n : Str} {c : α}, l.lookup n = some c → (n, c) ∈ l := fun h => mem_of_lookup h
theorem boots : bltNames.all (fun p => bootBuiltins p.1 == some p.2 && p.1 != ("__name__" : Str)) = true := by decide +kernel
noncomputable def clsChk (K : Frag) (P : Prog) (clsA : Nat → Addr) (c : Nat) : Bool :=
  findIn K (.ref (clsA c)) "__getattribute__" == some (some (.builtin "BaseException.__getattribute__")) && findIn K (.ref (clsA c)) "__getattr__" == some none && hasDictIn K (clsA c) && findIn K (.ref (clsA c)) "__class__" == some (some (.builtin "object.__class__")) && mroIn K (clsA c) (.type "object") == some true && mroIn K (clsA c) (.type "BaseException") == some true &&
  typeIn K (.ref (clsA c)) == some (.type "type") && mroIn K (clsA c) (.type "ValueError") == some (matchesX P c P.clss.length) &&
  (List.range P.clss.length).all fun c' => mroIn K (clsA c) (.ref (clsA c')) == some (matchesX P c c')
theorem ex_of {g : Gl} {K : Frag} {P : Prog} (X : K.In g.h0) (hn : specialIn K (.builtin "object.__class__") "__get__" = some (some (.builtin "getset_descriptor.__get__"))) (htk : takesIn K (.builtin "object.__class__") = some true)
    (hcls : ∀ c, c < P.clss.length → clsChk K P g.cls c = true) (hr : ∀ c, c < P.clss.length → RaiseOk g c) : ExcGround g P := by
  have un : ∀ c, c < P.clss.length → ClsOk K (g.cls c) ∧ mroIn K (g.cls c) (.type "BaseException") = some true ∧ typeIn K (.ref (g.cls c)) = some (.type "type") ∧ mroIn K (g.cls c) (.type "ValueError") = some (matchesX P c P.clss.length) ∧ ∀ c', c' < P.clss.length → mroIn K (g.cls c) (.ref (g.cls c')) = some (matchesX P c c') := fun c hc => by
    have e := hcls c hc
    unfold clsChk at e
    simp only [Bool.and_eq_true, beq_iff_eq, List.all_eq_true, List.mem_range] at e
    obtain ⟨⟨⟨⟨⟨⟨⟨⟨h1, h0⟩, h2⟩, h3⟩, h4⟩, h5⟩, h6⟩, h7⟩, h8⟩ := e
    exact ⟨⟨h1, h0, h5, h2, h3, h4⟩, h5, h6, h7, h8⟩
  refine ⟨hr, fun c c' hc hc' hm => ?_, fun c c' hc hc' => ?_⟩
  · intro A E Q s e o st he hcl hq
    obtain ⟨a1, a2, a3, a4, a5⟩ := un c hc
    obtain ⟨b1, b2, b3, b4, b5⟩ := un c' hc'
    refine my_matches (K := K) (X.keeps st) he hcl (fun M h' X' => looks_typeIn X' b3) (fun M h' X' => ?_) (fun M h' X' => looks_mroIn X' (by rw [a5 c' hc', hm])) hq
    exact (cls_type X' b1.dct).andThen (looks_mroIn X' b2)
  · intro A E Q s e o st he hcl hdi hfl hq
    obtain ⟨a1, a2, a3, a4, a5⟩ := un c hc
    have I : InstAt s.heap e o (g.cls c) none := ⟨he, hcl, by obtain ⟨vs, hv⟩ := hfl; unfold notCls; rw [hv], by rw [hdi]; trivial⟩
    unfold clsVal
    by_cases hv : c' = P.clss.length
    · rw [if_pos hv]
      have hty : ∀ (M : Model) h', K.In h' → Looks M h' (typeOf (.type "ValueError")) (.type "type") := fun M h' _ => .of_pure rfl
      have his : ∀ (M : Model) h', K.In h' → Looks M h' (isType (.type "ValueError")) true := fun M h' _ => .of_pure rfl
      cases hb : matchesX P c c' with
      | true => rw [hb] at hq; exact my_is (K := K) (X.keeps st) I hty his (fun M h' X' => looks_mroIn X' (by rw [a4, ← hv, hb])) (hq s (.refl s))
      | false => rw [hb] at hq; exact my_not (K := K) (X.keeps st) I a1 hn htk hty his rfl (fun M h' X' => looks_mroIn X' (by rw [a4, ← hv, hb])) (hq _ (Grown.toks s _))
    · rw [if_neg hv]
      have hc'' : c' < P.clss.length := by omega
      obtain ⟨b1, b2, b3, b4, b5⟩ := un c' hc''
      cases hb : matchesX P c c' with
      | true => rw [hb] at hq; exact my_is (K := K) (X.keeps st) I (fun M h' X' => looks_typeIn X' b3) (fun M h' X' => cls_type X' b1.dct) (fun M h' X' => looks_mroIn X' (by rw [a5 c' hc'', hb])) (hq s (.refl s))
      | false =>
        rw [hb] at hq
        refine my_not (K := K) (X.keeps st) I a1 hn htk (fun M h' X' => looks_typeIn X' b3) (fun M h' X' => cls_type X' b1.dct) ?_ (fun M h' X' => looks_mroIn X' (by rw [a5 c' hc'', hb])) (hq _ (Grown.toks s _))
        cases hne : (Value.ref (g.cls c) == Value.ref (g.cls c')) with
        | false => rfl
        | true =>
          have := eq_of_beq hne
          have := Value.ref.inj this
          -- its own class is among its classes
          have q := a5 c hc
          have q' := a5 c' hc''
          rw [← this, q] at q'
          have : matchesX P c c = true := by unfold matchesX; simp
          rw [this, hb] at q'
          cases q'
theorem ground_of {g : Gl} {K : Frag} {Δ : Dl} (X : K.In g.h0) (hm : g.h0.Ns mainGlobals g.mg) (hb : g.h0.Ns builtinsNs g.mb) (hl : g.h0.NoLimit) (hbt : ∀ x : Str, x ≠ "__name__" → g.mb x = bootBuiltins x)
    (h1 : Δ.fns.all (fun p => nsIn K mainGlobals p.1 == some (some (.ref (g.fn p.2)))) = true) (h2 : Δ.cls.all (fun p => nsIn K mainGlobals p.1 == some (some (.ref (g.cls p.2)))) = true)
    (h3 : Δ.cons.all (fun p => match nsIn K mainGlobals p.1 with | some (some u) => constChk u p.2 | _ => false) = true) (h4 : bltNames.all (fun p => nsIn K mainGlobals p.1 == some none) = true) : Ground g Δ where
  main := hm
  blt := hb
  nolim := hl
  fns := fun x f e => nsIn_of X hm (eq_of_beq (List.all_eq_true.mp h1 _ (mem_of_look e)))
  cls := fun x f e => nsIn_of X hm (eq_of_beq (List.all_eq_true.mp h2 _ (mem_of_look e)))
  cons := fun x v e => by
    have q := List.all_eq_true.mp h3 _ (mem_of_look e)
    simp only at q
    split at q
    · rename_i u hu; exact ⟨u, nsIn_of X hm hu, const_of q⟩
    · cases q
  blts := fun x v e => by
    have q := List.all_eq_true.mp boots _ (mem_of_look e)
    simp only [Bool.and_eq_true, beq_iff_eq, bne_iff_ne, ne_eq] at q
    exact ⟨nsIn_of X hm (eq_of_beq (List.all_eq_true.mp h4 _ (mem_of_look e))), (hbt x q.2).trans q.1⟩
end Mine
end

noncomputable section
set_option maxRecDepth 100000
namespace Mine
open PySem PySem.Calls PyProof.Rows PySem.W

/-! a law's arguments and its end -/
theorem ints_items (xs : List WData) : WShape.hasItems [] xs .int = true → ∃ is : List Int, xs = is.map .int := by
  induction xs with
  | nil => exact fun _ => ⟨[], rfl⟩
  | cons x xs ih =>
    intro h
    have h := and_true_of (b := WShape.hasItems [] xs .int) h
    have h1 := h.1
    cases x with
    | int i => exact (ih h.2).elim fun is e => ⟨i :: is, congrArg _ e⟩
    | _ => cases h1
noncomputable def endsAs (v : Option WData) : Bool := match (match (match v with | some (.bool b) => some (WData.bool (!b)) | _ => none) with | some (.bool false) => some (WData.bool false) | some (.bool true) => some (WData.bool true) | _ => none) with | some (.bool true) => true | _ => false
noncomputable def endsT (b : Bool) : Bool := match some (WData.bool b) with | some (.bool true) => true | _ => false
theorem same_true : same (.bool true) (.bool true) = true := by simp only [same, beq_self_eq_true]
theorem len_of {xs : List WData} (h : (WTm.and (.not (.lt (.lit (.int (63 : Nat))) (.len (.arg 0)))) (.lit (.bool true))).holds [] { args := [.list xs] } = true) : xs.length ≤ 63 := by
  have h : endsAs (some (.bool (decide (((63 : Nat) : Int) < (xs.length : Int))))) = true := h
  by_cases hq : ((63 : Nat) : Int) < (xs.length : Int)
  · rw [decide_eq_true hq] at h; cases h
  · omega
theorem pre_eq {l : OpenLaw} (hm : l.most = some 63) (hb : l.bound = none) : l.pre = .and (.not (.lt (.lit (.int (63 : Nat))) (.len (.arg 0)))) (.lit (.bool true)) := by
  unfold OpenLaw.pre; rw [hm, hb]
theorem script_of {l : OpenLaw} (hm : l.most = some 63) (hb : l.bound = none) {args : List WData} (h : l.row.claim.pre args = true) : ∃ is : List Int, args = [.list (is.map .int)] ∧ is.length ≤ 63 := by
  have h := and_true_of (a := WShape.hasAll [] args [.list .int]) (b := l.pre.holds [] { args := args }) h
  rw [pre_eq hm hb] at h
  cases args with
  | nil => cases h.1
  | cons x r =>
    have h1 := and_true_of (a := WShape.has [] x (.list .int)) h.1
    cases r with
    | cons y r => cases h1.2
    | nil =>
      have h2 := h1.1
      cases x with
      | list xs =>
        have h2 : (WShape.hasItems [] xs .int || false) = true := h2
        rw [Bool.or_false] at h2
        refine (ints_items xs h2).elim fun is e => ⟨is, congrArg (fun xs => [WData.list xs]) e, ?_⟩
        have := len_of h.2
        rw [e, List.length_map] at this
        exact this
      | _ => cases h2
theorem rp_script {g : Gl} {P : Params} (is : List Int) : ∀ vs : List Value, WellAll P g.h0 vs (is.map .int) → RpAll g false (fun _ => False) g.h0 vs (is.map .int) := by
  induction is with
  | nil => intro vs w; cases w; exact .nil
  | cons i is ih =>
    intro vs w
    cases w with
    | cons w ws => cases w with
      | int _ t => exact .cons (.int i t) (ih _ ws)
theorem law_ends {l : OpenLaw} (hm : l.most = some 63) (hb : l.bound = none) {g : Gl} {P : Prog} {Δ : Dl} {f d : Nat} {cl : Str → Option Addr} {mean : ExcName → Option Value} {s₁ : Shared} {args : List WData} {vals : List Value} {Pm : Params}
    (cx : Cx g P Δ) (hfn : ∀ f fn, P.fns[f]? = some fn → FnOk g ⟨Δ, P⟩ f fn) (hg : g.prog = l.row.prog) (h0 : g.h0 = s₁.heap) (ho : g.os = s₁.os) (hgn : s₁.gens = #[]) (hd : d ≤ 40)
    (hpre : l.row.claim.pre args = true) (hwl : WellAll Pm s₁.heap vals args)
    (plain : ∀ scr : List Int, scr.length ≤ 63 → callN P d false f [.list (scr.map .int)] = some (.ok (.v (.bool true)))) :
    wpAny (model l.row.prog g.w) callerA (call (.ref (g.fn f)) vals) (fun v s' => GoodWG l.row.claim cl mean args s₁ (.ok (.ret v)) s') (fun e s' => GoodWG l.row.claim cl mean args s₁ (.error e) s') s₁ := by
  obtain ⟨is, rfl, hlen⟩ := script_of hm hb hpre
  cases hwl with
  | cons w ws =>
  cases ws
  cases w with
  | list ha hws =>
  rename_i a vs
  have rp : RpAll g false (fun _ => False) s₁.heap [.ref a] [.list (is.map .int)] := by
    rw [← h0] at hws ha ⊢
    exact .cons (.list ⟨.inr id, rfl⟩ ha rfl rfl (by rw [List.toList_toArray]; exact rp_script _ _ hws)) .nil
  have B : Base g [] s₁ := ⟨by rw [h0]; exact fun b o e => e, ho.symm, hgn, trivial, fun b hb => (nomatch hb)⟩
  obtain ⟨_, w⟩ := callOk_all cx hfn d false f [.list (is.map .int)] _ callerA [] s₁ (fun _ => False) [.ref a] (plain is hlen) rfl (fun _ => rfl) (by show 1 + claimMargin + d < 990; have : claimMargin = 300 := rfl; omega)
    (by show 4 + 4 * d + 100 < cLine; have : (1000 : Nat) ≤ cLine := by decide +kernel
        omega) B (fun a q => q.elim) rp
  rw [hg] at w
  refine wpAny_mono w (fun v s' p => ?_) fun e s' p => ?_
  · obtain ⟨sl, q, B', t, r⟩ := p
    cases q
    cases r with
    | v rp =>
    cases rp
    refine GoodW.toG ⟨.inl ⟨_, .bool true, [], rfl, fun cls => rfl, ReadsW.bool true, (by
      show (WShape.has [] (.bool true) .bool && (WTm.eq .res (.lit (.bool true))).holds [] _) = true
      refine (Bool.and_eq_true _ _).mpr ⟨rfl, ?_⟩
      exact congrArg endsT same_true), fun _ => ⟨List.nodup_nil, fun a ha => (nomatch ha)⟩⟩, ?_, B'.os.trans ho, B'.gens⟩
    have := B'.stays
    rw [h0] at this
    exact fun b o e => this b o e
  · obtain ⟨c, e', q, _⟩ := p
    cases q
end Mine
end

noncomputable section
set_option maxRecDepth 100000
namespace Mine.Pl
/-! the small language's run, step by step -/
section
variable {P : Prog} {cf : CallF} {hm : Bool} {σ σ₁ σ₂ σ₃ : St} {x y z : V} {a b c : E} {es : List E} {xs ys : List V} {k : Nat} {t : Bool}
theorem bind_ok {α β : Type} {m : M α} {f : α → M β} {u : α} {r : Option (Except Nat β × St)} (h : m σ = some (.ok u, σ₁)) (h2 : f u σ₁ = r) : M.bind m f σ = r := by
  unfold M.bind; rw [h]; exact h2
theorem bind_err {α β : Type} {m : M α} {f : α → M β} {n : Nat} (h : m σ = some (.error n, σ₁)) : M.bind m f σ = some (.error n, σ₁) := by
  unfold M.bind; rw [h]
theorem opt_ok {α : Type} {o : Option α} {u : α} (h : o = some u) : M.ofOpt o σ = some (.ok u, σ) := by rw [h]; rfl
theorem e_lit : ev P cf hm (.lit x) σ = some (.ok x, σ) := rfl
theorem e_bor (h : borVar k σ = some (.ok x, σ)) : ev P cf hm (.bor k) σ = some (.ok x, σ) := h
theorem e_var (h : readVar k σ = some (.ok x, σ₁)) : ev P cf hm (.var k) σ = some (.ok x, σ₁) := h
theorem e_bin {op : BOp} (h1 : ev P cf hm a σ = some (.ok x, σ₁)) (h2 : ev P cf hm b σ₁ = some (.ok y, σ₂)) (h3 : binOp op x y = some z) : ev P cf hm (.bin op a b) σ = some (.ok z, σ₂) := show M.bind (ev P cf hm a) (fun x => M.bind (ev P cf hm b) fun y => M.ofOpt (binOp op x y)) σ = _ from bind_ok h1 (bind_ok h2 (opt_ok h3))
theorem e_cmp {op : COp} (h1 : ev P cf hm a σ = some (.ok x, σ₁)) (h2 : ev P cf hm b σ₁ = some (.ok y, σ₂)) (h3 : cmpOp op x y = some t) : ev P cf hm (.cmp op a b) σ = some (.ok (.bool t), σ₂) := show M.bind (ev P cf hm a) (fun x => M.bind (ev P cf hm b) fun y => M.ofOpt ((cmpOp op x y).map V.bool)) σ = _ from bind_ok h1 (bind_ok h2 (opt_ok (by rw [h3]; rfl)))
theorem e_not (h1 : ev P cf hm a σ = some (.ok (.bool t), σ₁)) : ev P cf hm (.not a) σ = some (.ok (.bool (!t)), σ₁) := show M.bind (ev P cf hm a) (fun x => M.bind (M.ofOpt (truthV x)) fun t => M.pure (V.bool (!t))) σ = _ from bind_ok h1 rfl
theorem e_sub (h1 : ev P cf hm a σ = some (.ok x, σ₁)) (h2 : ev P cf hm b σ₁ = some (.ok y, σ₂)) (h3 : subOp x y = some z) : ev P cf hm (.sub a b) σ = some (.ok z, σ₂) := show M.bind (ev P cf hm a) (fun x => M.bind (ev P cf hm b) fun y => M.ofOpt (subOp x y)) σ = _ from bind_ok h1 (bind_ok h2 (opt_ok h3))
theorem e_rev (h1 : ev P cf hm a σ = some (.ok x, σ₁)) (h3 : revOp x = some z) : ev P cf hm (.rev a) σ = some (.ok z, σ₁) := show M.bind (ev P cf hm a) (fun x => M.ofOpt (revOp x)) σ = _ from bind_ok h1 (opt_ok h3)
theorem o_none : evO P cf hm none σ = some (.ok none, σ) := rfl
theorem o_some (h1 : ev P cf hm a σ = some (.ok x, σ₁)) : evO P cf hm (some a) σ = some (.ok (some x), σ₁) := show M.bind (ev P cf hm a) (fun x => M.pure (some x)) σ = _ from bind_ok h1 rfl
theorem e_slice {lo hi : Option E} {u v : Option V} (h1 : ev P cf hm a σ = some (.ok x, σ₁)) (h2 : evO P cf hm lo σ₁ = some (.ok u, σ₂)) (h3 : evO P cf hm hi σ₂ = some (.ok v, σ₃)) (h4 : sliceOp x u v = some z) : ev P cf hm (.slice a lo hi) σ = some (.ok z, σ₃) := show M.bind (ev P cf hm a) (fun x => M.bind (evO P cf hm lo) fun l => M.bind (evO P cf hm hi) fun h => M.ofOpt (sliceOp x l h)) σ = _ from bind_ok h1 (bind_ok h2 (bind_ok h3 (opt_ok h4)))
theorem s_nil : evs P cf hm [] σ = some (.ok [], σ) := rfl
theorem s_cons (h1 : ev P cf hm a σ = some (.ok x, σ₁)) (h2 : evs P cf hm es σ₁ = some (.ok xs, σ₂)) : evs P cf hm (a :: es) σ = some (.ok (x :: xs), σ₂) := show M.bind (ev P cf hm a) (fun x => M.bind (evs P cf hm es) fun xs => M.pure (x :: xs)) σ = _ from bind_ok h1 (bind_ok h2 rfl)
theorem e_tuple (h1 : evs P cf hm es σ = some (.ok xs, σ₁)) (h2 : (xs.length ≤ szLine) = True) : ev P cf hm (.tuple es) σ = some (.ok (.tuple xs), σ₁) := show M.bind (evs P cf hm es) (fun xs => M.ofOpt (if xs.length ≤ szLine then some (V.tuple xs) else none)) σ = _ from bind_ok h1 (opt_ok (if_pos (of_eq_true h2)))
theorem e_list (h1 : evs P cf hm es σ = some (.ok xs, σ₁)) (h2 : (xs.length ≤ szLine) = True) : ev P cf hm (.list es) σ = some (.ok (.list xs), σ₁) := show M.bind (evs P cf hm es) (fun xs => M.ofOpt (if xs.length ≤ szLine then some (V.list xs) else none)) σ = _ from bind_ok h1 (opt_ok (if_pos (of_eq_true h2)))
theorem e_dict0 : ev P cf hm .dict0 σ = some (.ok (.dict), σ) := rfl
theorem e_call {f : Nat} {G₁ : List Slot} (h1 : evs P cf hm es σ = some (.ok xs, ⟨G₁⟩)) (h2 : cf hm f xs = some (.ok (.v z))) : ev P cf hm (.call f es) σ = some (.ok z, ⟨G₁⟩) := show M.bind (evs P cf hm es) (fun xs => callM cf hm f xs) σ = _ from bind_ok h1 (bind_ok (u := .v z) (by unfold callS; rw [h2]; rfl) rfl)
theorem e_callX {f : Nat} {G₁ : List Slot} {c : Nat} (h1 : evs P cf hm es σ = some (.ok xs, ⟨G₁⟩)) (h2 : cf hm f xs = some (.error c)) : ev P cf hm (.call f es) σ = some (.error c, ⟨G₁⟩) := show M.bind (evs P cf hm es) (fun xs => callM cf hm f xs) σ = _ from bind_ok h1 (bind_err (by unfold callS; rw [h2]; rfl))
theorem e_bi {o : Bi} (h1 : evs P cf hm es σ = some (.ok xs, σ₁)) (h2 : biOp P hm o xs = some z) : ev P cf hm (.bi o es) σ = some (.ok z, σ₁) := show M.bind (evs P cf hm es) (fun xs => M.ofOpt (biOp P hm o xs)) σ = _ from bind_ok h1 (opt_ok h2)
theorem e_met {o : Bi} (h1 : ev P cf hm a σ = some (.ok x, σ₁)) (h2 : recvOk o x = some ()) (h3 : evs P cf hm es σ₁ = some (.ok ys, σ₂)) (h4 : biOp P hm o (x :: ys) = some z) : ev P cf hm (.met o a es) σ = some (.ok z, σ₂) := show M.bind (ev P cf hm a) (fun x => M.bind (M.ofOpt (recvOk o x)) fun _ => M.bind (evs P cf hm es) fun ys => M.ofOpt (biOp P hm o (x :: ys))) σ = _ from bind_ok h1 (bind_ok (opt_ok h2) (bind_ok h3 (opt_ok h4)))
theorem c_tt {α : Type} {A B r : α} (h0 : t = true) (h : A = r) : (if t = true then A else B) = r := by rw [if_pos h0]; exact h
theorem c_ff {α : Type} {A B r : α} (h0 : t = false) (h : B = r) : (if t = true then A else B) = r := by rw [h0]; exact h
theorem e_ite {r : Option (Except Nat V × St)} (h1 : evB P cf hm a (ev P cf hm a) σ = some (.ok t, σ₁)) (h2 : (if t = true then ev P cf hm b σ₁ else ev P cf hm c σ₁) = r) : ev P cf hm (.ite a b c) σ = r := show M.bind (evB P cf hm a (ev P cf hm a)) (fun t => if t then ev P cf hm b else ev P cf hm c) σ = _ from bind_ok h1 (by rw [← h2]; cases t <;> rfl)
theorem a_one (h1 : ev P cf hm a σ = some (.ok x, σ₁)) : evAnd P cf hm [a] σ = some (.ok x, σ₁) := h1
theorem a_c {r : Option (Except Nat V × St)} (h1 : ev P cf hm a σ = some (.ok (.bool t), σ₁)) (h2 : (if t = true then evAnd P cf hm (b :: es) σ₁ else some (.ok (.bool false), σ₁)) = r) : evAnd P cf hm (a :: b :: es) σ = r := show M.bind (ev P cf hm a) (fun x => M.bind (M.ofOpt (truthV x)) fun t => if t then evAnd P cf hm (b :: es) else M.pure x) σ = _ from bind_ok h1 (bind_ok (u := t) rfl (by rw [← h2]; cases t <;> rfl))
theorem e_and (h : evAnd P cf hm es σ = some (.ok x, σ₁)) : ev P cf hm (.and es) σ = some (.ok x, σ₁) := h
theorem q_eq (h1 : okEq x = true) (h2 : okEq y = true) : cmpOp .eq x y = some (eqV x y) := if_pos (by rw [h1, h2]; rfl)
theorem q_ne (h1 : okEq x = true) (h2 : okEq y = true) : cmpOp .ne x y = some (!eqV x y) := by
  show (eqO x y).map _ = _
  rw [show eqO x y = some (eqV x y) from q_eq h1 h2]; rfl
theorem d_str {l : List Nat} (h : l.all (fun x => decide (x < 0x110000)) = true) : okEq (.str l) = true := by
  show (l.all (fun x => decide (x < 0x110000)) && decide (0 ≤ 64)) = true
  rw [h]; rfl
theorem q_len {l : List V} (h : seqV x = some l) : biOp P hm .len [x] = some (.int l.length) := by
  show (seqV x).map _ = _
  rw [h]; rfl
theorem q_set {l : List Nat} (h : l.length < 4000) : biOp P false .lenSet [.str l] = some (.int (dedupN l).length) := if_pos ⟨rfl, h⟩
/-! tests -/
theorem b_of {w : M V} (h0 : evB P cf hm a w = M.bind w fun x => M.ofOpt (truthV x)) (h1 : w σ = some (.ok (.bool t), σ₁)) : evB P cf hm a w σ = some (.ok t, σ₁) := by
  rw [h0]; exact bind_ok h1 rfl
theorem b_not {w : M V} (h : evB P cf hm a (ev P cf hm a) σ = some (.ok t, σ₁)) : evB P cf hm (.not a) w σ = some (.ok (!t), σ₁) := show M.bind (evB P cf hm a (ev P cf hm a)) (fun t => M.pure (!t)) σ = _ from bind_ok h rfl
theorem b_and {w : M V} (h : evIfs P cf hm es σ = some (.ok t, σ₁)) : evB P cf hm (.and es) w σ = some (.ok t, σ₁) := h
theorem b_or {w : M V} (h : evAny P cf hm es σ = some (.ok t, σ₁)) : evB P cf hm (.or es) w σ = some (.ok t, σ₁) := h
theorem i_nil : evIfs P cf hm [] σ = some (.ok true, σ) := rfl
theorem i_c {r : Option (Except Nat Bool × St)} (h1 : evB P cf hm a (ev P cf hm a) σ = some (.ok t, σ₁)) (h2 : (if t = true then evIfs P cf hm es σ₁ else some (.ok false, σ₁)) = r) : evIfs P cf hm (a :: es) σ = r := show M.bind (evB P cf hm a (ev P cf hm a)) (fun t => if t then evIfs P cf hm es else M.pure false) σ = _ from bind_ok h1 (by rw [← h2]; cases t <;> rfl)
theorem i_and {t u : Bool} (h1 : evB P cf hm a (ev P cf hm a) σ = some (.ok t, σ)) (h2 : evIfs P cf hm es σ = some (.ok u, σ)) : evIfs P cf hm (a :: es) σ = some (.ok (t && u), σ) := by
  cases t with
  | false => exact i_c h1 rfl
  | true => exact i_c h1 h2
theorem y_c {r : Option (Except Nat Bool × St)} (h1 : evB P cf hm a (ev P cf hm a) σ = some (.ok t, σ₁)) (h2 : (if t = true then some (.ok true, σ₁) else evAny P cf hm es σ₁) = r) : evAny P cf hm (a :: es) σ = r := show M.bind (evB P cf hm a (ev P cf hm a)) (fun t => if t then M.pure true else evAny P cf hm es) σ = _ from bind_ok h1 (by rw [← h2]; cases t <;> rfl)
theorem y_nil : evAny P cf hm [] σ = some (.ok false, σ) := rfl
/-! statements -/
theorem x_assign (h : ev P cf hm a σ = some (.ok x, σ₁)) (e : setSlot k (.v x) σ₁ = σ₂) : ex P cf hm (.assign k a) σ = some (.ok .next, σ₂) := show M.bind (ev P cf hm a) (fun x => M.bind (storeVar k x) fun _ => M.pure Fl.next) σ = _ from bind_ok h (e ▸ rfl)
theorem x_ownL (h : evs P cf hm es σ = some (.ok xs, σ₁)) (h2 : (xs.length ≤ szLine) = True) (e : setSlot k (.ownL xs) σ₁ = σ₂) : ex P cf hm (.ownL k es) σ = some (.ok .next, σ₂) := show M.bind (evs P cf hm es) (fun xs => M.bind (if xs.length ≤ szLine then storeSlot k (Slot.ownL xs) else M.stuck) fun _ => M.pure Fl.next) σ = _ from bind_ok h (by rw [if_pos (of_eq_true h2)]; exact e ▸ rfl)
theorem x_append {l : List V} (h0 : getSlot k σ = .ownL l) (h : ev P cf hm a σ = some (.ok x, σ₁)) (h1 : getSlot k σ₁ = .ownL l) (h2 : (l.length < szLine) = True) (e : setSlot k (.ownL (l ++ [x])) σ₁ = σ₂) : ex P cf hm (.append k a) σ = some (.ok .next, σ₂) := show M.bind (needL k) (fun _ => M.bind (ev P cf hm a) fun x => M.bind (appendVar k x) fun _ => M.pure Fl.next) σ = _ from bind_ok (u := ()) (by unfold needL; rw [h0]) (bind_ok h (bind_ok (u := ()) (by unfold appendVar; rw [h1]; exact if_pos (of_eq_true h2)) (by rw [← e])))
theorem x_setItem {l : List V} {j : Int} (h : ev P cf hm b σ = some (.ok x, σ₁)) (h0 : getSlot k σ₁ = .ownL l) (h1 : ev P cf hm a σ₁ = some (.ok (.int j), σ₂)) (h2 : getSlot k σ₂ = .ownL l) (h3 : 0 ≤ j ∧ j < l.length ∧ l.length ≤ szLine) (e : setSlot k (.ownL (l.set j.toNat x)) σ₂ = σ₃) :
    ex P cf hm (.setItem k a b) σ = some (.ok .next, σ₃) := show M.bind (ev P cf hm b) (fun x => M.bind (needL k) fun _ => M.bind (ev P cf hm a) fun j => M.bind (setItemVar k j x) fun _ => M.pure Fl.next) σ = _ from bind_ok h (bind_ok (u := ()) (by unfold needL; rw [h0]) (bind_ok h1 (bind_ok (u := ()) (by unfold setItemVar; rw [h2]; exact if_pos h3) (by rw [← e]))))
theorem x_ret (h : ev P cf hm a σ = some (.ok x, σ₁)) : ex P cf hm (.ret a) σ = some (.ok (.ret (.v x)), σ₁) := show M.bind (ev P cf hm a) (fun x => M.pure (Fl.ret (Slot.v x))) σ = _ from bind_ok h rfl
theorem x_retOwn {sl : Slot} (h : getSlot k σ = sl) (h2 : sl ≠ .unset) : ex P cf hm (.retOwn k) σ = some (.ok (.ret sl), σ) := show retOwn k σ = _ from by
  unfold retOwn; rw [h]; cases sl <;> first | rfl | exact absurd rfl h2
theorem x_ownCall {f : Nat} {sl : Slot} {G₁ : List Slot} (h1 : evs P cf hm es σ = some (.ok xs, ⟨G₁⟩)) (h2 : cf hm f xs = some (.ok sl)) (e : setSlot k sl ⟨G₁⟩ = σ₂) : ex P cf hm (.ownCall k f es) σ = some (.ok .next, σ₂) := show M.bind (evs P cf hm es) (fun xs => M.bind (callS cf hm f xs) fun sl => M.bind (storeSlot k sl) fun _ => M.pure Fl.next) σ = _ from bind_ok h1 (bind_ok (u := sl) (by unfold callS; rw [h2]; rfl) (by rw [← e]; rfl))
theorem x_if {p q : List S} {r : Option (Except Nat Fl × St)} (h1 : evB P cf hm a (ev P cf hm a) σ = some (.ok t, σ₁)) (h2 : (if t = true then exs P cf hm p σ₁ else exs P cf hm q σ₁) = r) : ex P cf hm (.ite a p q) σ = r := show M.bind (evB P cf hm a (ev P cf hm a)) (fun t => if t then exs P cf hm p else exs P cf hm q) σ = _ from bind_ok h1 (by rw [← h2]; cases t <;> rfl)
theorem x_raise {n : Nat} {w : List Nat} : ex P cf false (.raise n w) σ = some (.error n, σ) := rfl
theorem xs_nil : exs P cf hm [] σ = some (.ok .next, σ) := rfl
theorem xs_next {s : S} {q : List S} {r : Option (Except Nat Fl × St)} (h1 : ex P cf hm s σ = some (.ok .next, σ₁)) (h2 : exs P cf hm q σ₁ = r) : exs P cf hm (s :: q) σ = r := show M.bind (ex P cf hm s) (fun fl => match fl with | .next => exs P cf hm q | .ret y => M.pure (Fl.ret y)) σ = _ from bind_ok h1 h2
theorem xs_ret {s : S} {q : List S} {sl : Slot} (h1 : ex P cf hm s σ = some (.ok (.ret sl), σ₁)) : exs P cf hm (s :: q) σ = some (.ok (.ret sl), σ₁) := show M.bind (ex P cf hm s) (fun fl => match fl with | .next => exs P cf hm q | .ret y => M.pure (Fl.ret y)) σ = _ from bind_ok h1 rfl
theorem xs_err {s : S} {q : List S} {n : Nat} (h1 : ex P cf hm s σ = some (.error n, σ₁)) : exs P cf hm (s :: q) σ = some (.error n, σ₁) := show M.bind (ex P cf hm s) (fun fl => match fl with | .next => exs P cf hm q | .ret y => M.pure (Fl.ret y)) σ = _ from bind_err h1
theorem xs_retE {q : List S} (h : ev P cf hm a σ = some (.ok x, σ₁)) : exs P cf hm (.ret a :: q) σ = some (.ok (.ret (.v x)), σ₁) := xs_ret (x_ret h)
theorem xs_retO {q : List S} {sl : Slot} (h : getSlot k σ = sl) (h2 : sl ≠ .unset) : exs P cf hm (.retOwn k :: q) σ = some (.ok (.ret sl), σ) := xs_ret (x_retOwn h h2)
theorem m_ret (h : ev P cf hm b σ = some (.ok x, σ₁)) : M.bind (ev P cf hm b) (fun x => M.pure (Fl.ret (.v x))) σ = some (.ok (.ret (.v x)), σ₁) := bind_ok h rfl
theorem xs_ifR {q : List S} {r : Option (Except Nat Fl × St)} (h1 : evB P cf hm a (ev P cf hm a) σ = some (.ok t, σ₁)) (h2 : (if t = true then M.bind (ev P cf hm b) (fun x => M.pure (Fl.ret (.v x))) σ₁ else exs P cf hm q σ₁) = r) : exs P cf hm (.ite a [.ret b] [] :: q) σ = r := by
  cases t with
  | false => exact xs_next (x_if h1 (c_ff rfl xs_nil)) h2
  | true =>
    have h2 : M.bind (ev P cf hm b) (fun x => M.pure (Fl.ret (.v x))) σ₁ = r := h2
    have e : ex P cf hm (.ite a [.ret b] []) σ = M.bind (M.bind (ev P cf hm b) fun x => M.pure (Fl.ret (.v x))) (fun fl => match fl with | .next => exs P cf hm [] | .ret y => M.pure (.ret y)) σ₁ := x_if h1 (c_tt rfl rfl)
    rw [← h2]
    show M.bind (ex P cf hm (.ite a [.ret b] [])) _ σ = _
    unfold M.bind at e ⊢
    rw [e]
    cases ev P cf hm b σ₁ with
    | none => rfl
    | some v =>
      obtain ⟨v, u⟩ := v
      cases v <;> rfl
theorem x_for {t : Tgt} {src : Src} {bd : List S} {r : Option (Except Nat Fl × St)} (h : evSrc P cf false src σ = some (.ok xs, σ₁)) (h2 : forL (M.noErr (exs P cf false bd)) t xs σ₁ = r) : ex P cf false (.forS t src bd) σ = r := show M.bind (evSrc P cf false src) (fun xs => forL (M.noErr (exs P cf false bd)) t xs) σ = _ from bind_ok h h2
theorem r_e (h : ev P cf hm a σ = some (.ok x, σ₁)) (h2 : seqV x = some xs) : evSrc P cf hm (.e a) σ = some (.ok xs, σ₁) := show M.bind (ev P cf hm a) (fun v => M.ofOpt (seqV v)) σ = _ from bind_ok h (opt_ok h2)
theorem r_1 {i : Int} (h : evs P cf hm es σ = some (.ok [.int i], σ₁)) (h2 : rangeO 0 i = some xs) : evSrc P cf hm (.range es) σ = some (.ok xs, σ₁) := bind_ok (m := evs P cf hm es) h (opt_ok h2)
theorem r_zip (h : evs P cf hm es σ = some (.ok ys, σ₁)) (h2 : zipO ys = some xs) : evSrc P cf hm (.zip es) σ = some (.ok xs, σ₁) := show M.bind (evs P cf hm es) (fun xs => M.ofOpt (zipO xs)) σ = _ from bind_ok h (opt_ok h2)
theorem x_try {bd h : List S} {n k : Nat} {fl : Fl} (h1 : exs P cf false bd σ = some (.ok fl, σ₁)) : ex P cf false (.tryS bd n k h) σ = some (.ok fl, σ₁) := by
  show tryM P (exs P cf false bd) n k (exs P cf true h) σ = _
  unfold tryM; rw [h1]
theorem x_tryX {bd h : List S} {n k m : Nat} (h1 : exs P cf false bd σ = some (.error m, σ₁)) (h2 : matchesX P m n = true ∧ m < P.clss.length) (h3 : exs P cf true h (setSlot k (.v (.exc m)) σ₁) = some (.ok (.ret (.v x)), σ₂)) (h4 : dataV x = true) : ex P cf false (.tryS bd n k h) σ = some (.ok (.ret (.v x)), setSlot k .unset σ₂) := by
  show tryM P (exs P cf false bd) n k (exs P cf true h) σ = _
  unfold tryM; rw [h1]
  refine (if_pos h2).trans (bind_ok (u := ()) rfl (bind_ok (u := .ret (.v x)) (σ₁ := σ₂) (by unfold M.noErr; rw [h3]) ?_))
  rw [show dataFl (.ret (.v x)) = true from h4]
  rfl
end
end Mine.Pl
end

noncomputable section
namespace Mine.L01

noncomputable def abc : List Nat := [97, 98, 99, 100, 101, 102, 103, 104, 105, 106, 107, 108, 109, 110, 111, 112, 113, 114, 115, 116, 117, 118, 119, 120, 121, 122]
noncomputable def kOpen : List Nat := [111, 112, 101, 110]
noncomputable def kClose : List Nat := [99, 108, 111, 115, 101]
noncomputable def kOn : List Nat := [111, 110]
noncomputable def kRef : List Nat := [114, 101, 102, 117, 115, 101, 100]
noncomputable def f0b0 : List S := [.ite (.cmp .notin (.bor 1) (.lit (.str abc))) [.ret (.lit (.bool false))] []]
noncomputable def f0 : Fn := { npar := 1, nslots := 2, body := [.ite (.or [(.not (.bi (.isinst .str) [(.bor 0)])), (.cmp .gt (.bi .len [(.bor 0)]) (.lit (.int 4)))]) [.ret (.lit (.bool false))] [],
    .forS (.one 1) (.e (.var 0)) f0b0,
    .ret (.lit (.bool true))] }
noncomputable def n0 : List PySem.Str := ["thing", "sign"]
noncomputable def f1b0 : List S := [.ite (.not (.call 0 [(.var 1)])) [.ret (.lit (.bool false))] []]
noncomputable def f1 : Fn := { npar := 1, nslots := 3, body := [.ite (.or [(.not (.bi (.isinst .tuple) [(.bor 0)])), (.cmp .ne (.bi .len [(.bor 0)]) (.lit (.int 3)))]) [.ret (.lit (.bool false))] [],
    .forS (.one 1) (.e (.var 0)) f1b0,
    .assign 2 (.bin .add (.bin .add (.sub (.bor 0) (.lit (.int 0))) (.sub (.bor 0) (.lit (.int 1)))) (.sub (.bor 0) (.lit (.int 2)))),
    .ret (.cmp .eq (.bi .lenSet [(.bor 2)]) (.bi .len [(.bor 2)]))] }
noncomputable def n1 : List PySem.Str := ["thing", "text", "whole"]
noncomputable def f2 : Fn := { npar := 1, nslots := 1, body := [.ite (.not (.call 1 [(.var 0)])) [.raise 1 [110, 111, 32, 115, 105, 103, 110, 115]] []] }
noncomputable def n2 : List PySem.Str := ["signs"]
noncomputable def f3b0 : List S := [.ite (.cmp .inn (.bor 1) (.bor 2)) [.retOwn 3] []]
noncomputable def f3 : Fn := { npar := 2, nslots := 4, body := [.ite (.or [(.not (.bi (.isinst .str) [(.bor 1)])), (.cmp .ne (.bi .len [(.bor 1)]) (.lit (.int 1)))]) [.ret (.lit (.str []))] [],
    .forS (.many [2, 3]) (.zip [(.var 0), (.list [(.lit (.str kOpen)), (.lit (.str kClose)), (.lit (.str kOn))])]) f3b0,
    .ret (.lit (.str []))] }
noncomputable def n3 : List PySem.Str := ["signs", "thing", "text", "kind"]
noncomputable def f4b0 : List S := [.assign 4 (.call 3 [(.var 0), (.var 3)]),
    .ite (.cmp .eq (.bor 4) (.lit (.str kOpen))) [.assign 2 (.bin .add (.bor 2) (.lit (.int 1)))] [.ite (.cmp .eq (.bor 4) (.lit (.str kClose))) [.assign 2 (.bin .sub (.bor 2) (.lit (.int 1)))] []],
    .ite (.or [(.cmp .eq (.bor 4) (.lit (.str []))), (.cmp .lt (.bor 2) (.lit (.int 0)))]) [.ret (.lit (.bool false))] []]
noncomputable def f4 : Fn := { npar := 2, nslots := 5, body := [.ite (.not (.bi (.isinst .str) [(.bor 1)])) [.ret (.lit (.bool false))] [],
    .assign 2 (.lit (.int 0)),
    .forS (.one 3) (.e (.var 1)) f4b0,
    .ret (.cmp .eq (.bor 2) (.lit (.int 0)))] }
noncomputable def n4 : List PySem.Str := ["signs", "word", "depth", "sign", "kind"]
noncomputable def f5 : Fn := { npar := 2, nslots := 2, body := [.ite (.not (.call 4 [(.var 0), (.var 1)])) [.raise 2 [110, 111, 32, 119, 111, 114, 100, 32, 111, 102, 32, 116, 104, 101, 115, 101, 32, 115, 105, 103, 110, 115]] []] }
noncomputable def n5 : List PySem.Str := ["signs", "word"]
noncomputable def f6 : Fn := { npar := 2, nslots := 2, body := [.ite (.cmp .lt (.bor 1) (.bi .len [(.bor 0)])) [.ret (.sub (.bor 0) (.var 1))] [],
    .ret (.lit (.int 0))] }
noncomputable def n6 : List PySem.Str := ["_law_script", "_law_k"]
noncomputable def f7 : Fn := { npar := 2, nslots := 2, body := [.ret (.bin .mod (.bin .add (.bin .mul (.bor 0) (.lit (.int 48271))) (.bin .mul (.lit (.int 7919)) (.bor 1))) (.lit (.int 1000003)))] }
noncomputable def n7 : List PySem.Str := ["_law_cell", "_law_k"]
noncomputable def f8 : Fn := { npar := 2, nslots := 3, body := [.ownL 2 [(.bi (.isinst (.own 1)) [(.bor 0)]), (.bi (.isinst (.own 2)) [(.bor 0)]), (.bi (.isinst (.own 3)) [(.bor 0)]), (.bi (.isinst (.own 4)) [(.bor 0)])],
    .assign 2 (.bin .add (.bor 2) (.list [(.bi (.isinst (.own 5)) [(.bor 0)]), (.bi (.isinst (.own 6)) [(.bor 0)]), (.bi (.isinst (.own 7)) [(.bor 0)])])),
    .ret (.and [(.cmp .eq (.met .count (.bor 2) [(.lit (.bool true))]) (.lit (.int 1))), (.sub (.bor 2) (.var 1)), (.bi (.isinst (.own 0)) [(.bor 0)]), (.bi (.isinst (.own 8)) [(.bor 0)])])] }
noncomputable def n8 : List PySem.Str := ["_law_e", "_law_own", "_law_some"]
noncomputable def f9b0 : E := (.sub (.bor 1) (.bin .mod (.bin .add (.bor 0) (.bin .mul (.bor 2) (.bor 6))) (.lit (.int 26))))
noncomputable def f9 : Fn := { npar := 1, nslots := 7, body := [.assign 1 (.lit (.str abc)),
    .assign 2 (.bin .add (.lit (.int 1)) (.bin .mul (.lit (.int 2)) (.bin .mod (.bin .div (.bor 0) (.lit (.int 26))) (.lit (.int 5))))),
    .assign 3 (.met .join (.lit (.str [])) [(.comp f9b0 (.one 6) (.range [(.lit (.int 6))]) [])]),
    .assign 4 (.sub (.list [(.lit (.int 1)), (.lit (.int 1)), (.lit (.int 2)), (.lit (.int 0))]) (.bin .mod (.bin .div (.bor 0) (.lit (.int 130))) (.lit (.int 4)))),
    .assign 5 (.bin .add (.bor 4) (.sub (.list [(.lit (.int 1)), (.lit (.int 2)), (.lit (.int 1)), (.lit (.int 1)), (.lit (.int 0))]) (.bin .mod (.bin .div (.bor 0) (.lit (.int 520))) (.lit (.int 5))))),
    .ret (.tuple [(.slice (.bor 3) none (some (.var 4))), (.slice (.bor 3) (some (.var 4)) (some (.var 5))), (.slice (.bor 3) (some (.var 5)) (some (.bin .add (.bor 5) (.bin .mod (.bin .div (.bor 0) (.lit (.int 2600))) (.lit (.int 3))))))])] }
noncomputable def n9 : List PySem.Str := ["_law_cell", "_law_letters", "_law_step", "_law_row", "_law_one", "_law_other"]
noncomputable def f10b0 : List S := [.ite (.and [(.cmp .eq (.bin .mod (.bor 4) (.lit (.int 3))) (.lit (.int 0))), (.cmp .lt (.bor 3) (.lit (.int 4))), (.cmp .ne (.sub (.bor 0) (.lit (.int 0))) (.lit (.str []))), (.cmp .ne (.sub (.bor 0) (.lit (.int 1))) (.lit (.str [])))]) [.assign 2 (.bin .add (.bor 2) (.sub (.sub (.bor 0) (.lit (.int 0))) (.bin .mod (.bin .div (.bor 4) (.lit (.int 3))) (.bi .len [(.sub (.bor 0) (.lit (.int 0)))])))),
    .assign 3 (.bin .add (.bor 3) (.lit (.int 1)))] [.ite (.and [(.cmp .eq (.bin .mod (.bor 4) (.lit (.int 3))) (.lit (.int 1))), (.cmp .gt (.bor 3) (.lit (.int 0)))]) [.assign 2 (.bin .add (.bor 2) (.sub (.sub (.bor 0) (.lit (.int 1))) (.bin .mod (.bin .div (.bor 4) (.lit (.int 3))) (.bi .len [(.sub (.bor 0) (.lit (.int 1)))])))),
    .assign 3 (.bin .sub (.bor 3) (.lit (.int 1)))] [.ite (.cmp .ne (.sub (.bor 0) (.lit (.int 2))) (.lit (.str []))) [.assign 2 (.bin .add (.bor 2) (.sub (.sub (.bor 0) (.lit (.int 2))) (.bin .mod (.bin .div (.bor 4) (.lit (.int 3))) (.bi .len [(.sub (.bor 0) (.lit (.int 2)))]))))] []]]]
noncomputable def f10b1 : List S := [.assign 2 (.bin .add (.bor 2) (.sub (.sub (.bor 0) (.lit (.int 1))) (.bin .mod (.bin .add (.bi .len [(.bor 2)]) (.bor 5)) (.bi .len [(.sub (.bor 0) (.lit (.int 1)))]))))]
noncomputable def f10 : Fn := { npar := 2, nslots := 6, body := [.assign 2 (.lit (.str [])),
    .assign 3 (.lit (.int 0)),
    .forS (.one 4) (.e (.var 1)) f10b0,
    .forS (.one 5) (.range [(.var 3)]) f10b1,
    .retOwn 2] }
noncomputable def n10 : List PySem.Str := ["_law_signs", "_law_cells", "_law_word", "_law_deep", "_law_cell", "_law_k"]
noncomputable def f11b0 : E := (.sub (.bor 1) (.bin .mod (.bin .add (.bor 4) (.bor 11)) (.lit (.int 26))))
noncomputable def f11b1 : List S := [.assign 6 (.bin .mod (.bin .div (.call 6 [(.var 0), (.lit (.int 1))]) (.sub (.list [(.lit (.int 1)), (.lit (.int 6)), (.lit (.int 36))]) (.var 5))) (.lit (.int 6))),
    .append 3 (.met .join (.lit (.str [])) [(.comp f11b0 (.one 11) (.range [(.var 6)]) [])]),
    .assign 4 (.bin .sub (.bin .add (.bor 4) (.bor 6)) (.bi .intOf [(.and [(.cmp .eq (.bin .mod (.bin .div (.bor 2) (.lit (.int 26))) (.lit (.int 5))) (.bor 5)), (.cmp .gt (.bor 6) (.lit (.int 0)))])]))]
noncomputable def f11 : Fn := { npar := 1, nslots := 12, body := [.assign 1 (.lit (.str abc)),
    .assign 2 (.call 6 [(.var 0), (.lit (.int 0))]),
    .ownL 3 [],
    .assign 4 (.bin .mod (.bor 2) (.lit (.int 26))),
    .forS (.one 5) (.range [(.lit (.int 3))]) f11b1,
    .assign 7 (.bin .mod (.bin .div (.bor 2) (.lit (.int 130))) (.lit (.int 3))),
    .assign 8 (.sub (.list [(.lit (.str [65])), (.lit (.str [49])), (.lit (.str [32])), (.lit (.str [10])), (.lit (.str [45])), (.lit (.str [95])), (.lit (.str [97, 97])), (.lit (.str [97, 98])), (.lit (.str []))]) (.bin .mod (.bin .div (.bor 2) (.lit (.int 390))) (.lit (.int 9)))),
    .ite (.cmp .eq (.bin .mod (.bin .div (.bor 2) (.lit (.int 26))) (.lit (.int 5))) (.lit (.int 3))) [.assign 9 (.bin .mod (.bin .div (.bor 2) (.lit (.int 3510))) (.lit (.int 5))),
    .assign 10 (.sub (.bor 3) (.var 7)),
    .setItem 3 (.var 7) (.bin .add (.bin .add (.slice (.bor 10) none (some (.var 9))) (.bor 8)) (.slice (.bor 10) (some (.var 9)) none))] [],
    .retOwn 3] }
noncomputable def n11 : List PySem.Str := ["_law_script", "_law_some", "_law_first", "_law_texts", "_law_at", "_law_k", "_law_many", "_law_place", "_law_odd", "_law_cut", "_law_row"]
noncomputable def f12b0 : List S := [.ite (.or [(.cmp .notin (.bor 3) (.lit (.str abc))), (.cmp .inn (.bor 3) (.bor 1))]) [.ret (.lit (.bool false))] [],
    .assign 1 (.bin .add (.bor 1) (.bor 3))]
noncomputable def f12b1 : List S := [.ite (.or [(.not (.bi (.isinst .str) [(.bor 2)])), (.cmp .gt (.bi .len [(.bor 2)]) (.lit (.int 4)))]) [.ret (.lit (.bool false))] [],
    .forS (.one 3) (.e (.var 2)) f12b0]
noncomputable def f12 : Fn := { npar := 1, nslots := 4, body := [.ite (.or [(.not (.bi (.isinst .tuple) [(.bor 0)])), (.cmp .ne (.bi .len [(.bor 0)]) (.lit (.int 3)))]) [.ret (.lit (.bool false))] [],
    .assign 1 (.lit (.str [])),
    .forS (.one 2) (.e (.var 0)) f12b1,
    .ret (.lit (.bool true))] }
noncomputable def n12 : List PySem.Str := ["_law_thing", "_law_seen", "_law_part", "_law_sign"]
noncomputable def f13 : Fn := { npar := 1, nslots := 5, body := [.ownCall 1 11 [(.var 0)],
    .assign 2 (.bin .mod (.call 6 [(.var 0), (.lit (.int 2))]) (.lit (.int 9))),
    .assign 3 (.bin .mod (.bin .div (.call 6 [(.var 0), (.lit (.int 2))]) (.lit (.int 9))) (.lit (.int 3))),
    .ite (.cmp .eq (.bor 2) (.lit (.int 0))) [.ownL 4 [(.bi .tupleOf [(.slice (.bor 1) none (some (.lit (.int 2))))]), (.bi .tupleOf [(.bin .add (.bor 1) (.list [(.lit (.str []))]))]), (.bi .listOf [(.bor 1)]), (.lit (.str [97, 98, 99])), (.lit .none), (.lit (.int 7)), (.tuple []), .dict0],
    .ret (.sub (.bor 4) (.bin .mod (.call 6 [(.var 0), (.lit (.int 3))]) (.lit (.int 8))))] [],
    .ite (.cmp .eq (.bor 2) (.lit (.int 1))) [.setItem 1 (.var 3) (.sub (.list [(.lit .none), (.lit (.int 5)), (.lit (.bool true)), (.list [(.lit (.str [97]))]), (.tuple [(.lit (.str [97]))]), .dict0]) (.bin .mod (.call 6 [(.var 0), (.lit (.int 3))]) (.lit (.int 6))))] [],
    .ret (.bi .tupleOf [(.bor 1)])] }
noncomputable def n13 : List PySem.Str := ["_law_script", "_law_texts", "_law_way", "_law_place", "_law_some"]
noncomputable def f14 : Fn := { npar := 3, nslots := 4, body := [.tryS [.ite (.cmp .eq (.bor 2) (.lit (.int 0))) [.ret (.cmp .isn (.call 2 [(.var 0)]) (.lit .none))] [],
    .ret (.cmp .isn (.call 5 [(.var 0), (.var 1)]) (.lit .none))] 0 3 [.ret (.tuple [(.lit (.str kRef)), (.call 8 [(.var 3), (.var 2)])])]] }
noncomputable def n14 : List PySem.Str := ["_law_signs", "_law_word", "_law_which", "_law_e"]
noncomputable def f15b0 : List S := [.ite (.cmp .inn (.bor 3) (.sub (.bor 0) (.lit (.int 0)))) [.assign 2 (.bin .add (.bor 2) (.lit (.int 1)))] [.ite (.cmp .inn (.bor 3) (.sub (.bor 0) (.lit (.int 1)))) [.assign 2 (.bin .sub (.bor 2) (.lit (.int 1)))] [.ite (.cmp .notin (.bor 3) (.sub (.bor 0) (.lit (.int 2)))) [.ret (.lit (.bool false))] []]],
    .ite (.cmp .lt (.bor 2) (.lit (.int 0))) [.ret (.lit (.bool false))] []]
noncomputable def f15 : Fn := { npar := 2, nslots := 4, body := [.ite (.not (.bi (.isinst .str) [(.bor 1)])) [.ret (.lit (.bool false))] [],
    .assign 2 (.lit (.int 0)),
    .forS (.one 3) (.e (.var 1)) f15b0,
    .ret (.cmp .eq (.bor 2) (.lit (.int 0)))] }
noncomputable def n15 : List PySem.Str := ["_law_signs", "_law_thing", "_law_deep", "_law_sign"]
noncomputable def f16 : Fn := { npar := 3, nslots := 6, body := [.assign 3 (.bin .mod (.bin .div (.bor 2) (.lit (.int 6))) (.bin .add (.bi .len [(.bor 0)]) (.lit (.int 1)))),
    .assign 4 (.bin .add (.bin .add (.bin .add (.sub (.bor 1) (.lit (.int 0))) (.sub (.bor 1) (.lit (.int 1)))) (.sub (.bor 1) (.lit (.int 2)))) (.lit (.str [65]))),
    .assign 5 (.sub (.bor 4) (.bin .mod (.bin .div (.bor 2) (.lit (.int 66))) (.bi .len [(.bor 4)]))),
    .ite (.cmp .eq (.bin .mod (.bor 2) (.lit (.int 6))) (.lit (.int 1))) [.ret (.bin .add (.bin .add (.slice (.bor 0) none (some (.var 3))) (.bor 5)) (.slice (.bor 0) (some (.var 3)) none))] [],
    .ite (.cmp .eq (.bin .mod (.bor 2) (.lit (.int 6))) (.lit (.int 2))) [.ret (.bin .add (.slice (.bor 0) none (some (.var 3))) (.slice (.bor 0) (some (.bin .add (.bor 3) (.lit (.int 1)))) none))] [],
    .ite (.cmp .eq (.bin .mod (.bor 2) (.lit (.int 6))) (.lit (.int 3))) [.ret (.bin .add (.bin .add (.slice (.bor 0) none (some (.var 3))) (.bor 5)) (.slice (.bor 0) (some (.bin .add (.bor 3) (.lit (.int 1)))) none))] [],
    .ite (.cmp .eq (.bin .mod (.bor 2) (.lit (.int 6))) (.lit (.int 4))) [.ret (.sub (.list [(.lit .none), (.lit (.int 5)), (.lit (.bool true)), (.bi .listOf [(.bor 0)]), (.tuple [(.var 0)]), .dict0, (.bin .add (.bor 0) (.lit (.str [10]))), (.bin .add (.bor 0) (.lit (.str [32])))]) (.bin .mod (.bin .div (.bor 2) (.lit (.int 6))) (.lit (.int 8))))] [],
    .ite (.cmp .eq (.bin .mod (.bor 2) (.lit (.int 6))) (.lit (.int 5))) [.ret (.rev (.bor 0))] [],
    .retOwn 0] }
noncomputable def n16 : List PySem.Str := ["_law_word", "_law_signs", "_law_cell", "_law_at", "_law_every", "_law_sign"]
noncomputable def f17b0 : List S := [.assign 3 (.ite (.call 12 [(.var 1)]) (.lit (.bool true)) (.tuple [(.lit (.str kRef)), (.lit (.bool true))])),
    .ite (.cmp .ne (.call 14 [(.var 1), (.lit (.str [])), (.lit (.int 0))]) (.bor 3)) [.ret (.lit (.bool false))] []]
noncomputable def f17b1 : E := (.call 7 [(.var 10), (.lit (.int 3))])
noncomputable def f17b2 : List S := [.assign 3 (.ite (.call 15 [(.var 4), (.var 6)]) (.lit (.bool true)) (.tuple [(.lit (.str kRef)), (.lit (.bool true))])),
    .ite (.cmp .ne (.call 14 [(.var 4), (.var 6), (.lit (.int 1))]) (.bor 3)) [.ret (.lit (.bool false))] []]
noncomputable def f17b3 : E := (.var 10)
noncomputable def f17b4 : List S := [.assign 8 (.bin .add (.comp f17b3 (.many [10, 11]) (.zip [(.tuple [(.lit (.str kOpen)), (.lit (.str kClose)), (.lit (.str kOn))]), (.var 4)]) [(.cmp .inn (.bor 7) (.bor 11))]) (.list [(.lit (.str []))])),
    .ite (.cmp .ne (.call 3 [(.var 4), (.var 7)]) (.sub (.bor 8) (.lit (.int 0)))) [.ret (.lit (.bool false))] []]
noncomputable def f17 : Fn := { npar := 1, nslots := 12, body := [.assign 1 (.call 13 [(.var 0)]),
    .forS (.one 2) (.range [(.lit (.int 2))]) f17b0,
    .assign 4 (.call 9 [(.call 6 [(.var 0), (.lit (.int 4))])]),
    .assign 5 (.comp f17b1 (.one 10) (.e (.slice (.bor 0) (some (.lit (.int 6))) (some (.lit (.int 46))))) []),
    .assign 6 (.call 16 [(.call 10 [(.var 4), (.var 5)]), (.var 4), (.call 7 [(.call 6 [(.var 0), (.lit (.int 5))]), (.lit (.int 1))])]),
    .forS (.one 2) (.range [(.lit (.int 2))]) f17b2,
    .forS (.one 7) (.e (.lit (.str abc))) f17b4,
    .assign 9 (.sub (.list [(.lit (.str [])), (.lit (.str [65])), (.lit (.str [32])), (.lit .none), (.lit (.int 5)), (.lit (.bool true)), (.list [(.lit (.str [97]))]), (.bin .add (.bin .add (.bin .add (.sub (.bor 4) (.lit (.int 0))) (.sub (.bor 4) (.lit (.int 1)))) (.sub (.bor 4) (.lit (.int 2)))) (.lit (.str [97, 97])))]) (.bin .mod (.call 6 [(.var 0), (.lit (.int 5))]) (.lit (.int 8)))),
    .ret (.and [(.cmp .eq (.call 3 [(.var 4), (.var 9)]) (.lit (.str []))), (.bi (.isinst .str) [(.call 3 [(.var 4), (.var 9)])])])] }
noncomputable def n17 : List PySem.Str := ["_law_script", "_law_thing", "_law_turn", "_law_due", "_law_signs", "_law_cells", "_law_word", "_law_sign", "_law_kinds", "_law_odd"]
noncomputable def c0 : Cls := { ups := [8] }
noncomputable def c1 : Cls := { ups := [0, 8] }
noncomputable def c2 : Cls := { ups := [0, 8] }
noncomputable def c3 : Cls := { ups := [0, 8] }
noncomputable def c4 : Cls := { ups := [0, 8] }
noncomputable def c5 : Cls := { ups := [0, 8] }
noncomputable def c6 : Cls := { ups := [0, 8] }
noncomputable def c7 : Cls := { ups := [0, 8] }
noncomputable def prog : Prog := { fns := [f0, f1, f2, f3, f4, f5, f6, f7, f8, f9, f10, f11, f12, f13, f14, f15, f16, f17], clss := [c0, c1, c2, c3, c4, c5, c6, c7] }
noncomputable def fnN : List (PySem.Str × Nat) := [("are_letters", 0), ("are_signs", 1), ("need_signs", 2), ("kind_of", 3), ("is_word", 4), ("need_word", 5), ("_law_cell_at", 6), ("_law_mixed", 7), ("_law_alone", 8), ("_law_signs_by", 9), ("_law_word_by", 10), ("_law_texts_by", 11), ("_law_good", 12), ("_law_thing_by", 13), ("_law_asked", 14), ("_law_is_word", 15), ("_law_bent", 16), ("law", 17)]
noncomputable def clsN : List (PySem.Str × Nat) := [("NestError", 0), ("BadSigns", 1), ("BadWord", 2), ("BadMachine", 3), ("TooMany", 4), ("NotPlain", 5), ("Unlike", 6), ("NoNote", 7)]
noncomputable def conN : List (PySem.Str × V) := [("LETTERS", (.str abc)), ("MOST_SIGNS", (.int 4))]
end Mine.L01
end

noncomputable section
set_option maxRecDepth 100000
set_option linter.unusedSimpArgs false
namespace Mine.Pl
theorem fn_of {P : Prog} {d : Nat} {hm : Bool} {k : Nat} {fn : Fn} {args : List V} {r : Option (Except Nat Slot)} (h : P.fns[k]? = some fn) (hl : args.length = fn.npar) (e : outF (exs P (callN P d) hm fn.body ⟨frame0 fn (args.map .v)⟩) = r) : callN P (d + 1) hm k args = r := by
  show (P.fns[k]?).bind _ = _
  rw [h]
  exact (if_pos hl).trans e
theorem fn_ret {P : Prog} {d : Nat} {hm : Bool} {k : Nat} {fn : Fn} {args : List V} {y : Slot} {G : List Slot} (h : P.fns[k]? = some fn) (hl : args.length = fn.npar) (e : exs P (callN P d) hm fn.body ⟨frame0 fn (args.map .v)⟩ = some (.ok (.ret y), ⟨G⟩)) : callN P (d + 1) hm k args = some (.ok y) := fn_of h hl (congrArg outF e)
theorem fn_next {P : Prog} {d : Nat} {hm : Bool} {k : Nat} {fn : Fn} {args : List V} {G : List Slot} (h : P.fns[k]? = some fn) (hl : args.length = fn.npar) (e : exs P (callN P d) hm fn.body ⟨frame0 fn (args.map .v)⟩ = some (.ok .next, ⟨G⟩)) : callN P (d + 1) hm k args = some (.ok (.v .none)) := fn_of h hl (congrArg outF e)
theorem fn_err {P : Prog} {d : Nat} {hm : Bool} {k : Nat} {fn : Fn} {args : List V} {c : Nat} {G : List Slot} (h : P.fns[k]? = some fn) (hl : args.length = fn.npar) (e : exs P (callN P d) hm fn.body ⟨frame0 fn (args.map .v)⟩ = some (.error c, ⟨G⟩)) : callN P (d + 1) hm k args = some (.error c) := fn_of h hl (congrArg outF e)
theorem exs_next {P : Prog} {cf : CallF} {hm : Bool} {s : S} {r : List S} {σ σ' : St} (h : ex P cf hm s σ = some (.ok .next, σ')) : exs P cf hm (s :: r) σ = exs P cf hm r σ' := xs_next h rfl
theorem exs_ret {P : Prog} {cf : CallF} {hm : Bool} {s : S} {r : List S} {σ σ' : St} {y : Slot} (h : ex P cf hm s σ = some (.ok (.ret y), σ')) : exs P cf hm (s :: r) σ = some (.ok (.ret y), σ') := xs_ret h
theorem exs_err {P : Prog} {cf : CallF} {hm : Bool} {s : S} {r : List S} {σ σ' : St} {c : Nat} (h : ex P cf hm s σ = some (.error c, σ')) : exs P cf hm (s :: r) σ = some (.error c, σ') := xs_err h
theorem no_err {α : Type} {m : M α} {σ σ₁ : St} {a : α} (h : m σ = some (.ok a, σ₁)) : M.noErr m σ = some (.ok a, σ₁) := by unfold M.noErr; rw [h]
theorem forL_next {b : M Fl} {t : Tgt} {x : V} {xs : List V} {σ σ₁ σ₂ : St} (h : storeTgt t x σ = some (.ok (), σ₁)) (hb : b σ₁ = some (.ok .next, σ₂)) : forL (M.noErr b) t (x :: xs) σ = forL (M.noErr b) t xs σ₂ :=
  show M.bind (storeTgt t x) (fun _ => M.bind (M.noErr b) fun fl => match fl with | .next => forL (M.noErr b) t xs | .ret y => M.pure (.ret y)) σ = _ from bind_ok h (bind_ok (no_err hb) rfl)
theorem forL_ret {b : M Fl} {t : Tgt} {x : V} {xs : List V} {σ σ₁ σ₂ : St} {y : Slot} (h : storeTgt t x σ = some (.ok (), σ₁)) (hb : b σ₁ = some (.ok (.ret y), σ₂)) : forL (M.noErr b) t (x :: xs) σ = some (.ok (.ret y), σ₂) :=
  show M.bind (storeTgt t x) (fun _ => M.bind (M.noErr b) fun fl => match fl with | .next => forL (M.noErr b) t xs | .ret y => M.pure (.ret y)) σ = _ from bind_ok h (bind_ok (no_err hb) rfl)
theorem ex_for {P : Prog} {cf : CallF} {t : Tgt} {src : Src} {b : List S} {σ σ₁ : St} {xs : List V} (h : evSrc P cf false src σ = some (.ok xs, σ₁)) : ex P cf false (.forS t src b) σ = forL (M.noErr (exs P cf false b)) t xs σ₁ := x_for h rfl
theorem compL_one {el : M V} {t : Tgt} {x y : V} {xs ys : List V} {σ σ₁ σ₂ σ₃ : St} (h : storeTgt t x σ = some (.ok (), σ₁)) (hb : el σ₁ = some (.ok y, σ₂)) (hr : compL el (M.noErr (M.pure true)) t xs σ₂ = some (.ok ys, σ₃)) : compL el (M.noErr (M.pure true)) t (x :: xs) σ = some (.ok (y :: ys), σ₃) :=
  show M.bind (storeTgt t x) (fun _ => M.bind (M.noErr (M.pure true)) fun ok => if ok = true then M.bind el fun y => M.bind (compL el (M.noErr (M.pure true)) t xs) fun ys => M.pure (y :: ys) else compL el (M.noErr (M.pure true)) t xs) σ = _ from bind_ok h (bind_ok (u := true) rfl (bind_ok hb (bind_ok hr rfl)))
theorem sz_of {n : Nat} (h : n ≤ 1000) : n ≤ szLine := by unfold szLine; omega
theorem seq_list {l : List V} (h : l.length ≤ 1000) : seqV (.list l) = some l := if_pos (sz_of h)
theorem seq_tuple {l : List V} (h : l.length ≤ 1000) : seqV (.tuple l) = some l := if_pos (sz_of h)
theorem seq_str {l : List Nat} (h : l.length ≤ 1000) : seqV (.str l) = some (charsV l) := if_pos (sz_of h)
theorem chars_len (l : List Nat) : (charsV l).length = l.length := List.length_map ..
theorem sub_at {x : V} {k : Nat} {z : V} (h : k ≤ 1000000) (e : itemAt x k = some z) : subOp x (.int k) = some z := (if_pos (Nat.ble_eq_true_of_le (Nat.le_trans h (by decide)))).trans e
theorem sub_list {l : List V} {k : Nat} {x : V} (h : k ≤ 1000000) (e : l[k]? = some x) : subOp (.list l) (.int k) = some x := sub_at h e
theorem sub_tuple {l : List V} {k : Nat} {x : V} (h : k ≤ 1000000) (e : l[k]? = some x) : subOp (.tuple l) (.int k) = some x := sub_at h e
theorem sub_str {l : List Nat} {k : Nat} {x : Nat} (h : k ≤ 1000000) (e : l[k]? = some x) : subOp (.str l) (.int k) = some (.str [x]) := sub_at h (congrArg (Option.map fun c => V.str [c]) e)
theorem add_str {a b : List Nat} (h : a.length + b.length ≤ 1000) : binOp .add (.str a) (.str b) = some (.str (a ++ b)) := if_pos (sz_of h)
theorem add_list {a b : List V} (h : a.length + b.length ≤ 1000) : binOp .add (.list a) (.list b) = some (.list (a ++ b)) := if_pos (sz_of h)
theorem div_pos (a b : Int) (h0 : 0 < b) (h1 : b ≤ 1000000) : binOp .div (.int a) (.int b) = some (.int (a.fdiv b)) := if_neg (by omega)
theorem mod_pos (a b : Int) (h0 : 0 < b) : binOp .mod (.int a) (.int b) = some (.int (a.fmod b)) := if_neg (by omega)
theorem add_int (a b : Int) : binOp .add (.int a) (.int b) = some (.int (a + b)) := rfl
theorem sub_int (a b : Int) : binOp .sub (.int a) (.int b) = some (.int (a - b)) := rfl
theorem mul_int (a b : Int) (h : b.natAbs ≤ 1000000 ∨ a.natAbs ≤ 1000000) : binOp .mul (.int a) (.int b) = some (.int (a * b)) := if_pos h
theorem sz1 (a : V) : ([a].length ≤ szLine) = True := eq_true (sz_of (n := 1) (by decide))
theorem sz2 (a b : V) : ([a, b].length ≤ szLine) = True := eq_true (sz_of (n := 2) (by decide))
theorem sz3 (a b c : V) : ([a, b, c].length ≤ szLine) = True := eq_true (sz_of (n := 3) (by decide))
theorem sz4 (a b c d : V) : ([a, b, c, d].length ≤ szLine) = True := eq_true (sz_of (n := 4) (by decide))
theorem sz5 (a b c d e : V) : ([a, b, c, d, e].length ≤ szLine) = True := eq_true (sz_of (n := 5) (by decide))
theorem sz6 (a b c d e f : V) : ([a, b, c, d, e, f].length ≤ szLine) = True := eq_true (sz_of (n := 6) (by decide))
theorem sz7 (a b c d e f g : V) : ([a, b, c, d, e, f, g].length ≤ szLine) = True := eq_true (sz_of (n := 7) (by decide))
theorem sz8 (a b c d e f g h : V) : ([a, b, c, d, e, f, g, h].length ≤ szLine) = True := eq_true (sz_of (n := 8) (by decide))
theorem sz9 (a b c d e f g h i : V) : ([a, b, c, d, e, f, g, h, i].length ≤ szLine) = True := eq_true (sz_of (n := 9) (by decide))
theorem sz0 : (([] : List V).length ≤ szLine) = True := eq_true (sz_of (by decide))
end Mine.Pl
namespace Mine.L01
open Mine.Pl
open PySem (Str)

/-! the law, in plain terms -/
noncomputable def low (c : Nat) : Bool := abc.elem c
noncomputable def cellAt (scr : List Int) (k : Nat) : Int := scr.getD k 0

theorem call6 (d : Nat) (hm : Bool) (scr : List Int) (k : Nat) (hk : k < 100) (hs : scr.length ≤ 63) : callN prog (d + 1) hm 6 [.list (scr.map .int), .int k] = some (.ok (.v (.int (cellAt scr k)))) := by
  have h1 : seqV (.list (scr.map .int)) = some (scr.map .int) := seq_list (by rw [List.length_map]; omega)
  have h3 : decide ((k : Int) < ((scr.map V.int).length : Int)) = decide (k < scr.length) := by simp
  refine fn_ret (fn := f6) (G := [.v (.list (scr.map .int)), .v (.int k)]) rfl rfl ?_
  show exs prog (callN prog d) hm f6.body ⟨[.v (.list (scr.map .int)), .v (.int k)]⟩ = _
  simp only [f6]
  by_cases h : k < scr.length
  · have h2 : subOp (.list (scr.map .int)) (.int k) = some (.int (cellAt scr k)) := sub_list (by omega) (by simp [cellAt, h])
    have h4 := h3.trans (decide_eq_true h)
    (repeat (first | with_reducible (first | exact h1 | exact h2 | exact h4 | apply e_lit | apply e_bor | apply e_var | apply o_none | apply s_nil | apply e_dict0 | apply xs_nil | apply i_nil | apply y_nil | apply e_bin | apply e_cmp | apply e_sub | apply e_slice | apply o_some | apply s_cons | apply e_call | apply e_bi | apply e_list | apply e_tuple | apply e_not | apply e_rev | apply e_met | apply e_ite | apply e_and | apply a_one | apply a_c | apply b_not | apply b_and | apply b_or | apply b_of | apply i_c | apply y_c | apply x_assign | apply x_ownL | apply x_setItem | apply x_append | apply x_ret | apply x_retOwn | apply x_ownCall | apply x_if | exact x_raise | apply xs_retE | apply xs_retO | apply xs_ifR | apply m_ret | apply xs_next | apply xs_ret | apply r_e | apply r_1 | apply r_zip | exact add_int _ _ | exact sub_int _ _ | exact sz0 | exact sz1 _ | exact sz2 _ _ | exact sz3 _ _ _ | exact sz4 _ _ _ _ | exact sz5 _ _ _ _ _ | exact sz6 _ _ _ _ _ _ | exact sz7 _ _ _ _ _ _ _ | exact sz8 _ _ _ _ _ _ _ _ | exact sz9 _ _ _ _ _ _ _ _ _ | apply q_eq | apply q_ne | apply d_str | apply q_len) | ((with_reducible refine c_tt ?_ ?_); · exact h1) | ((with_reducible refine c_ff ?_ ?_); · exact h1) | ((with_reducible refine c_tt ?_ ?_); · exact h2) | ((with_reducible refine c_ff ?_ ?_); · exact h2) | ((with_reducible refine c_tt ?_ ?_); · exact h4) | ((with_reducible refine c_ff ?_ ?_); · exact h4) | ((with_reducible refine c_tt ?_ ?_); · rfl) | ((with_reducible refine c_ff ?_ ?_); · rfl) | ((with_reducible refine div_pos _ _ ?_ ?_) <;> decide) | ((with_reducible refine mod_pos _ _ ?_); decide) | rfl | (intro q; cases q)))
  · have h2 : cellAt scr k = 0 := by simp [cellAt]; rw [List.getElem?_eq_none (by omega)]; rfl
    have h4 := h3.trans (decide_eq_false h)
    rw [h2]
    (repeat (first | with_reducible (first | exact h1 | exact h4 | apply e_lit | apply e_bor | apply e_var | apply o_none | apply s_nil | apply e_dict0 | apply xs_nil | apply i_nil | apply y_nil | apply e_bin | apply e_cmp | apply e_sub | apply e_slice | apply o_some | apply s_cons | apply e_call | apply e_bi | apply e_list | apply e_tuple | apply e_not | apply e_rev | apply e_met | apply e_ite | apply e_and | apply a_one | apply a_c | apply b_not | apply b_and | apply b_or | apply b_of | apply i_c | apply y_c | apply x_assign | apply x_ownL | apply x_setItem | apply x_append | apply x_ret | apply x_retOwn | apply x_ownCall | apply x_if | exact x_raise | apply xs_retE | apply xs_retO | apply xs_ifR | apply m_ret | apply xs_next | apply xs_ret | apply r_e | apply r_1 | apply r_zip | exact add_int _ _ | exact sub_int _ _ | exact sz0 | exact sz1 _ | exact sz2 _ _ | exact sz3 _ _ _ | exact sz4 _ _ _ _ | exact sz5 _ _ _ _ _ | exact sz6 _ _ _ _ _ _ | exact sz7 _ _ _ _ _ _ _ | exact sz8 _ _ _ _ _ _ _ _ | exact sz9 _ _ _ _ _ _ _ _ _ | apply q_eq | apply q_ne | apply d_str | apply q_len) | ((with_reducible refine c_tt ?_ ?_); · exact h1) | ((with_reducible refine c_ff ?_ ?_); · exact h1) | ((with_reducible refine c_tt ?_ ?_); · exact h4) | ((with_reducible refine c_ff ?_ ?_); · exact h4) | ((with_reducible refine c_tt ?_ ?_); · rfl) | ((with_reducible refine c_ff ?_ ?_); · rfl) | ((with_reducible refine div_pos _ _ ?_ ?_) <;> decide) | ((with_reducible refine mod_pos _ _ ?_); decide) | rfl | (intro q; cases q)))

theorem call7 (d : Nat) (hm : Bool) (c : Int) (k : Nat) : callN prog (d + 1) hm 7 [.int c, .int k] = some (.ok (.v (.int ((c * 48271 + 7919 * k).fmod 1000003)))) := by
  refine fn_ret (fn := f7) (G := [.v (.int c), .v (.int k)]) rfl rfl ?_
  show exs prog (callN prog d) hm f7.body ⟨[.v (.int c), .v (.int k)]⟩ = _
  simp only [f7]
  have h1 : binOp .mul (.int c) (.int 48271) = some (.int (c * 48271)) := mul_int _ _ (.inl (by decide))
  have h2 : binOp .mul (.int 7919) (.int k) = some (.int (7919 * k)) := mul_int _ _ (.inr (by decide))
  (repeat (first | with_reducible (first | exact h1 | exact h2 | apply e_lit | apply e_bor | apply e_var | apply o_none | apply s_nil | apply e_dict0 | apply xs_nil | apply i_nil | apply y_nil | apply e_bin | apply e_cmp | apply e_sub | apply e_slice | apply o_some | apply s_cons | apply e_call | apply e_bi | apply e_list | apply e_tuple | apply e_not | apply e_rev | apply e_met | apply e_ite | apply e_and | apply a_one | apply a_c | apply b_not | apply b_and | apply b_or | apply b_of | apply i_c | apply y_c | apply x_assign | apply x_ownL | apply x_setItem | apply x_append | apply x_ret | apply x_retOwn | apply x_ownCall | apply x_if | exact x_raise | apply xs_retE | apply xs_retO | apply xs_ifR | apply m_ret | apply xs_next | apply xs_ret | apply r_e | apply r_1 | apply r_zip | exact add_int _ _ | exact sub_int _ _ | exact sz0 | exact sz1 _ | exact sz2 _ _ | exact sz3 _ _ _ | exact sz4 _ _ _ _ | exact sz5 _ _ _ _ _ | exact sz6 _ _ _ _ _ _ | exact sz7 _ _ _ _ _ _ _ | exact sz8 _ _ _ _ _ _ _ _ | exact sz9 _ _ _ _ _ _ _ _ _ | apply q_eq | apply q_ne | apply d_str | apply q_len) | ((with_reducible refine c_tt ?_ ?_); · exact h1) | ((with_reducible refine c_ff ?_ ?_); · exact h1) | ((with_reducible refine c_tt ?_ ?_); · exact h2) | ((with_reducible refine c_ff ?_ ?_); · exact h2) | ((with_reducible refine c_tt ?_ ?_); · rfl) | ((with_reducible refine c_ff ?_ ?_); · rfl) | ((with_reducible refine div_pos _ _ ?_ ?_) <;> decide) | ((with_reducible refine mod_pos _ _ ?_); decide) | rfl | (intro q; cases q)))
theorem call8 (d : Nat) (c : Nat) (hc : c = 0 ∨ c = 1) : callN prog (d + 1) true 8 [.exc (c + 1), .int c] = some (.ok (.v (.bool true))) := by
  rcases hc with rfl | rfl <;> exact fn_of (fn := f8) rfl rfl rfl

noncomputable def letters : V → Bool
  | .str s => decide (s.length ≤ 4) && s.all low
  | _ => false
noncomputable def part : V → Prop
  | .none | .bool _ | .int _ | .list _ | .tuple _ | .dict => True
  | .str s => s.length ≤ 1000
  | _ => False
theorem loop0 (cf : CallF) (s : List Nat) : ∀ (l : List Nat) (x : Slot), ∃ x', forL (M.noErr (exs prog cf false f0b0)) (.one 1) (charsV l) ⟨[.v (.str s), x]⟩ =
    some (.ok (if l.all low then .next else .ret (.v (.bool false))), ⟨[.v (.str s), x']⟩)
  | [], x => ⟨x, rfl⟩
  | c :: l, x => by
    cases hc : low c with
    | true =>
      have hn : (!abc.elem c) = false := by rw [show abc.elem c = true from hc]; rfl
      have st : exs prog cf false f0b0 ⟨[.v (.str s), .v (.str [c])]⟩ = some (.ok .next, ⟨[.v (.str s), .v (.str [c])]⟩) := by
        simp only [f0b0]
        (repeat (first | with_reducible (first | exact hn | apply e_lit | apply e_bor | apply e_var | apply o_none | apply s_nil | apply e_dict0 | apply xs_nil | apply i_nil | apply y_nil | apply e_bin | apply e_cmp | apply e_sub | apply e_slice | apply o_some | apply s_cons | apply e_call | apply e_bi | apply e_list | apply e_tuple | apply e_not | apply e_rev | apply e_met | apply e_ite | apply e_and | apply a_one | apply a_c | apply b_not | apply b_and | apply b_or | apply b_of | apply i_c | apply y_c | apply x_assign | apply x_ownL | apply x_setItem | apply x_append | apply x_ret | apply x_retOwn | apply x_ownCall | apply x_if | exact x_raise | apply xs_retE | apply xs_retO | apply xs_ifR | apply m_ret | apply xs_next | apply xs_ret | apply r_e | apply r_1 | apply r_zip | exact add_int _ _ | exact sub_int _ _ | exact sz0 | exact sz1 _ | exact sz2 _ _ | exact sz3 _ _ _ | exact sz4 _ _ _ _ | exact sz5 _ _ _ _ _ | exact sz6 _ _ _ _ _ _ | exact sz7 _ _ _ _ _ _ _ | exact sz8 _ _ _ _ _ _ _ _ | exact sz9 _ _ _ _ _ _ _ _ _ | apply q_eq | apply q_ne | apply d_str | apply q_len) | ((with_reducible refine c_tt ?_ ?_); · exact hn) | ((with_reducible refine c_ff ?_ ?_); · exact hn) | ((with_reducible refine c_tt ?_ ?_); · rfl) | ((with_reducible refine c_ff ?_ ?_); · rfl) | ((with_reducible refine div_pos _ _ ?_ ?_) <;> decide) | ((with_reducible refine mod_pos _ _ ?_); decide) | rfl | (intro q; cases q)))
      obtain ⟨x', h⟩ := loop0 cf s l (.v (.str [c]))
      refine ⟨x', ?_⟩
      rw [show charsV (c :: l) = .str [c] :: charsV l from rfl, forL_next (σ₁ := ⟨[.v (.str s), .v (.str [c])]⟩) rfl st, h, List.all_cons, hc, Bool.true_and]
    | false =>
      have hn : (!abc.elem c) = true := by rw [show abc.elem c = false from hc]; rfl
      have st : exs prog cf false f0b0 ⟨[.v (.str s), .v (.str [c])]⟩ = some (.ok (.ret (.v (.bool false))), ⟨[.v (.str s), .v (.str [c])]⟩) := by
        simp only [f0b0]
        (repeat (first | with_reducible (first | exact hn | apply e_lit | apply e_bor | apply e_var | apply o_none | apply s_nil | apply e_dict0 | apply xs_nil | apply i_nil | apply y_nil | apply e_bin | apply e_cmp | apply e_sub | apply e_slice | apply o_some | apply s_cons | apply e_call | apply e_bi | apply e_list | apply e_tuple | apply e_not | apply e_rev | apply e_met | apply e_ite | apply e_and | apply a_one | apply a_c | apply b_not | apply b_and | apply b_or | apply b_of | apply i_c | apply y_c | apply x_assign | apply x_ownL | apply x_setItem | apply x_append | apply x_ret | apply x_retOwn | apply x_ownCall | apply x_if | exact x_raise | apply xs_retE | apply xs_retO | apply xs_ifR | apply m_ret | apply xs_next | apply xs_ret | apply r_e | apply r_1 | apply r_zip | exact add_int _ _ | exact sub_int _ _ | exact sz0 | exact sz1 _ | exact sz2 _ _ | exact sz3 _ _ _ | exact sz4 _ _ _ _ | exact sz5 _ _ _ _ _ | exact sz6 _ _ _ _ _ _ | exact sz7 _ _ _ _ _ _ _ | exact sz8 _ _ _ _ _ _ _ _ | exact sz9 _ _ _ _ _ _ _ _ _ | apply q_eq | apply q_ne | apply d_str | apply q_len) | ((with_reducible refine c_tt ?_ ?_); · exact hn) | ((with_reducible refine c_ff ?_ ?_); · exact hn) | ((with_reducible refine c_tt ?_ ?_); · rfl) | ((with_reducible refine c_ff ?_ ?_); · rfl) | ((with_reducible refine div_pos _ _ ?_ ?_) <;> decide) | ((with_reducible refine mod_pos _ _ ?_); decide) | rfl | (intro q; cases q)))
      refine ⟨.v (.str [c]), ?_⟩
      rw [show charsV (c :: l) = .str [c] :: charsV l from rfl, forL_ret (σ₁ := ⟨[.v (.str s), .v (.str [c])]⟩) rfl st, List.all_cons, hc]; rfl
theorem call0 (d : Nat) (x : V) (hx : part x) : callN prog (d + 1) false 0 [x] = some (.ok (.v (.bool (letters x)))) := by
  cases x with
  | str s =>
    have h1 : seqV (.str s) = some (charsV s) := seq_str hx
    by_cases h4 : s.length ≤ 4
    · obtain ⟨x', h⟩ := loop0 (callN prog d) s s .unset
      have h4' : decide ((4 : Int) < ((charsV s).length : Int)) = false := decide_eq_false (by rw [chars_len]; omega)
      refine fn_ret (fn := f0) (G := [.v (.str s), x']) rfl rfl ?_
      show exs prog (callN prog d) false f0.body ⟨[.v (.str s), .unset]⟩ = _
      simp only [f0]
      refine xs_next (σ₁ := ⟨[.v (.str s), .unset]⟩) (by (repeat (first | with_reducible (first | exact h1 | exact h4' | apply e_lit | apply e_bor | apply e_var | apply o_none | apply s_nil | apply e_dict0 | apply xs_nil | apply i_nil | apply y_nil | apply e_bin | apply e_cmp | apply e_sub | apply e_slice | apply o_some | apply s_cons | apply e_call | apply e_bi | apply e_list | apply e_tuple | apply e_not | apply e_rev | apply e_met | apply e_ite | apply e_and | apply a_one | apply a_c | apply b_not | apply b_and | apply b_or | apply b_of | apply i_c | apply y_c | apply x_assign | apply x_ownL | apply x_setItem | apply x_append | apply x_ret | apply x_retOwn | apply x_ownCall | apply x_if | exact x_raise | apply xs_retE | apply xs_retO | apply xs_ifR | apply m_ret | apply xs_next | apply xs_ret | apply r_e | apply r_1 | apply r_zip | exact add_int _ _ | exact sub_int _ _ | exact sz0 | exact sz1 _ | exact sz2 _ _ | exact sz3 _ _ _ | exact sz4 _ _ _ _ | exact sz5 _ _ _ _ _ | exact sz6 _ _ _ _ _ _ | exact sz7 _ _ _ _ _ _ _ | exact sz8 _ _ _ _ _ _ _ _ | exact sz9 _ _ _ _ _ _ _ _ _ | apply q_eq | apply q_ne | apply d_str | apply q_len) | ((with_reducible refine c_tt ?_ ?_); · exact h1) | ((with_reducible refine c_ff ?_ ?_); · exact h1) | ((with_reducible refine c_tt ?_ ?_); · exact h4') | ((with_reducible refine c_ff ?_ ?_); · exact h4') | ((with_reducible refine c_tt ?_ ?_); · rfl) | ((with_reducible refine c_ff ?_ ?_); · rfl) | ((with_reducible refine div_pos _ _ ?_ ?_) <;> decide) | ((with_reducible refine mod_pos _ _ ?_); decide) | rfl | (intro q; cases q)))) ?_
      have e2 := (ex_for (P := prog) (cf := callN prog d) (t := .one 1) (src := .e (.var 0)) (b := f0b0) (xs := charsV s) (σ := ⟨[.v (.str s), .unset]⟩) (σ₁ := ⟨[.v (.str s), .unset]⟩) (by (repeat (first | with_reducible (first | exact h1 | apply e_lit | apply e_bor | apply e_var | apply o_none | apply s_nil | apply e_dict0 | apply xs_nil | apply i_nil | apply y_nil | apply e_bin | apply e_cmp | apply e_sub | apply e_slice | apply o_some | apply s_cons | apply e_call | apply e_bi | apply e_list | apply e_tuple | apply e_not | apply e_rev | apply e_met | apply e_ite | apply e_and | apply a_one | apply a_c | apply b_not | apply b_and | apply b_or | apply b_of | apply i_c | apply y_c | apply x_assign | apply x_ownL | apply x_setItem | apply x_append | apply x_ret | apply x_retOwn | apply x_ownCall | apply x_if | exact x_raise | apply xs_retE | apply xs_retO | apply xs_ifR | apply m_ret | apply xs_next | apply xs_ret | apply r_e | apply r_1 | apply r_zip | exact add_int _ _ | exact sub_int _ _ | exact sz0 | exact sz1 _ | exact sz2 _ _ | exact sz3 _ _ _ | exact sz4 _ _ _ _ | exact sz5 _ _ _ _ _ | exact sz6 _ _ _ _ _ _ | exact sz7 _ _ _ _ _ _ _ | exact sz8 _ _ _ _ _ _ _ _ | exact sz9 _ _ _ _ _ _ _ _ _ | apply q_eq | apply q_ne | apply d_str | apply q_len) | ((with_reducible refine c_tt ?_ ?_); · exact h1) | ((with_reducible refine c_ff ?_ ?_); · exact h1) | ((with_reducible refine c_tt ?_ ?_); · rfl) | ((with_reducible refine c_ff ?_ ?_); · rfl) | ((with_reducible refine div_pos _ _ ?_ ?_) <;> decide) | ((with_reducible refine mod_pos _ _ ?_); decide) | rfl | (intro q; cases q))))).trans h
      cases hl : s.all low with
      | true =>
        rw [hl] at e2
        refine xs_next e2 ?_
        rw [show letters (.str s) = (decide (s.length ≤ 4) && s.all low) from rfl, hl, decide_eq_true h4]
        (repeat (first | with_reducible (first | apply e_lit | apply e_bor | apply e_var | apply o_none | apply s_nil | apply e_dict0 | apply xs_nil | apply i_nil | apply y_nil | apply e_bin | apply e_cmp | apply e_sub | apply e_slice | apply o_some | apply s_cons | apply e_call | apply e_bi | apply e_list | apply e_tuple | apply e_not | apply e_rev | apply e_met | apply e_ite | apply e_and | apply a_one | apply a_c | apply b_not | apply b_and | apply b_or | apply b_of | apply i_c | apply y_c | apply x_assign | apply x_ownL | apply x_setItem | apply x_append | apply x_ret | apply x_retOwn | apply x_ownCall | apply x_if | exact x_raise | apply xs_retE | apply xs_retO | apply xs_ifR | apply m_ret | apply xs_next | apply xs_ret | apply r_e | apply r_1 | apply r_zip | exact add_int _ _ | exact sub_int _ _ | exact sz0 | exact sz1 _ | exact sz2 _ _ | exact sz3 _ _ _ | exact sz4 _ _ _ _ | exact sz5 _ _ _ _ _ | exact sz6 _ _ _ _ _ _ | exact sz7 _ _ _ _ _ _ _ | exact sz8 _ _ _ _ _ _ _ _ | exact sz9 _ _ _ _ _ _ _ _ _ | apply q_eq | apply q_ne | apply d_str | apply q_len) | ((with_reducible refine c_tt ?_ ?_); · rfl) | ((with_reducible refine c_ff ?_ ?_); · rfl) | ((with_reducible refine div_pos _ _ ?_ ?_) <;> decide) | ((with_reducible refine mod_pos _ _ ?_); decide) | rfl | (intro q; cases q)))
      | false =>
        rw [hl] at e2
        rw [show letters (.str s) = (decide (s.length ≤ 4) && s.all low) from rfl, hl, Bool.and_false]
        exact xs_ret e2
    · have h4' : decide ((4 : Int) < ((charsV s).length : Int)) = true := decide_eq_true (by rw [chars_len]; omega)
      refine fn_ret (fn := f0) (G := [.v (.str s), .unset]) rfl rfl ?_
      show exs prog (callN prog d) false f0.body ⟨[.v (.str s), .unset]⟩ = _
      simp only [f0]
      rw [show letters (.str s) = (decide (s.length ≤ 4) && s.all low) from rfl, decide_eq_false h4, Bool.false_and]
      (repeat (first | with_reducible (first | exact h1 | exact h4' | apply e_lit | apply e_bor | apply e_var | apply o_none | apply s_nil | apply e_dict0 | apply xs_nil | apply i_nil | apply y_nil | apply e_bin | apply e_cmp | apply e_sub | apply e_slice | apply o_some | apply s_cons | apply e_call | apply e_bi | apply e_list | apply e_tuple | apply e_not | apply e_rev | apply e_met | apply e_ite | apply e_and | apply a_one | apply a_c | apply b_not | apply b_and | apply b_or | apply b_of | apply i_c | apply y_c | apply x_assign | apply x_ownL | apply x_setItem | apply x_append | apply x_ret | apply x_retOwn | apply x_ownCall | apply x_if | exact x_raise | apply xs_retE | apply xs_retO | apply xs_ifR | apply m_ret | apply xs_next | apply xs_ret | apply r_e | apply r_1 | apply r_zip | exact add_int _ _ | exact sub_int _ _ | exact sz0 | exact sz1 _ | exact sz2 _ _ | exact sz3 _ _ _ | exact sz4 _ _ _ _ | exact sz5 _ _ _ _ _ | exact sz6 _ _ _ _ _ _ | exact sz7 _ _ _ _ _ _ _ | exact sz8 _ _ _ _ _ _ _ _ | exact sz9 _ _ _ _ _ _ _ _ _ | apply q_eq | apply q_ne | apply d_str | apply q_len) | ((with_reducible refine c_tt ?_ ?_); · exact h1) | ((with_reducible refine c_ff ?_ ?_); · exact h1) | ((with_reducible refine c_tt ?_ ?_); · exact h4') | ((with_reducible refine c_ff ?_ ?_); · exact h4') | ((with_reducible refine c_tt ?_ ?_); · rfl) | ((with_reducible refine c_ff ?_ ?_); · rfl) | ((with_reducible refine div_pos _ _ ?_ ?_) <;> decide) | ((with_reducible refine mod_pos _ _ ?_); decide) | rfl | (intro q; cases q)))
  | none => rfl
  | bool => rfl
  | int => rfl
  | list => rfl
  | tuple => rfl
  | dict => rfl
  | exc => exact hx.elim

/-! kind_of -/
noncomputable def kindV (a b c : List Nat) : V → List Nat
  | .str [x] => if a.elem x then kOpen else if b.elem x then kClose else if c.elem x then kOn else []
  | _ => []
noncomputable abbrev sg (a b c : List Nat) : V := .tuple [.str a, .str b, .str c]
theorem kind1 (a b c : List Nat) (x : Nat) : kindV a b c (.str [x]) = if a.elem x then kOpen else if b.elem x then kClose else if c.elem x then kOn else [] := rfl
theorem st3n (cf : CallF) (g : V) (x : Nat) (t k : List Nat) (h : t.elem x = false) : exs prog cf false f3b0 ⟨[.v g, .v (.str [x]), .v (.str t), .v (.str k)]⟩ = some (.ok .next, ⟨[.v g, .v (.str [x]), .v (.str t), .v (.str k)]⟩) := by
  simp only [f3b0]
  refine xs_next (x_if (t := t.elem x) ?_ (c_ff h xs_nil)) xs_nil
  (repeat (first | with_reducible (first | apply e_lit | apply e_bor | apply e_var | apply o_none | apply s_nil | apply e_dict0 | apply xs_nil | apply i_nil | apply y_nil | apply e_bin | apply e_cmp | apply e_sub | apply e_slice | apply o_some | apply s_cons | apply e_call | apply e_bi | apply e_list | apply e_tuple | apply e_not | apply e_rev | apply e_met | apply e_ite | apply e_and | apply a_one | apply a_c | apply b_not | apply b_and | apply b_or | apply b_of | apply i_c | apply y_c | apply x_assign | apply x_ownL | apply x_setItem | apply x_append | apply x_ret | apply x_retOwn | apply x_ownCall | apply x_if | exact x_raise | apply xs_retE | apply xs_retO | apply xs_ifR | apply m_ret | apply xs_next | apply xs_ret | apply r_e | apply r_1 | apply r_zip | exact add_int _ _ | exact sub_int _ _ | exact sz0 | exact sz1 _ | exact sz2 _ _ | exact sz3 _ _ _ | exact sz4 _ _ _ _ | exact sz5 _ _ _ _ _ | exact sz6 _ _ _ _ _ _ | exact sz7 _ _ _ _ _ _ _ | exact sz8 _ _ _ _ _ _ _ _ | exact sz9 _ _ _ _ _ _ _ _ _ | apply q_eq | apply q_ne | apply d_str | apply q_len) | ((with_reducible refine c_tt ?_ ?_); · rfl) | ((with_reducible refine c_ff ?_ ?_); · rfl) | ((with_reducible refine div_pos _ _ ?_ ?_) <;> decide) | ((with_reducible refine mod_pos _ _ ?_); decide) | rfl | (intro q; cases q)))
theorem st3r (cf : CallF) (g : V) (x : Nat) (t k : List Nat) (h : t.elem x = true) : exs prog cf false f3b0 ⟨[.v g, .v (.str [x]), .v (.str t), .v (.str k)]⟩ = some (.ok (.ret (.v (.str k))), ⟨[.v g, .v (.str [x]), .v (.str t), .v (.str k)]⟩) := by
  simp only [f3b0]
  refine xs_ret (x_if (t := t.elem x) ?_ (c_tt h (xs_retO rfl (by intro q; cases q))))
  (repeat (first | with_reducible (first | apply e_lit | apply e_bor | apply e_var | apply o_none | apply s_nil | apply e_dict0 | apply xs_nil | apply i_nil | apply y_nil | apply e_bin | apply e_cmp | apply e_sub | apply e_slice | apply o_some | apply s_cons | apply e_call | apply e_bi | apply e_list | apply e_tuple | apply e_not | apply e_rev | apply e_met | apply e_ite | apply e_and | apply a_one | apply a_c | apply b_not | apply b_and | apply b_or | apply b_of | apply i_c | apply y_c | apply x_assign | apply x_ownL | apply x_setItem | apply x_append | apply x_ret | apply x_retOwn | apply x_ownCall | apply x_if | exact x_raise | apply xs_retE | apply xs_retO | apply xs_ifR | apply m_ret | apply xs_next | apply xs_ret | apply r_e | apply r_1 | apply r_zip | exact add_int _ _ | exact sub_int _ _ | exact sz0 | exact sz1 _ | exact sz2 _ _ | exact sz3 _ _ _ | exact sz4 _ _ _ _ | exact sz5 _ _ _ _ _ | exact sz6 _ _ _ _ _ _ | exact sz7 _ _ _ _ _ _ _ | exact sz8 _ _ _ _ _ _ _ _ | exact sz9 _ _ _ _ _ _ _ _ _ | apply q_eq | apply q_ne | apply d_str | apply q_len) | ((with_reducible refine c_tt ?_ ?_); · rfl) | ((with_reducible refine c_ff ?_ ?_); · rfl) | ((with_reducible refine div_pos _ _ ?_ ?_) <;> decide) | ((with_reducible refine mod_pos _ _ ?_); decide) | rfl | (intro q; cases q)))
theorem call3 (d : Nat) (a b c : List Nat) (x : V) (hx : part x) : callN prog (d + 1) false 3 [sg a b c, x] = some (.ok (.v (.str (kindV a b c x)))) := by
  cases x with
  | str s =>
    have h1 : seqV (.str s) = some (charsV s) := seq_str hx
    match s, h1 with
    | [], h1 =>
      refine fn_ret (fn := f3) (G := [.v (sg a b c), .v (.str []), .unset, .unset]) rfl rfl ?_
      show exs prog (callN prog d) false f3.body ⟨[.v (sg a b c), .v (.str []), .unset, .unset]⟩ = _
      simp only [f3]
      (repeat (first | with_reducible (first | exact h1 | apply e_lit | apply e_bor | apply e_var | apply o_none | apply s_nil | apply e_dict0 | apply xs_nil | apply i_nil | apply y_nil | apply e_bin | apply e_cmp | apply e_sub | apply e_slice | apply o_some | apply s_cons | apply e_call | apply e_bi | apply e_list | apply e_tuple | apply e_not | apply e_rev | apply e_met | apply e_ite | apply e_and | apply a_one | apply a_c | apply b_not | apply b_and | apply b_or | apply b_of | apply i_c | apply y_c | apply x_assign | apply x_ownL | apply x_setItem | apply x_append | apply x_ret | apply x_retOwn | apply x_ownCall | apply x_if | exact x_raise | apply xs_retE | apply xs_retO | apply xs_ifR | apply m_ret | apply xs_next | apply xs_ret | apply r_e | apply r_1 | apply r_zip | exact add_int _ _ | exact sub_int _ _ | exact sz0 | exact sz1 _ | exact sz2 _ _ | exact sz3 _ _ _ | exact sz4 _ _ _ _ | exact sz5 _ _ _ _ _ | exact sz6 _ _ _ _ _ _ | exact sz7 _ _ _ _ _ _ _ | exact sz8 _ _ _ _ _ _ _ _ | exact sz9 _ _ _ _ _ _ _ _ _ | apply q_eq | apply q_ne | apply d_str | apply q_len) | ((with_reducible refine c_tt ?_ ?_); · exact h1) | ((with_reducible refine c_ff ?_ ?_); · exact h1) | ((with_reducible refine c_tt ?_ ?_); · rfl) | ((with_reducible refine c_ff ?_ ?_); · rfl) | ((with_reducible refine div_pos _ _ ?_ ?_) <;> decide) | ((with_reducible refine mod_pos _ _ ?_); decide) | rfl | (intro q; cases q)))
    | x :: y :: r, h1 =>
      have e : (!eqV (.int ((charsV (x :: y :: r)).length : Nat)) (.int 1)) = true := by
        show (!((((charsV (x :: y :: r)).length : Nat) : Int) == 1)) = true
        simp [chars_len]; omega
      refine fn_ret (fn := f3) (G := [.v (sg a b c), .v (.str (x :: y :: r)), .unset, .unset]) rfl rfl ?_
      show exs prog (callN prog d) false f3.body ⟨[.v (sg a b c), .v (.str (x :: y :: r)), .unset, .unset]⟩ = _
      simp only [f3]
      (repeat (first | with_reducible (first | exact h1 | exact e | apply e_lit | apply e_bor | apply e_var | apply o_none | apply s_nil | apply e_dict0 | apply xs_nil | apply i_nil | apply y_nil | apply e_bin | apply e_cmp | apply e_sub | apply e_slice | apply o_some | apply s_cons | apply e_call | apply e_bi | apply e_list | apply e_tuple | apply e_not | apply e_rev | apply e_met | apply e_ite | apply e_and | apply a_one | apply a_c | apply b_not | apply b_and | apply b_or | apply b_of | apply i_c | apply y_c | apply x_assign | apply x_ownL | apply x_setItem | apply x_append | apply x_ret | apply x_retOwn | apply x_ownCall | apply x_if | exact x_raise | apply xs_retE | apply xs_retO | apply xs_ifR | apply m_ret | apply xs_next | apply xs_ret | apply r_e | apply r_1 | apply r_zip | exact add_int _ _ | exact sub_int _ _ | exact sz0 | exact sz1 _ | exact sz2 _ _ | exact sz3 _ _ _ | exact sz4 _ _ _ _ | exact sz5 _ _ _ _ _ | exact sz6 _ _ _ _ _ _ | exact sz7 _ _ _ _ _ _ _ | exact sz8 _ _ _ _ _ _ _ _ | exact sz9 _ _ _ _ _ _ _ _ _ | apply q_eq | apply q_ne | apply d_str | apply q_len) | ((with_reducible refine c_tt ?_ ?_); · exact h1) | ((with_reducible refine c_ff ?_ ?_); · exact h1) | ((with_reducible refine c_tt ?_ ?_); · exact e) | ((with_reducible refine c_ff ?_ ?_); · exact e) | ((with_reducible refine c_tt ?_ ?_); · rfl) | ((with_reducible refine c_ff ?_ ?_); · rfl) | ((with_reducible refine div_pos _ _ ?_ ?_) <;> decide) | ((with_reducible refine mod_pos _ _ ?_); decide) | rfl | (intro q; cases q)))
    | [x], h1 =>
      have lp := ex_for (P := prog) (cf := callN prog d) (t := .many [2, 3]) (src := .zip [(.var 0), (.list [(.lit (.str kOpen)), (.lit (.str kClose)), (.lit (.str kOn))])]) (b := f3b0) (σ := ⟨[.v (sg a b c), .v (.str [x]), .unset, .unset]⟩)
        (xs := [.tuple [.str a, .str kOpen], .tuple [.str b, .str kClose], .tuple [.str c, .str kOn]]) (σ₁ := ⟨[.v (sg a b c), .v (.str [x]), .unset, .unset]⟩) rfl
      have hd : ∀ r, exs prog (callN prog d) false (.ite (.or [(.not (.bi (.isinst .str) [(.bor 1)])), (.cmp .ne (.bi .len [(.bor 1)]) (.lit (.int 1)))]) [.ret (.lit (.str []))] [] :: r) ⟨[.v (sg a b c), .v (.str [x]), .unset, .unset]⟩ = exs prog (callN prog d) false r ⟨[.v (sg a b c), .v (.str [x]), .unset, .unset]⟩ := fun r => xs_next (by (repeat (first | with_reducible (first | exact h1 | apply e_lit | apply e_bor | apply e_var | apply o_none | apply s_nil | apply e_dict0 | apply xs_nil | apply i_nil | apply y_nil | apply e_bin | apply e_cmp | apply e_sub | apply e_slice | apply o_some | apply s_cons | apply e_call | apply e_bi | apply e_list | apply e_tuple | apply e_not | apply e_rev | apply e_met | apply e_ite | apply e_and | apply a_one | apply a_c | apply b_not | apply b_and | apply b_or | apply b_of | apply i_c | apply y_c | apply x_assign | apply x_ownL | apply x_setItem | apply x_append | apply x_ret | apply x_retOwn | apply x_ownCall | apply x_if | exact x_raise | apply xs_retE | apply xs_retO | apply xs_ifR | apply m_ret | apply xs_next | apply xs_ret | apply r_e | apply r_1 | apply r_zip | exact add_int _ _ | exact sub_int _ _ | exact sz0 | exact sz1 _ | exact sz2 _ _ | exact sz3 _ _ _ | exact sz4 _ _ _ _ | exact sz5 _ _ _ _ _ | exact sz6 _ _ _ _ _ _ | exact sz7 _ _ _ _ _ _ _ | exact sz8 _ _ _ _ _ _ _ _ | exact sz9 _ _ _ _ _ _ _ _ _ | apply q_eq | apply q_ne | apply d_str | apply q_len) | ((with_reducible refine c_tt ?_ ?_); · exact h1) | ((with_reducible refine c_ff ?_ ?_); · exact h1) | ((with_reducible refine c_tt ?_ ?_); · rfl) | ((with_reducible refine c_ff ?_ ?_); · rfl) | ((with_reducible refine div_pos _ _ ?_ ?_) <;> decide) | ((with_reducible refine mod_pos _ _ ?_); decide) | rfl | (intro q; cases q)))) rfl
      have nx : ∀ (t k : List Nat) (xs : List V) (y z : Slot), t.elem x = false → forL (M.noErr (exs prog (callN prog d) false f3b0)) (.many [2, 3]) (.tuple [.str t, .str k] :: xs) ⟨[.v (sg a b c), .v (.str [x]), y, z]⟩ = forL (M.noErr (exs prog (callN prog d) false f3b0)) (.many [2, 3]) xs ⟨[.v (sg a b c), .v (.str [x]), .v (.str t), .v (.str k)]⟩ := fun t k xs y z h =>
        forL_next rfl (st3n _ _ _ _ _ h)
      have rt : ∀ (t k : List Nat) (xs : List V) (y z : Slot), t.elem x = true → forL (M.noErr (exs prog (callN prog d) false f3b0)) (.many [2, 3]) (.tuple [.str t, .str k] :: xs) ⟨[.v (sg a b c), .v (.str [x]), y, z]⟩ = some (.ok (.ret (.v (.str k))), ⟨[.v (sg a b c), .v (.str [x]), .v (.str t), .v (.str k)]⟩) := fun t k xs y z h =>
        forL_ret rfl (st3r _ _ _ _ _ h)
      have done : ∀ (y : List Nat) (G : List Slot), exs prog (callN prog d) false [.forS (.many [2, 3]) (.zip [(.var 0), (.list [(.lit (.str kOpen)), (.lit (.str kClose)), (.lit (.str kOn))])]) f3b0, .ret (.lit (.str []))] ⟨[.v (sg a b c), .v (.str [x]), .unset, .unset]⟩ = some (.ok (.ret (.v (.str y))), ⟨G⟩) → callN prog (d + 1) false 3 [sg a b c, .str [x]] = some (.ok (.v (.str y))) := fun y G e => by
        refine fn_ret (fn := f3) (G := G) rfl rfl ?_
        show exs prog (callN prog d) false f3.body ⟨[.v (sg a b c), .v (.str [x]), .unset, .unset]⟩ = _
        simp only [f3]
        rw [hd]; exact e
      rw [kind1]
      cases ha : a.elem x with
      | true => exact done _ _ (xs_ret (lp.trans (rt _ _ _ _ _ ha)))
      | false =>
      cases hb : b.elem x with
      | true => exact done _ _ (xs_ret (lp.trans ((nx _ _ _ _ _ ha).trans (rt _ _ _ _ _ hb))))
      | false =>
      cases hc : c.elem x with
      | true => exact done _ _ (xs_ret (lp.trans ((nx _ _ _ _ _ ha).trans ((nx _ _ _ _ _ hb).trans (rt _ _ _ _ _ hc)))))
      | false => exact done _ _ (xs_next (lp.trans ((nx _ _ _ _ _ ha).trans ((nx _ _ _ _ _ hb).trans ((nx _ _ _ _ _ hc).trans rfl)))) (xs_retE e_lit))
  | none => rfl
  | bool => rfl
  | int => rfl
  | list => rfl
  | tuple => rfl
  | dict => rfl
  | exc => exact hx.elim
end Mine.L01
end

noncomputable section
set_option maxRecDepth 100000
set_option linter.unusedSimpArgs false
namespace Mine.L01
open Mine.Pl
/-! is_word -/
noncomputable def walkW (a b c : List Nat) : List Nat → Int → Option Int
  | [], n => some n
  | x :: r, n => if a.elem x then walkW a b c r (n + 1) else if b.elem x then (if n - 1 < 0 then none else walkW a b c r (n - 1)) else if c.elem x then walkW a b c r n else none
noncomputable def isWord (a b c : List Nat) : V → Bool
  | .str s => (match walkW a b c s 0 with | some n => n == 0 | none => false)
  | _ => false
theorem loop4 (d : Nat) (a b c : List Nat) (w : V) : ∀ (l : List Nat) (n : Int) (x y : Slot), 0 ≤ n → ∃ n' x' y', forL (M.noErr (exs prog (callN prog (d + 1)) false f4b0)) (.one 3) (charsV l) ⟨[.v (sg a b c), .v w, .v (.int n), x, y]⟩ =
    some (.ok (if (walkW a b c l n).isSome then .next else .ret (.v (.bool false))), ⟨[.v (sg a b c), .v w, .v (.int n'), x', y']⟩) ∧ ∀ m, walkW a b c l n = some m → n' = m
  | [], n, x, y, _ => ⟨n, x, y, rfl, fun m e => by cases e; rfl⟩
  | p :: l, n, x, y, hn => by
    have hk := call3 d a b c (.str [p]) (show 1 ≤ 1000 by decide)
    have h0 : decide (n < 0) = false := decide_eq_false (by omega)
    have h1 : decide (n + 1 < 0) = false := decide_eq_false (by omega)
    rw [show charsV (p :: l) = .str [p] :: charsV l from rfl]
    cases ha : a.elem p with
    | true =>
      have st : exs prog (callN prog (d + 1)) false f4b0 ⟨[.v (sg a b c), .v w, .v (.int n), .v (.str [p]), y]⟩ = some (.ok .next, ⟨[.v (sg a b c), .v w, .v (.int (n + 1)), .v (.str [p]), .v (.str kOpen)]⟩) := by
        have e : kindV a b c (.str [p]) = kOpen := by simp only [kindV, ha, if_true]
        rw [e] at hk
        simp only [f4b0]; (repeat (first | with_reducible (first | exact hk | exact h1 | apply e_lit | apply e_bor | apply e_var | apply o_none | apply s_nil | apply e_dict0 | apply xs_nil | apply i_nil | apply y_nil | apply e_bin | apply e_cmp | apply e_sub | apply e_slice | apply o_some | apply s_cons | apply e_call | apply e_bi | apply e_list | apply e_tuple | apply e_not | apply e_rev | apply e_met | apply e_ite | apply e_and | apply a_one | apply a_c | apply b_not | apply b_and | apply b_or | apply b_of | apply i_c | apply y_c | apply x_assign | apply x_ownL | apply x_setItem | apply x_append | apply x_ret | apply x_retOwn | apply x_ownCall | apply x_if | exact x_raise | apply xs_retE | apply xs_retO | apply xs_ifR | apply m_ret | apply xs_next | apply xs_ret | apply r_e | apply r_1 | apply r_zip | exact add_int _ _ | exact sub_int _ _ | exact sz0 | exact sz1 _ | exact sz2 _ _ | exact sz3 _ _ _ | exact sz4 _ _ _ _ | exact sz5 _ _ _ _ _ | exact sz6 _ _ _ _ _ _ | exact sz7 _ _ _ _ _ _ _ | exact sz8 _ _ _ _ _ _ _ _ | exact sz9 _ _ _ _ _ _ _ _ _ | apply q_eq | apply q_ne | apply d_str | apply q_len) | ((with_reducible refine c_tt ?_ ?_); · exact hk) | ((with_reducible refine c_ff ?_ ?_); · exact hk) | ((with_reducible refine c_tt ?_ ?_); · exact h1) | ((with_reducible refine c_ff ?_ ?_); · exact h1) | ((with_reducible refine c_tt ?_ ?_); · rfl) | ((with_reducible refine c_ff ?_ ?_); · rfl) | ((with_reducible refine div_pos _ _ ?_ ?_) <;> decide) | ((with_reducible refine mod_pos _ _ ?_); decide) | rfl | (intro q; cases q)))
      obtain ⟨n', x', y', e, hm⟩ := loop4 d a b c w l (n + 1) (.v (.str [p])) (.v (.str kOpen)) (by omega)
      refine ⟨n', x', y', ?_, ?_⟩
      · rw [forL_next (σ₁ := ⟨[.v (sg a b c), .v w, .v (.int n), .v (.str [p]), y]⟩) rfl st, e]; simp only [walkW, ha, if_true]
      · simp only [walkW, ha, if_true]; exact hm
    | false =>
    cases hb : b.elem p with
    | true =>
      have e : kindV a b c (.str [p]) = kClose := by simp only [kindV, ha, hb, if_true, if_false, Bool.false_eq_true]
      rw [e] at hk
      by_cases hn1 : n - 1 < 0
      · have st : exs prog (callN prog (d + 1)) false f4b0 ⟨[.v (sg a b c), .v w, .v (.int n), .v (.str [p]), y]⟩ = some (.ok (.ret (.v (.bool false))), ⟨[.v (sg a b c), .v w, .v (.int (n - 1)), .v (.str [p]), .v (.str kClose)]⟩) := by
          simp only [f4b0]; (repeat (first | with_reducible (first | exact hk | exact decide_eq_true hn1 | apply e_lit | apply e_bor | apply e_var | apply o_none | apply s_nil | apply e_dict0 | apply xs_nil | apply i_nil | apply y_nil | apply e_bin | apply e_cmp | apply e_sub | apply e_slice | apply o_some | apply s_cons | apply e_call | apply e_bi | apply e_list | apply e_tuple | apply e_not | apply e_rev | apply e_met | apply e_ite | apply e_and | apply a_one | apply a_c | apply b_not | apply b_and | apply b_or | apply b_of | apply i_c | apply y_c | apply x_assign | apply x_ownL | apply x_setItem | apply x_append | apply x_ret | apply x_retOwn | apply x_ownCall | apply x_if | exact x_raise | apply xs_retE | apply xs_retO | apply xs_ifR | apply m_ret | apply xs_next | apply xs_ret | apply r_e | apply r_1 | apply r_zip | exact add_int _ _ | exact sub_int _ _ | exact sz0 | exact sz1 _ | exact sz2 _ _ | exact sz3 _ _ _ | exact sz4 _ _ _ _ | exact sz5 _ _ _ _ _ | exact sz6 _ _ _ _ _ _ | exact sz7 _ _ _ _ _ _ _ | exact sz8 _ _ _ _ _ _ _ _ | exact sz9 _ _ _ _ _ _ _ _ _ | apply q_eq | apply q_ne | apply d_str | apply q_len) | ((with_reducible refine c_tt ?_ ?_); · exact hk) | ((with_reducible refine c_ff ?_ ?_); · exact hk) | ((with_reducible refine c_tt ?_ ?_); · exact decide_eq_true hn1) | ((with_reducible refine c_ff ?_ ?_); · exact decide_eq_true hn1) | ((with_reducible refine c_tt ?_ ?_); · rfl) | ((with_reducible refine c_ff ?_ ?_); · rfl) | ((with_reducible refine div_pos _ _ ?_ ?_) <;> decide) | ((with_reducible refine mod_pos _ _ ?_); decide) | rfl | (intro q; cases q)))
        refine ⟨n - 1, .v (.str [p]), .v (.str kClose), ?_, ?_⟩
        · rw [forL_ret (σ₁ := ⟨[.v (sg a b c), .v w, .v (.int n), .v (.str [p]), y]⟩) rfl st]; simp only [walkW, ha, hb, hn1, if_true, if_false, Bool.false_eq_true, Option.isSome]
        · simp only [walkW, ha, hb, hn1, if_true, if_false, Bool.false_eq_true]; intro m q; cases q
      · have st : exs prog (callN prog (d + 1)) false f4b0 ⟨[.v (sg a b c), .v w, .v (.int n), .v (.str [p]), y]⟩ = some (.ok .next, ⟨[.v (sg a b c), .v w, .v (.int (n - 1)), .v (.str [p]), .v (.str kClose)]⟩) := by
          simp only [f4b0]; (repeat (first | with_reducible (first | exact hk | exact decide_eq_false hn1 | apply e_lit | apply e_bor | apply e_var | apply o_none | apply s_nil | apply e_dict0 | apply xs_nil | apply i_nil | apply y_nil | apply e_bin | apply e_cmp | apply e_sub | apply e_slice | apply o_some | apply s_cons | apply e_call | apply e_bi | apply e_list | apply e_tuple | apply e_not | apply e_rev | apply e_met | apply e_ite | apply e_and | apply a_one | apply a_c | apply b_not | apply b_and | apply b_or | apply b_of | apply i_c | apply y_c | apply x_assign | apply x_ownL | apply x_setItem | apply x_append | apply x_ret | apply x_retOwn | apply x_ownCall | apply x_if | exact x_raise | apply xs_retE | apply xs_retO | apply xs_ifR | apply m_ret | apply xs_next | apply xs_ret | apply r_e | apply r_1 | apply r_zip | exact add_int _ _ | exact sub_int _ _ | exact sz0 | exact sz1 _ | exact sz2 _ _ | exact sz3 _ _ _ | exact sz4 _ _ _ _ | exact sz5 _ _ _ _ _ | exact sz6 _ _ _ _ _ _ | exact sz7 _ _ _ _ _ _ _ | exact sz8 _ _ _ _ _ _ _ _ | exact sz9 _ _ _ _ _ _ _ _ _ | apply q_eq | apply q_ne | apply d_str | apply q_len) | ((with_reducible refine c_tt ?_ ?_); · exact hk) | ((with_reducible refine c_ff ?_ ?_); · exact hk) | ((with_reducible refine c_tt ?_ ?_); · exact decide_eq_false hn1) | ((with_reducible refine c_ff ?_ ?_); · exact decide_eq_false hn1) | ((with_reducible refine c_tt ?_ ?_); · rfl) | ((with_reducible refine c_ff ?_ ?_); · rfl) | ((with_reducible refine div_pos _ _ ?_ ?_) <;> decide) | ((with_reducible refine mod_pos _ _ ?_); decide) | rfl | (intro q; cases q)))
        obtain ⟨n', x', y', e, hm⟩ := loop4 d a b c w l (n - 1) (.v (.str [p])) (.v (.str kClose)) (by omega)
        refine ⟨n', x', y', ?_, ?_⟩
        · rw [forL_next (σ₁ := ⟨[.v (sg a b c), .v w, .v (.int n), .v (.str [p]), y]⟩) rfl st, e]; simp only [walkW, ha, hb, hn1, if_true, if_false, Bool.false_eq_true]
        · simp only [walkW, ha, hb, hn1, if_true, if_false, Bool.false_eq_true]; exact hm
    | false =>
    cases hc : c.elem p with
    | true =>
      have e : kindV a b c (.str [p]) = kOn := by simp only [kindV, ha, hb, hc, if_true, if_false, Bool.false_eq_true]
      rw [e] at hk
      have st : exs prog (callN prog (d + 1)) false f4b0 ⟨[.v (sg a b c), .v w, .v (.int n), .v (.str [p]), y]⟩ = some (.ok .next, ⟨[.v (sg a b c), .v w, .v (.int n), .v (.str [p]), .v (.str kOn)]⟩) := by
        simp only [f4b0]; (repeat (first | with_reducible (first | exact hk | exact h0 | apply e_lit | apply e_bor | apply e_var | apply o_none | apply s_nil | apply e_dict0 | apply xs_nil | apply i_nil | apply y_nil | apply e_bin | apply e_cmp | apply e_sub | apply e_slice | apply o_some | apply s_cons | apply e_call | apply e_bi | apply e_list | apply e_tuple | apply e_not | apply e_rev | apply e_met | apply e_ite | apply e_and | apply a_one | apply a_c | apply b_not | apply b_and | apply b_or | apply b_of | apply i_c | apply y_c | apply x_assign | apply x_ownL | apply x_setItem | apply x_append | apply x_ret | apply x_retOwn | apply x_ownCall | apply x_if | exact x_raise | apply xs_retE | apply xs_retO | apply xs_ifR | apply m_ret | apply xs_next | apply xs_ret | apply r_e | apply r_1 | apply r_zip | exact add_int _ _ | exact sub_int _ _ | exact sz0 | exact sz1 _ | exact sz2 _ _ | exact sz3 _ _ _ | exact sz4 _ _ _ _ | exact sz5 _ _ _ _ _ | exact sz6 _ _ _ _ _ _ | exact sz7 _ _ _ _ _ _ _ | exact sz8 _ _ _ _ _ _ _ _ | exact sz9 _ _ _ _ _ _ _ _ _ | apply q_eq | apply q_ne | apply d_str | apply q_len) | ((with_reducible refine c_tt ?_ ?_); · exact hk) | ((with_reducible refine c_ff ?_ ?_); · exact hk) | ((with_reducible refine c_tt ?_ ?_); · exact h0) | ((with_reducible refine c_ff ?_ ?_); · exact h0) | ((with_reducible refine c_tt ?_ ?_); · rfl) | ((with_reducible refine c_ff ?_ ?_); · rfl) | ((with_reducible refine div_pos _ _ ?_ ?_) <;> decide) | ((with_reducible refine mod_pos _ _ ?_); decide) | rfl | (intro q; cases q)))
      obtain ⟨n', x', y', e, hm⟩ := loop4 d a b c w l n (.v (.str [p])) (.v (.str kOn)) (by omega)
      refine ⟨n', x', y', ?_, ?_⟩
      · rw [forL_next (σ₁ := ⟨[.v (sg a b c), .v w, .v (.int n), .v (.str [p]), y]⟩) rfl st, e]; simp only [walkW, ha, hb, hc, if_true, if_false, Bool.false_eq_true]
      · simp only [walkW, ha, hb, hc, if_true, if_false, Bool.false_eq_true]; exact hm
    | false =>
      have e : kindV a b c (.str [p]) = [] := by simp only [kindV, ha, hb, hc, if_false, Bool.false_eq_true]
      rw [e] at hk
      have st : exs prog (callN prog (d + 1)) false f4b0 ⟨[.v (sg a b c), .v w, .v (.int n), .v (.str [p]), y]⟩ = some (.ok (.ret (.v (.bool false))), ⟨[.v (sg a b c), .v w, .v (.int n), .v (.str [p]), .v (.str [])]⟩) := by
        simp only [f4b0]; (repeat (first | with_reducible (first | exact hk | apply e_lit | apply e_bor | apply e_var | apply o_none | apply s_nil | apply e_dict0 | apply xs_nil | apply i_nil | apply y_nil | apply e_bin | apply e_cmp | apply e_sub | apply e_slice | apply o_some | apply s_cons | apply e_call | apply e_bi | apply e_list | apply e_tuple | apply e_not | apply e_rev | apply e_met | apply e_ite | apply e_and | apply a_one | apply a_c | apply b_not | apply b_and | apply b_or | apply b_of | apply i_c | apply y_c | apply x_assign | apply x_ownL | apply x_setItem | apply x_append | apply x_ret | apply x_retOwn | apply x_ownCall | apply x_if | exact x_raise | apply xs_retE | apply xs_retO | apply xs_ifR | apply m_ret | apply xs_next | apply xs_ret | apply r_e | apply r_1 | apply r_zip | exact add_int _ _ | exact sub_int _ _ | exact sz0 | exact sz1 _ | exact sz2 _ _ | exact sz3 _ _ _ | exact sz4 _ _ _ _ | exact sz5 _ _ _ _ _ | exact sz6 _ _ _ _ _ _ | exact sz7 _ _ _ _ _ _ _ | exact sz8 _ _ _ _ _ _ _ _ | exact sz9 _ _ _ _ _ _ _ _ _ | apply q_eq | apply q_ne | apply d_str | apply q_len) | ((with_reducible refine c_tt ?_ ?_); · exact hk) | ((with_reducible refine c_ff ?_ ?_); · exact hk) | ((with_reducible refine c_tt ?_ ?_); · rfl) | ((with_reducible refine c_ff ?_ ?_); · rfl) | ((with_reducible refine div_pos _ _ ?_ ?_) <;> decide) | ((with_reducible refine mod_pos _ _ ?_); decide) | rfl | (intro q; cases q)))
      refine ⟨n, .v (.str [p]), .v (.str []), ?_, ?_⟩
      · rw [forL_ret (σ₁ := ⟨[.v (sg a b c), .v w, .v (.int n), .v (.str [p]), y]⟩) rfl st]; simp only [walkW, ha, hb, hc, if_false, Bool.false_eq_true, Option.isSome]
      · simp only [walkW, ha, hb, hc, if_false, Bool.false_eq_true]; intro m q; cases q
theorem call4 (d : Nat) (a b c : List Nat) (x : V) (hx : part x) : callN prog (d + 2) false 4 [sg a b c, x] = some (.ok (.v (.bool (isWord a b c x)))) := by
  cases x with
  | str s =>
    have h1 : seqV (.str s) = some (charsV s) := seq_str hx
    obtain ⟨n', x', y', h, hm⟩ := loop4 d a b c (.str s) s 0 .unset .unset (Int.le_refl 0)
    refine fn_ret (fn := f4) (G := [.v (sg a b c), .v (.str s), .v (.int n'), x', y']) rfl rfl ?_
    show exs prog (callN prog (d + 1)) false f4.body ⟨[.v (sg a b c), .v (.str s), .unset, .unset, .unset]⟩ = _
    simp only [f4]
    refine xs_next (σ₁ := ⟨[.v (sg a b c), .v (.str s), .unset, .unset, .unset]⟩) (by (repeat (first | with_reducible (first | apply e_lit | apply e_bor | apply e_var | apply o_none | apply s_nil | apply e_dict0 | apply xs_nil | apply i_nil | apply y_nil | apply e_bin | apply e_cmp | apply e_sub | apply e_slice | apply o_some | apply s_cons | apply e_call | apply e_bi | apply e_list | apply e_tuple | apply e_not | apply e_rev | apply e_met | apply e_ite | apply e_and | apply a_one | apply a_c | apply b_not | apply b_and | apply b_or | apply b_of | apply i_c | apply y_c | apply x_assign | apply x_ownL | apply x_setItem | apply x_append | apply x_ret | apply x_retOwn | apply x_ownCall | apply x_if | exact x_raise | apply xs_retE | apply xs_retO | apply xs_ifR | apply m_ret | apply xs_next | apply xs_ret | apply r_e | apply r_1 | apply r_zip | exact add_int _ _ | exact sub_int _ _ | exact sz0 | exact sz1 _ | exact sz2 _ _ | exact sz3 _ _ _ | exact sz4 _ _ _ _ | exact sz5 _ _ _ _ _ | exact sz6 _ _ _ _ _ _ | exact sz7 _ _ _ _ _ _ _ | exact sz8 _ _ _ _ _ _ _ _ | exact sz9 _ _ _ _ _ _ _ _ _ | apply q_eq | apply q_ne | apply d_str | apply q_len) | ((with_reducible refine c_tt ?_ ?_); · rfl) | ((with_reducible refine c_ff ?_ ?_); · rfl) | ((with_reducible refine div_pos _ _ ?_ ?_) <;> decide) | ((with_reducible refine mod_pos _ _ ?_); decide) | rfl | (intro q; cases q)))) (xs_next (σ₁ := ⟨[.v (sg a b c), .v (.str s), .v (.int 0), .unset, .unset]⟩) (by (repeat (first | with_reducible (first | apply e_lit | apply e_bor | apply e_var | apply o_none | apply s_nil | apply e_dict0 | apply xs_nil | apply i_nil | apply y_nil | apply e_bin | apply e_cmp | apply e_sub | apply e_slice | apply o_some | apply s_cons | apply e_call | apply e_bi | apply e_list | apply e_tuple | apply e_not | apply e_rev | apply e_met | apply e_ite | apply e_and | apply a_one | apply a_c | apply b_not | apply b_and | apply b_or | apply b_of | apply i_c | apply y_c | apply x_assign | apply x_ownL | apply x_setItem | apply x_append | apply x_ret | apply x_retOwn | apply x_ownCall | apply x_if | exact x_raise | apply xs_retE | apply xs_retO | apply xs_ifR | apply m_ret | apply xs_next | apply xs_ret | apply r_e | apply r_1 | apply r_zip | exact add_int _ _ | exact sub_int _ _ | exact sz0 | exact sz1 _ | exact sz2 _ _ | exact sz3 _ _ _ | exact sz4 _ _ _ _ | exact sz5 _ _ _ _ _ | exact sz6 _ _ _ _ _ _ | exact sz7 _ _ _ _ _ _ _ | exact sz8 _ _ _ _ _ _ _ _ | exact sz9 _ _ _ _ _ _ _ _ _ | apply q_eq | apply q_ne | apply d_str | apply q_len) | ((with_reducible refine c_tt ?_ ?_); · rfl) | ((with_reducible refine c_ff ?_ ?_); · rfl) | ((with_reducible refine div_pos _ _ ?_ ?_) <;> decide) | ((with_reducible refine mod_pos _ _ ?_); decide) | rfl | (intro q; cases q)))) ?_)
    have e2 := (ex_for (P := prog) (cf := callN prog (d + 1)) (t := .one 3) (src := .e (.var 1)) (b := f4b0) (xs := charsV s) (σ := ⟨[.v (sg a b c), .v (.str s), .v (.int 0), .unset, .unset]⟩) (σ₁ := ⟨[.v (sg a b c), .v (.str s), .v (.int 0), .unset, .unset]⟩) (by (repeat (first | with_reducible (first | exact h1 | apply e_lit | apply e_bor | apply e_var | apply o_none | apply s_nil | apply e_dict0 | apply xs_nil | apply i_nil | apply y_nil | apply e_bin | apply e_cmp | apply e_sub | apply e_slice | apply o_some | apply s_cons | apply e_call | apply e_bi | apply e_list | apply e_tuple | apply e_not | apply e_rev | apply e_met | apply e_ite | apply e_and | apply a_one | apply a_c | apply b_not | apply b_and | apply b_or | apply b_of | apply i_c | apply y_c | apply x_assign | apply x_ownL | apply x_setItem | apply x_append | apply x_ret | apply x_retOwn | apply x_ownCall | apply x_if | exact x_raise | apply xs_retE | apply xs_retO | apply xs_ifR | apply m_ret | apply xs_next | apply xs_ret | apply r_e | apply r_1 | apply r_zip | exact add_int _ _ | exact sub_int _ _ | exact sz0 | exact sz1 _ | exact sz2 _ _ | exact sz3 _ _ _ | exact sz4 _ _ _ _ | exact sz5 _ _ _ _ _ | exact sz6 _ _ _ _ _ _ | exact sz7 _ _ _ _ _ _ _ | exact sz8 _ _ _ _ _ _ _ _ | exact sz9 _ _ _ _ _ _ _ _ _ | apply q_eq | apply q_ne | apply d_str | apply q_len) | ((with_reducible refine c_tt ?_ ?_); · exact h1) | ((with_reducible refine c_ff ?_ ?_); · exact h1) | ((with_reducible refine c_tt ?_ ?_); · rfl) | ((with_reducible refine c_ff ?_ ?_); · rfl) | ((with_reducible refine div_pos _ _ ?_ ?_) <;> decide) | ((with_reducible refine mod_pos _ _ ?_); decide) | rfl | (intro q; cases q))))).trans h
    show _ = some (Except.ok (Fl.ret (Slot.v (V.bool (match walkW a b c s 0 with | some n => n == 0 | none => false)))), _)
    cases hw : walkW a b c s 0 with
    | none => rw [hw] at e2; exact xs_ret e2
    | some m => rw [hw] at e2; rw [hm m hw] at e2 ⊢; exact xs_next e2 (by (repeat (first | with_reducible (first | apply e_lit | apply e_bor | apply e_var | apply o_none | apply s_nil | apply e_dict0 | apply xs_nil | apply i_nil | apply y_nil | apply e_bin | apply e_cmp | apply e_sub | apply e_slice | apply o_some | apply s_cons | apply e_call | apply e_bi | apply e_list | apply e_tuple | apply e_not | apply e_rev | apply e_met | apply e_ite | apply e_and | apply a_one | apply a_c | apply b_not | apply b_and | apply b_or | apply b_of | apply i_c | apply y_c | apply x_assign | apply x_ownL | apply x_setItem | apply x_append | apply x_ret | apply x_retOwn | apply x_ownCall | apply x_if | exact x_raise | apply xs_retE | apply xs_retO | apply xs_ifR | apply m_ret | apply xs_next | apply xs_ret | apply r_e | apply r_1 | apply r_zip | exact add_int _ _ | exact sub_int _ _ | exact sz0 | exact sz1 _ | exact sz2 _ _ | exact sz3 _ _ _ | exact sz4 _ _ _ _ | exact sz5 _ _ _ _ _ | exact sz6 _ _ _ _ _ _ | exact sz7 _ _ _ _ _ _ _ | exact sz8 _ _ _ _ _ _ _ _ | exact sz9 _ _ _ _ _ _ _ _ _ | apply q_eq | apply q_ne | apply d_str | apply q_len) | ((with_reducible refine c_tt ?_ ?_); · rfl) | ((with_reducible refine c_ff ?_ ?_); · rfl) | ((with_reducible refine div_pos _ _ ?_ ?_) <;> decide) | ((with_reducible refine mod_pos _ _ ?_); decide) | rfl | (intro q; cases q))))
  | none => rfl
  | bool => rfl
  | int => rfl
  | list => rfl
  | tuple => rfl
  | dict => rfl
  | exc => exact hx.elim
theorem g0 (a b c : List Nat) : subOp (sg a b c) (.int 0) = some (.str a) := rfl
theorem g1 (a b c : List Nat) : subOp (sg a b c) (.int 1) = some (.str b) := rfl
theorem g2 (a b c : List Nat) : subOp (sg a b c) (.int 2) = some (.str c) := rfl
theorem loop15 (cf : CallF) (a b c : List Nat) (w : V) : ∀ (l : List Nat) (n : Int) (x : Slot), 0 ≤ n → ∃ n' x', forL (M.noErr (exs prog cf false f15b0)) (.one 3) (charsV l) ⟨[.v (sg a b c), .v w, .v (.int n), x]⟩ =
    some (.ok (if (walkW a b c l n).isSome then .next else .ret (.v (.bool false))), ⟨[.v (sg a b c), .v w, .v (.int n'), x']⟩) ∧ ∀ m, walkW a b c l n = some m → n' = m
  | [], n, x, _ => ⟨n, x, rfl, fun m e => by cases e; rfl⟩
  | p :: l, n, x, hn => by
    have h0 : decide (n < 0) = false := decide_eq_false (by omega)
    have h1 : decide (n + 1 < 0) = false := decide_eq_false (by omega)
    rw [show charsV (p :: l) = .str [p] :: charsV l from rfl]
    cases ha : a.elem p with
    | true =>
      have st : exs prog cf false f15b0 ⟨[.v (sg a b c), .v w, .v (.int n), .v (.str [p])]⟩ = some (.ok .next, ⟨[.v (sg a b c), .v w, .v (.int (n + 1)), .v (.str [p])]⟩) := by
        simp only [f15b0]; (repeat (first | with_reducible (first | exact ha | exact h1 | apply e_lit | apply e_bor | apply e_var | apply o_none | apply s_nil | apply e_dict0 | apply xs_nil | apply i_nil | apply y_nil | apply e_bin | apply e_cmp | apply e_sub | apply e_slice | apply o_some | apply s_cons | apply e_call | apply e_bi | apply e_list | apply e_tuple | apply e_not | apply e_rev | apply e_met | apply e_ite | apply e_and | apply a_one | apply a_c | apply b_not | apply b_and | apply b_or | apply b_of | apply i_c | apply y_c | apply x_assign | apply x_ownL | apply x_setItem | apply x_append | apply x_ret | apply x_retOwn | apply x_ownCall | apply x_if | exact x_raise | apply xs_retE | apply xs_retO | apply xs_ifR | apply m_ret | apply xs_next | apply xs_ret | apply r_e | apply r_1 | apply r_zip | exact add_int _ _ | exact sub_int _ _ | exact sz0 | exact sz1 _ | exact sz2 _ _ | exact sz3 _ _ _ | exact sz4 _ _ _ _ | exact sz5 _ _ _ _ _ | exact sz6 _ _ _ _ _ _ | exact sz7 _ _ _ _ _ _ _ | exact sz8 _ _ _ _ _ _ _ _ | exact sz9 _ _ _ _ _ _ _ _ _ | apply q_eq | apply q_ne | apply d_str | apply q_len) | ((with_reducible refine c_tt ?_ ?_); · exact ha) | ((with_reducible refine c_ff ?_ ?_); · exact ha) | ((with_reducible refine c_tt ?_ ?_); · exact h1) | ((with_reducible refine c_ff ?_ ?_); · exact h1) | ((with_reducible refine c_tt ?_ ?_); · rfl) | ((with_reducible refine c_ff ?_ ?_); · rfl) | ((with_reducible refine div_pos _ _ ?_ ?_) <;> decide) | ((with_reducible refine mod_pos _ _ ?_); decide) | rfl | (intro q; cases q)))
      obtain ⟨n', x', e, hm⟩ := loop15 cf a b c w l (n + 1) (.v (.str [p])) (by omega)
      refine ⟨n', x', ?_, ?_⟩
      · rw [forL_next (σ₁ := ⟨[.v (sg a b c), .v w, .v (.int n), .v (.str [p])]⟩) rfl st, e]; simp only [walkW, ha, if_true]
      · simp only [walkW, ha, if_true]; exact hm
    | false =>
    cases hb : b.elem p with
    | true =>
      by_cases hn1 : n - 1 < 0
      · have st : exs prog cf false f15b0 ⟨[.v (sg a b c), .v w, .v (.int n), .v (.str [p])]⟩ = some (.ok (.ret (.v (.bool false))), ⟨[.v (sg a b c), .v w, .v (.int (n - 1)), .v (.str [p])]⟩) := by
          simp only [f15b0]; (repeat (first | with_reducible (first | exact ha | exact hb | exact decide_eq_true hn1 | apply e_lit | apply e_bor | apply e_var | apply o_none | apply s_nil | apply e_dict0 | apply xs_nil | apply i_nil | apply y_nil | apply e_bin | apply e_cmp | apply e_sub | apply e_slice | apply o_some | apply s_cons | apply e_call | apply e_bi | apply e_list | apply e_tuple | apply e_not | apply e_rev | apply e_met | apply e_ite | apply e_and | apply a_one | apply a_c | apply b_not | apply b_and | apply b_or | apply b_of | apply i_c | apply y_c | apply x_assign | apply x_ownL | apply x_setItem | apply x_append | apply x_ret | apply x_retOwn | apply x_ownCall | apply x_if | exact x_raise | apply xs_retE | apply xs_retO | apply xs_ifR | apply m_ret | apply xs_next | apply xs_ret | apply r_e | apply r_1 | apply r_zip | exact add_int _ _ | exact sub_int _ _ | exact sz0 | exact sz1 _ | exact sz2 _ _ | exact sz3 _ _ _ | exact sz4 _ _ _ _ | exact sz5 _ _ _ _ _ | exact sz6 _ _ _ _ _ _ | exact sz7 _ _ _ _ _ _ _ | exact sz8 _ _ _ _ _ _ _ _ | exact sz9 _ _ _ _ _ _ _ _ _ | apply q_eq | apply q_ne | apply d_str | apply q_len) | ((with_reducible refine c_tt ?_ ?_); · exact ha) | ((with_reducible refine c_ff ?_ ?_); · exact ha) | ((with_reducible refine c_tt ?_ ?_); · exact hb) | ((with_reducible refine c_ff ?_ ?_); · exact hb) | ((with_reducible refine c_tt ?_ ?_); · exact decide_eq_true hn1) | ((with_reducible refine c_ff ?_ ?_); · exact decide_eq_true hn1) | ((with_reducible refine c_tt ?_ ?_); · rfl) | ((with_reducible refine c_ff ?_ ?_); · rfl) | ((with_reducible refine div_pos _ _ ?_ ?_) <;> decide) | ((with_reducible refine mod_pos _ _ ?_); decide) | rfl | (intro q; cases q)))
        refine ⟨n - 1, .v (.str [p]), ?_, ?_⟩
        · rw [forL_ret (σ₁ := ⟨[.v (sg a b c), .v w, .v (.int n), .v (.str [p])]⟩) rfl st]; simp only [walkW, ha, hb, hn1, if_true, if_false, Bool.false_eq_true, Option.isSome]
        · simp only [walkW, ha, hb, hn1, if_true, if_false, Bool.false_eq_true]; intro m q; cases q
      · have st : exs prog cf false f15b0 ⟨[.v (sg a b c), .v w, .v (.int n), .v (.str [p])]⟩ = some (.ok .next, ⟨[.v (sg a b c), .v w, .v (.int (n - 1)), .v (.str [p])]⟩) := by
          simp only [f15b0]; (repeat (first | with_reducible (first | exact ha | exact hb | exact decide_eq_false hn1 | apply e_lit | apply e_bor | apply e_var | apply o_none | apply s_nil | apply e_dict0 | apply xs_nil | apply i_nil | apply y_nil | apply e_bin | apply e_cmp | apply e_sub | apply e_slice | apply o_some | apply s_cons | apply e_call | apply e_bi | apply e_list | apply e_tuple | apply e_not | apply e_rev | apply e_met | apply e_ite | apply e_and | apply a_one | apply a_c | apply b_not | apply b_and | apply b_or | apply b_of | apply i_c | apply y_c | apply x_assign | apply x_ownL | apply x_setItem | apply x_append | apply x_ret | apply x_retOwn | apply x_ownCall | apply x_if | exact x_raise | apply xs_retE | apply xs_retO | apply xs_ifR | apply m_ret | apply xs_next | apply xs_ret | apply r_e | apply r_1 | apply r_zip | exact add_int _ _ | exact sub_int _ _ | exact sz0 | exact sz1 _ | exact sz2 _ _ | exact sz3 _ _ _ | exact sz4 _ _ _ _ | exact sz5 _ _ _ _ _ | exact sz6 _ _ _ _ _ _ | exact sz7 _ _ _ _ _ _ _ | exact sz8 _ _ _ _ _ _ _ _ | exact sz9 _ _ _ _ _ _ _ _ _ | apply q_eq | apply q_ne | apply d_str | apply q_len) | ((with_reducible refine c_tt ?_ ?_); · exact ha) | ((with_reducible refine c_ff ?_ ?_); · exact ha) | ((with_reducible refine c_tt ?_ ?_); · exact hb) | ((with_reducible refine c_ff ?_ ?_); · exact hb) | ((with_reducible refine c_tt ?_ ?_); · exact decide_eq_false hn1) | ((with_reducible refine c_ff ?_ ?_); · exact decide_eq_false hn1) | ((with_reducible refine c_tt ?_ ?_); · rfl) | ((with_reducible refine c_ff ?_ ?_); · rfl) | ((with_reducible refine div_pos _ _ ?_ ?_) <;> decide) | ((with_reducible refine mod_pos _ _ ?_); decide) | rfl | (intro q; cases q)))
        obtain ⟨n', x', e, hm⟩ := loop15 cf a b c w l (n - 1) (.v (.str [p])) (by omega)
        refine ⟨n', x', ?_, ?_⟩
        · rw [forL_next (σ₁ := ⟨[.v (sg a b c), .v w, .v (.int n), .v (.str [p])]⟩) rfl st, e]; simp only [walkW, ha, hb, hn1, if_true, if_false, Bool.false_eq_true]
        · simp only [walkW, ha, hb, hn1, if_true, if_false, Bool.false_eq_true]; exact hm
    | false =>
    cases hc : c.elem p with
    | true =>
      have st : exs prog cf false f15b0 ⟨[.v (sg a b c), .v w, .v (.int n), .v (.str [p])]⟩ = some (.ok .next, ⟨[.v (sg a b c), .v w, .v (.int n), .v (.str [p])]⟩) := by
        simp only [f15b0]; (repeat (first | with_reducible (first | exact ha | exact hb | exact (show (!c.elem p) = false by rw [hc]; rfl) | exact h0 | apply e_lit | apply e_bor | apply e_var | apply o_none | apply s_nil | apply e_dict0 | apply xs_nil | apply i_nil | apply y_nil | apply e_bin | apply e_cmp | apply e_sub | apply e_slice | apply o_some | apply s_cons | apply e_call | apply e_bi | apply e_list | apply e_tuple | apply e_not | apply e_rev | apply e_met | apply e_ite | apply e_and | apply a_one | apply a_c | apply b_not | apply b_and | apply b_or | apply b_of | apply i_c | apply y_c | apply x_assign | apply x_ownL | apply x_setItem | apply x_append | apply x_ret | apply x_retOwn | apply x_ownCall | apply x_if | exact x_raise | apply xs_retE | apply xs_retO | apply xs_ifR | apply m_ret | apply xs_next | apply xs_ret | apply r_e | apply r_1 | apply r_zip | exact add_int _ _ | exact sub_int _ _ | exact sz0 | exact sz1 _ | exact sz2 _ _ | exact sz3 _ _ _ | exact sz4 _ _ _ _ | exact sz5 _ _ _ _ _ | exact sz6 _ _ _ _ _ _ | exact sz7 _ _ _ _ _ _ _ | exact sz8 _ _ _ _ _ _ _ _ | exact sz9 _ _ _ _ _ _ _ _ _ | apply q_eq | apply q_ne | apply d_str | apply q_len) | ((with_reducible refine c_tt ?_ ?_); · exact ha) | ((with_reducible refine c_ff ?_ ?_); · exact ha) | ((with_reducible refine c_tt ?_ ?_); · exact hb) | ((with_reducible refine c_ff ?_ ?_); · exact hb) | ((with_reducible refine c_tt ?_ ?_); · exact (show (!c.elem p) = false by rw [hc]; rfl)) | ((with_reducible refine c_ff ?_ ?_); · exact (show (!c.elem p) = false by rw [hc]; rfl)) | ((with_reducible refine c_tt ?_ ?_); · exact h0) | ((with_reducible refine c_ff ?_ ?_); · exact h0) | ((with_reducible refine c_tt ?_ ?_); · rfl) | ((with_reducible refine c_ff ?_ ?_); · rfl) | ((with_reducible refine div_pos _ _ ?_ ?_) <;> decide) | ((with_reducible refine mod_pos _ _ ?_); decide) | rfl | (intro q; cases q)))
      obtain ⟨n', x', e, hm⟩ := loop15 cf a b c w l n (.v (.str [p])) (by omega)
      refine ⟨n', x', ?_, ?_⟩
      · rw [forL_next (σ₁ := ⟨[.v (sg a b c), .v w, .v (.int n), .v (.str [p])]⟩) rfl st, e]; simp only [walkW, ha, hb, hc, if_true, if_false, Bool.false_eq_true]
      · simp only [walkW, ha, hb, hc, if_true, if_false, Bool.false_eq_true]; exact hm
    | false =>
      have st : exs prog cf false f15b0 ⟨[.v (sg a b c), .v w, .v (.int n), .v (.str [p])]⟩ = some (.ok (.ret (.v (.bool false))), ⟨[.v (sg a b c), .v w, .v (.int n), .v (.str [p])]⟩) := by
        simp only [f15b0]
        refine xs_ret (x_if (t := a.elem p) (σ₁ := ⟨[.v (sg a b c), .v w, .v (.int n), .v (.str [p])]⟩) ?_ (c_ff ha (xs_ret (x_if (t := b.elem p) (σ₁ := ⟨[.v (sg a b c), .v w, .v (.int n), .v (.str [p])]⟩) ?_ (c_ff hb ?_)))))
        · (repeat (first | with_reducible (first | apply e_lit | apply e_bor | apply e_var | apply o_none | apply s_nil | apply e_dict0 | apply xs_nil | apply i_nil | apply y_nil | apply e_bin | apply e_cmp | apply e_sub | apply e_slice | apply o_some | apply s_cons | apply e_call | apply e_bi | apply e_list | apply e_tuple | apply e_not | apply e_rev | apply e_met | apply e_ite | apply e_and | apply a_one | apply a_c | apply b_not | apply b_and | apply b_or | apply b_of | apply i_c | apply y_c | apply x_assign | apply x_ownL | apply x_setItem | apply x_append | apply x_ret | apply x_retOwn | apply x_ownCall | apply x_if | exact x_raise | apply xs_retE | apply xs_retO | apply xs_ifR | apply m_ret | apply xs_next | apply xs_ret | apply r_e | apply r_1 | apply r_zip | exact add_int _ _ | exact sub_int _ _ | exact sz0 | exact sz1 _ | exact sz2 _ _ | exact sz3 _ _ _ | exact sz4 _ _ _ _ | exact sz5 _ _ _ _ _ | exact sz6 _ _ _ _ _ _ | exact sz7 _ _ _ _ _ _ _ | exact sz8 _ _ _ _ _ _ _ _ | exact sz9 _ _ _ _ _ _ _ _ _ | apply q_eq | apply q_ne | apply d_str | apply q_len) | ((with_reducible refine c_tt ?_ ?_); · rfl) | ((with_reducible refine c_ff ?_ ?_); · rfl) | ((with_reducible refine div_pos _ _ ?_ ?_) <;> decide) | ((with_reducible refine mod_pos _ _ ?_); decide) | rfl | (intro q; cases q)))
        · (repeat (first | with_reducible (first | apply e_lit | apply e_bor | apply e_var | apply o_none | apply s_nil | apply e_dict0 | apply xs_nil | apply i_nil | apply y_nil | apply e_bin | apply e_cmp | apply e_sub | apply e_slice | apply o_some | apply s_cons | apply e_call | apply e_bi | apply e_list | apply e_tuple | apply e_not | apply e_rev | apply e_met | apply e_ite | apply e_and | apply a_one | apply a_c | apply b_not | apply b_and | apply b_or | apply b_of | apply i_c | apply y_c | apply x_assign | apply x_ownL | apply x_setItem | apply x_append | apply x_ret | apply x_retOwn | apply x_ownCall | apply x_if | exact x_raise | apply xs_retE | apply xs_retO | apply xs_ifR | apply m_ret | apply xs_next | apply xs_ret | apply r_e | apply r_1 | apply r_zip | exact add_int _ _ | exact sub_int _ _ | exact sz0 | exact sz1 _ | exact sz2 _ _ | exact sz3 _ _ _ | exact sz4 _ _ _ _ | exact sz5 _ _ _ _ _ | exact sz6 _ _ _ _ _ _ | exact sz7 _ _ _ _ _ _ _ | exact sz8 _ _ _ _ _ _ _ _ | exact sz9 _ _ _ _ _ _ _ _ _ | apply q_eq | apply q_ne | apply d_str | apply q_len) | ((with_reducible refine c_tt ?_ ?_); · rfl) | ((with_reducible refine c_ff ?_ ?_); · rfl) | ((with_reducible refine div_pos _ _ ?_ ?_) <;> decide) | ((with_reducible refine mod_pos _ _ ?_); decide) | rfl | (intro q; cases q)))
        · (repeat (first | with_reducible (first | exact (show (!c.elem p) = true by rw [hc]; rfl) | apply e_lit | apply e_bor | apply e_var | apply o_none | apply s_nil | apply e_dict0 | apply xs_nil | apply i_nil | apply y_nil | apply e_bin | apply e_cmp | apply e_sub | apply e_slice | apply o_some | apply s_cons | apply e_call | apply e_bi | apply e_list | apply e_tuple | apply e_not | apply e_rev | apply e_met | apply e_ite | apply e_and | apply a_one | apply a_c | apply b_not | apply b_and | apply b_or | apply b_of | apply i_c | apply y_c | apply x_assign | apply x_ownL | apply x_setItem | apply x_append | apply x_ret | apply x_retOwn | apply x_ownCall | apply x_if | exact x_raise | apply xs_retE | apply xs_retO | apply xs_ifR | apply m_ret | apply xs_next | apply xs_ret | apply r_e | apply r_1 | apply r_zip | exact add_int _ _ | exact sub_int _ _ | exact sz0 | exact sz1 _ | exact sz2 _ _ | exact sz3 _ _ _ | exact sz4 _ _ _ _ | exact sz5 _ _ _ _ _ | exact sz6 _ _ _ _ _ _ | exact sz7 _ _ _ _ _ _ _ | exact sz8 _ _ _ _ _ _ _ _ | exact sz9 _ _ _ _ _ _ _ _ _ | apply q_eq | apply q_ne | apply d_str | apply q_len) | ((with_reducible refine c_tt ?_ ?_); · exact (show (!c.elem p) = true by rw [hc]; rfl)) | ((with_reducible refine c_ff ?_ ?_); · exact (show (!c.elem p) = true by rw [hc]; rfl)) | ((with_reducible refine c_tt ?_ ?_); · rfl) | ((with_reducible refine c_ff ?_ ?_); · rfl) | ((with_reducible refine div_pos _ _ ?_ ?_) <;> decide) | ((with_reducible refine mod_pos _ _ ?_); decide) | rfl | (intro q; cases q)))
      refine ⟨n, .v (.str [p]), ?_, ?_⟩
      · rw [forL_ret (σ₁ := ⟨[.v (sg a b c), .v w, .v (.int n), .v (.str [p])]⟩) rfl st]; simp only [walkW, ha, hb, hc, if_false, Bool.false_eq_true, Option.isSome]
      · simp only [walkW, ha, hb, hc, if_false, Bool.false_eq_true]; intro m q; cases q
theorem call15 (d : Nat) (a b c : List Nat) (x : V) (hx : part x) : callN prog (d + 1) false 15 [sg a b c, x] = some (.ok (.v (.bool (isWord a b c x)))) := by
  cases x with
  | str s =>
    have h1 : seqV (.str s) = some (charsV s) := seq_str hx
    obtain ⟨n', x', h, hm⟩ := loop15 (callN prog d) a b c (.str s) s 0 .unset (Int.le_refl 0)
    refine fn_ret (fn := f15) (G := [.v (sg a b c), .v (.str s), .v (.int n'), x']) rfl rfl ?_
    show exs prog (callN prog d) false f15.body ⟨[.v (sg a b c), .v (.str s), .unset, .unset]⟩ = _
    simp only [f15]
    refine xs_next (σ₁ := ⟨[.v (sg a b c), .v (.str s), .unset, .unset]⟩) (by (repeat (first | with_reducible (first | apply e_lit | apply e_bor | apply e_var | apply o_none | apply s_nil | apply e_dict0 | apply xs_nil | apply i_nil | apply y_nil | apply e_bin | apply e_cmp | apply e_sub | apply e_slice | apply o_some | apply s_cons | apply e_call | apply e_bi | apply e_list | apply e_tuple | apply e_not | apply e_rev | apply e_met | apply e_ite | apply e_and | apply a_one | apply a_c | apply b_not | apply b_and | apply b_or | apply b_of | apply i_c | apply y_c | apply x_assign | apply x_ownL | apply x_setItem | apply x_append | apply x_ret | apply x_retOwn | apply x_ownCall | apply x_if | exact x_raise | apply xs_retE | apply xs_retO | apply xs_ifR | apply m_ret | apply xs_next | apply xs_ret | apply r_e | apply r_1 | apply r_zip | exact add_int _ _ | exact sub_int _ _ | exact sz0 | exact sz1 _ | exact sz2 _ _ | exact sz3 _ _ _ | exact sz4 _ _ _ _ | exact sz5 _ _ _ _ _ | exact sz6 _ _ _ _ _ _ | exact sz7 _ _ _ _ _ _ _ | exact sz8 _ _ _ _ _ _ _ _ | exact sz9 _ _ _ _ _ _ _ _ _ | apply q_eq | apply q_ne | apply d_str | apply q_len) | ((with_reducible refine c_tt ?_ ?_); · rfl) | ((with_reducible refine c_ff ?_ ?_); · rfl) | ((with_reducible refine div_pos _ _ ?_ ?_) <;> decide) | ((with_reducible refine mod_pos _ _ ?_); decide) | rfl | (intro q; cases q)))) (xs_next (σ₁ := ⟨[.v (sg a b c), .v (.str s), .v (.int 0), .unset]⟩) (by (repeat (first | with_reducible (first | apply e_lit | apply e_bor | apply e_var | apply o_none | apply s_nil | apply e_dict0 | apply xs_nil | apply i_nil | apply y_nil | apply e_bin | apply e_cmp | apply e_sub | apply e_slice | apply o_some | apply s_cons | apply e_call | apply e_bi | apply e_list | apply e_tuple | apply e_not | apply e_rev | apply e_met | apply e_ite | apply e_and | apply a_one | apply a_c | apply b_not | apply b_and | apply b_or | apply b_of | apply i_c | apply y_c | apply x_assign | apply x_ownL | apply x_setItem | apply x_append | apply x_ret | apply x_retOwn | apply x_ownCall | apply x_if | exact x_raise | apply xs_retE | apply xs_retO | apply xs_ifR | apply m_ret | apply xs_next | apply xs_ret | apply r_e | apply r_1 | apply r_zip | exact add_int _ _ | exact sub_int _ _ | exact sz0 | exact sz1 _ | exact sz2 _ _ | exact sz3 _ _ _ | exact sz4 _ _ _ _ | exact sz5 _ _ _ _ _ | exact sz6 _ _ _ _ _ _ | exact sz7 _ _ _ _ _ _ _ | exact sz8 _ _ _ _ _ _ _ _ | exact sz9 _ _ _ _ _ _ _ _ _ | apply q_eq | apply q_ne | apply d_str | apply q_len) | ((with_reducible refine c_tt ?_ ?_); · rfl) | ((with_reducible refine c_ff ?_ ?_); · rfl) | ((with_reducible refine div_pos _ _ ?_ ?_) <;> decide) | ((with_reducible refine mod_pos _ _ ?_); decide) | rfl | (intro q; cases q)))) ?_)
    have e2 := (ex_for (P := prog) (cf := callN prog d) (t := .one 3) (src := .e (.var 1)) (b := f15b0) (xs := charsV s) (σ := ⟨[.v (sg a b c), .v (.str s), .v (.int 0), .unset]⟩) (σ₁ := ⟨[.v (sg a b c), .v (.str s), .v (.int 0), .unset]⟩) (by (repeat (first | with_reducible (first | exact h1 | apply e_lit | apply e_bor | apply e_var | apply o_none | apply s_nil | apply e_dict0 | apply xs_nil | apply i_nil | apply y_nil | apply e_bin | apply e_cmp | apply e_sub | apply e_slice | apply o_some | apply s_cons | apply e_call | apply e_bi | apply e_list | apply e_tuple | apply e_not | apply e_rev | apply e_met | apply e_ite | apply e_and | apply a_one | apply a_c | apply b_not | apply b_and | apply b_or | apply b_of | apply i_c | apply y_c | apply x_assign | apply x_ownL | apply x_setItem | apply x_append | apply x_ret | apply x_retOwn | apply x_ownCall | apply x_if | exact x_raise | apply xs_retE | apply xs_retO | apply xs_ifR | apply m_ret | apply xs_next | apply xs_ret | apply r_e | apply r_1 | apply r_zip | exact add_int _ _ | exact sub_int _ _ | exact sz0 | exact sz1 _ | exact sz2 _ _ | exact sz3 _ _ _ | exact sz4 _ _ _ _ | exact sz5 _ _ _ _ _ | exact sz6 _ _ _ _ _ _ | exact sz7 _ _ _ _ _ _ _ | exact sz8 _ _ _ _ _ _ _ _ | exact sz9 _ _ _ _ _ _ _ _ _ | apply q_eq | apply q_ne | apply d_str | apply q_len) | ((with_reducible refine c_tt ?_ ?_); · exact h1) | ((with_reducible refine c_ff ?_ ?_); · exact h1) | ((with_reducible refine c_tt ?_ ?_); · rfl) | ((with_reducible refine c_ff ?_ ?_); · rfl) | ((with_reducible refine div_pos _ _ ?_ ?_) <;> decide) | ((with_reducible refine mod_pos _ _ ?_); decide) | rfl | (intro q; cases q))))).trans h
    show _ = some (Except.ok (Fl.ret (Slot.v (V.bool (match walkW a b c s 0 with | some n => n == 0 | none => false)))), _)
    cases hw : walkW a b c s 0 with
    | none => rw [hw] at e2; exact xs_ret e2
    | some m => rw [hw] at e2; rw [hm m hw] at e2 ⊢; exact xs_next e2 (by (repeat (first | with_reducible (first | apply e_lit | apply e_bor | apply e_var | apply o_none | apply s_nil | apply e_dict0 | apply xs_nil | apply i_nil | apply y_nil | apply e_bin | apply e_cmp | apply e_sub | apply e_slice | apply o_some | apply s_cons | apply e_call | apply e_bi | apply e_list | apply e_tuple | apply e_not | apply e_rev | apply e_met | apply e_ite | apply e_and | apply a_one | apply a_c | apply b_not | apply b_and | apply b_or | apply b_of | apply i_c | apply y_c | apply x_assign | apply x_ownL | apply x_setItem | apply x_append | apply x_ret | apply x_retOwn | apply x_ownCall | apply x_if | exact x_raise | apply xs_retE | apply xs_retO | apply xs_ifR | apply m_ret | apply xs_next | apply xs_ret | apply r_e | apply r_1 | apply r_zip | exact add_int _ _ | exact sub_int _ _ | exact sz0 | exact sz1 _ | exact sz2 _ _ | exact sz3 _ _ _ | exact sz4 _ _ _ _ | exact sz5 _ _ _ _ _ | exact sz6 _ _ _ _ _ _ | exact sz7 _ _ _ _ _ _ _ | exact sz8 _ _ _ _ _ _ _ _ | exact sz9 _ _ _ _ _ _ _ _ _ | apply q_eq | apply q_ne | apply d_str | apply q_len) | ((with_reducible refine c_tt ?_ ?_); · rfl) | ((with_reducible refine c_ff ?_ ?_); · rfl) | ((with_reducible refine div_pos _ _ ?_ ?_) <;> decide) | ((with_reducible refine mod_pos _ _ ?_); decide) | rfl | (intro q; cases q))))
  | none => rfl
  | bool => rfl
  | int => rfl
  | list => rfl
  | tuple => rfl
  | dict => rfl
  | exc => exact hx.elim
end Mine.L01
end

noncomputable section
set_option maxRecDepth 100000
set_option linter.unusedSimpArgs false
namespace Mine.Pl
theorem int_beq (m n : Nat) : ((m : Int) == (n : Int)) = decide (m = n) := by
  by_cases h : m = n
  · simp [h]
  · simp [h]; omega
theorem mem_dedupN : ∀ {l : List Nat} {x : Nat}, x ∈ dedupN l ↔ x ∈ l
  | [], x => Iff.rfl
  | y :: r, x => by
    show x ∈ y :: (dedupN r).filter (· != y) ↔ _
    rw [List.mem_cons, List.mem_cons, List.mem_filter, mem_dedupN (l := r)]
    by_cases h : x = y
    · exact ⟨fun _ => .inl h, fun _ => .inl h⟩
    · exact ⟨fun q => q.imp id And.left, fun q => q.imp id fun q => ⟨q, bne_iff_ne.mpr h⟩⟩
theorem dedupN_le : ∀ (l : List Nat), (dedupN l).length ≤ l.length
  | [] => Nat.le_refl _
  | y :: r => Nat.succ_le_succ (Nat.le_trans (List.length_filter_le (fun z => z != y) (dedupN r)) (dedupN_le r))
theorem dedupN_len : ∀ (l : List Nat), (dedupN l).length = l.length ↔ l.Nodup
  | [] => ⟨fun _ => List.nodup_nil, fun _ => rfl⟩
  | y :: r => by
    have h1 := dedupN_le r
    have h2 := List.length_filter_le (fun z => z != y) (dedupN r)
    have ih := dedupN_len r
    show ((dedupN r).filter (· != y)).length + 1 = r.length + 1 ↔ _
    rw [List.nodup_cons]
    constructor
    · intro h
      have h3 : (dedupN r).length = r.length := by omega
      have h4 : ((dedupN r).filter (fun z => z != y)).length = (dedupN r).length := by omega
      refine ⟨fun hm => ?_, ih.mp h3⟩
      have := (List.length_filter_eq_length_iff.mp h4) y (mem_dedupN.mpr hm)
      simp at this
    · rintro ⟨hm, hn⟩
      have : (dedupN r).filter (fun z => z != y) = dedupN r := List.filter_eq_self.mpr fun z hz => by
        have : z ≠ y := fun e => hm (e ▸ mem_dedupN.mp hz)
        simpa using this
      rw [this, ih.mpr hn]
end Mine.Pl
namespace Mine.L01
open Mine.Pl
noncomputable def strOf : V → List Nat
  | .str s => s
  | _ => []
noncomputable def once (w : List Nat) : Bool := decide ((dedupN w).length = w.length)
noncomputable def good3 (l : List V) : Bool := decide (l.length = 3) && (l.all letters && once (l.flatMap strOf))
noncomputable def goodV : V → Bool
  | .tuple l => good3 l
  | _ => false
noncomputable def thing (x : V) : Prop := part x ∧ ∀ l, x = .tuple l → l.length ≤ 100 ∧ ∀ y ∈ l, part y
theorem loop1 (d : Nat) (t : V) (w : Slot) : ∀ (l : List V) (x : Slot), (∀ y ∈ l, part y) → ∃ x', forL (M.noErr (exs prog (callN prog (d + 1)) false f1b0)) (.one 1) l ⟨[.v t, x, w]⟩ =
    some (.ok (if l.all letters then .next else .ret (.v (.bool false))), ⟨[.v t, x', w]⟩)
  | [], x, _ => ⟨x, rfl⟩
  | c :: l, x, hp => by
    have hk := call0 d c (hp c (.head _))
    cases hc : letters c with
    | true =>
      rw [hc] at hk
      have st : exs prog (callN prog (d + 1)) false f1b0 ⟨[.v t, .v c, w]⟩ = some (.ok .next, ⟨[.v t, .v c, w]⟩) := by simp only [f1b0]; (repeat (first | with_reducible (first | exact hk | apply e_lit | apply e_bor | apply e_var | apply o_none | apply s_nil | apply e_dict0 | apply xs_nil | apply i_nil | apply y_nil | apply e_bin | apply e_cmp | apply e_sub | apply e_slice | apply o_some | apply s_cons | apply e_call | apply e_bi | apply e_list | apply e_tuple | apply e_not | apply e_rev | apply e_met | apply e_ite | apply e_and | apply a_one | apply a_c | apply b_not | apply b_and | apply b_or | apply b_of | apply i_c | apply y_c | apply x_assign | apply x_ownL | apply x_setItem | apply x_append | apply x_ret | apply x_retOwn | apply x_ownCall | apply x_if | exact x_raise | apply xs_retE | apply xs_retO | apply xs_ifR | apply m_ret | apply xs_next | apply xs_ret | apply r_e | apply r_1 | apply r_zip | exact add_int _ _ | exact sub_int _ _ | exact sz0 | exact sz1 _ | exact sz2 _ _ | exact sz3 _ _ _ | exact sz4 _ _ _ _ | exact sz5 _ _ _ _ _ | exact sz6 _ _ _ _ _ _ | exact sz7 _ _ _ _ _ _ _ | exact sz8 _ _ _ _ _ _ _ _ | exact sz9 _ _ _ _ _ _ _ _ _ | apply q_eq | apply q_ne | apply d_str | apply q_len) | ((with_reducible refine c_tt ?_ ?_); · exact hk) | ((with_reducible refine c_ff ?_ ?_); · exact hk) | ((with_reducible refine c_tt ?_ ?_); · rfl) | ((with_reducible refine c_ff ?_ ?_); · rfl) | ((with_reducible refine div_pos _ _ ?_ ?_) <;> decide) | ((with_reducible refine mod_pos _ _ ?_); decide) | rfl | (intro q; cases q)))
      obtain ⟨x', h⟩ := loop1 d t w l (.v c) fun y hy => hp y (.tail _ hy)
      refine ⟨x', ?_⟩
      rw [forL_next (σ₁ := ⟨[.v t, .v c, w]⟩) rfl st, h, List.all_cons, hc, Bool.true_and]
    | false =>
      rw [hc] at hk
      have st : exs prog (callN prog (d + 1)) false f1b0 ⟨[.v t, .v c, w]⟩ = some (.ok (.ret (.v (.bool false))), ⟨[.v t, .v c, w]⟩) := by simp only [f1b0]; (repeat (first | with_reducible (first | exact hk | apply e_lit | apply e_bor | apply e_var | apply o_none | apply s_nil | apply e_dict0 | apply xs_nil | apply i_nil | apply y_nil | apply e_bin | apply e_cmp | apply e_sub | apply e_slice | apply o_some | apply s_cons | apply e_call | apply e_bi | apply e_list | apply e_tuple | apply e_not | apply e_rev | apply e_met | apply e_ite | apply e_and | apply a_one | apply a_c | apply b_not | apply b_and | apply b_or | apply b_of | apply i_c | apply y_c | apply x_assign | apply x_ownL | apply x_setItem | apply x_append | apply x_ret | apply x_retOwn | apply x_ownCall | apply x_if | exact x_raise | apply xs_retE | apply xs_retO | apply xs_ifR | apply m_ret | apply xs_next | apply xs_ret | apply r_e | apply r_1 | apply r_zip | exact add_int _ _ | exact sub_int _ _ | exact sz0 | exact sz1 _ | exact sz2 _ _ | exact sz3 _ _ _ | exact sz4 _ _ _ _ | exact sz5 _ _ _ _ _ | exact sz6 _ _ _ _ _ _ | exact sz7 _ _ _ _ _ _ _ | exact sz8 _ _ _ _ _ _ _ _ | exact sz9 _ _ _ _ _ _ _ _ _ | apply q_eq | apply q_ne | apply d_str | apply q_len) | ((with_reducible refine c_tt ?_ ?_); · exact hk) | ((with_reducible refine c_ff ?_ ?_); · exact hk) | ((with_reducible refine c_tt ?_ ?_); · rfl) | ((with_reducible refine c_ff ?_ ?_); · rfl) | ((with_reducible refine div_pos _ _ ?_ ?_) <;> decide) | ((with_reducible refine mod_pos _ _ ?_); decide) | rfl | (intro q; cases q)))
      refine ⟨.v c, ?_⟩
      rw [forL_ret (σ₁ := ⟨[.v t, .v c, w]⟩) rfl st, List.all_cons, hc]; rfl
theorem letters_str {x : V} {C : V → Prop} (h : letters x = true) (k : ∀ s : List Nat, s.length ≤ 4 → C (.str s)) : C x := by
  cases x with
  | str s => exact k s (of_decide_eq_true ((Bool.and_eq_true _ _).mp h).1)
  | _ => cases h
theorem three {α : Type} {C : List α → Prop} {l : List α} (h : l.length = 3) (k : ∀ x y z, C [x, y, z]) : C l :=
  match l, h with
  | [x, y, z], _ => k x y z
theorem not_three {l : List V} (h : l.length ≠ 3) : good3 l = false := by
  unfold good3; rw [decide_eq_false h]; rfl
theorem not_all {l : List V} (h : l.all letters = false) : good3 l = false := by
  unfold good3; rw [h]; exact Bool.and_false _
theorem len_ne {l : List V} (h : l.length ≠ 3) : (!((l.length : Int) == 3)) = true := by rw [show (3 : Int) = ((3 : Nat) : Int) from rfl, int_beq, decide_eq_false h]; rfl
theorem len_eq {l : List V} (h : l.length = 3) : (!((l.length : Int) == 3)) = false := by rw [h]; rfl
theorem flat3 (a b c : List Nat) : [V.str a, .str b, .str c].flatMap strOf = a ++ b ++ c := by
  show a ++ (b ++ (c ++ [])) = _
  rw [List.append_nil, List.append_assoc]
theorem strs3 {l : List V} (h : l.length = 3) (ha : l.all letters = true) : ∃ a b c : List Nat, l = [.str a, .str b, .str c] ∧ a.length ≤ 4 ∧ b.length ≤ 4 ∧ c.length ≤ 4 := by
  revert ha
  refine three (C := fun l => l.all letters = true → ∃ a b c : List Nat, l = [.str a, .str b, .str c] ∧ a.length ≤ 4 ∧ b.length ≤ 4 ∧ c.length ≤ 4) h fun x y z ha => ?_
  have ha := (Bool.and_eq_true _ _).mp ha
  have hb := (Bool.and_eq_true _ _).mp ha.2
  have hc := (Bool.and_eq_true _ _).mp hb.2
  exact letters_str (C := fun x => ∃ a b c : List Nat, [x, y, z] = [.str a, .str b, .str c] ∧ a.length ≤ 4 ∧ b.length ≤ 4 ∧ c.length ≤ 4) ha.1 fun a la => letters_str (C := fun y => ∃ a b c : List Nat, [_, y, z] = [.str a, .str b, .str c] ∧ a.length ≤ 4 ∧ b.length ≤ 4 ∧ c.length ≤ 4) hb.1 fun b lb => letters_str (C := fun z => ∃ a b c : List Nat, [_, _, z] = [.str a, .str b, .str c] ∧ a.length ≤ 4 ∧ b.length ≤ 4 ∧ c.length ≤ 4) hc.1 fun c lc => ⟨a, b, c, rfl, la, lb, lc⟩
theorem call1t (d : Nat) (a b c : List Nat) (x' : Slot) (la : a.length ≤ 4) (lb : b.length ≤ 4) (lc : c.length ≤ 4)
    (e1 : ex prog (callN prog (d + 1)) false (.ite (.or [(.not (.bi (.isinst .tuple) [(.bor 0)])), (.cmp .ne (.bi .len [(.bor 0)]) (.lit (.int 3)))]) [.ret (.lit (.bool false))] []) ⟨[.v (sg a b c), .unset, .unset]⟩ = some (.ok .next, ⟨[.v (sg a b c), .unset, .unset]⟩))
    (e2 : ex prog (callN prog (d + 1)) false (.forS (.one 1) (.e (.var 0)) f1b0) ⟨[.v (sg a b c), .unset, .unset]⟩ = some (.ok .next, ⟨[.v (sg a b c), x', .unset]⟩)) : callN prog (d + 2) false 1 [sg a b c] = some (.ok (.v (.bool (once ([V.str a, .str b, .str c].flatMap strOf))))) := by
  rw [flat3]
  have e3 : binOp .add (.str a) (.str b) = some (.str (a ++ b)) := add_str (by omega)
  have e4 : binOp .add (.str (a ++ b)) (.str c) = some (.str (a ++ b ++ c)) := add_str (by simp; omega)
  have e5 : seqV (.str (a ++ b ++ c)) = some (charsV (a ++ b ++ c)) := seq_str (by simp; omega)
  have e6 : (a ++ b ++ c).length < 4000 := by simp; omega
  have e7 := q_set (P := prog) e6
  have e8 : cmpOp .eq (.int ((dedupN (a ++ b ++ c)).length : Nat)) (.int ((charsV (a ++ b ++ c)).length : Nat)) = some (once (a ++ b ++ c)) := by
    rw [chars_len]; exact congrArg some (int_beq _ _)
  refine fn_ret (fn := f1) (G := [.v (sg a b c), x', .v (.str (a ++ b ++ c))]) rfl rfl (xs_next e1 (xs_next e2 ?_))
  refine xs_next (σ₁ := ⟨[.v (sg a b c), x', .v (.str (a ++ b ++ c))]⟩) (by (repeat (first | with_reducible (first | exact g0 a b c | exact g1 a b c | exact g2 a b c | exact e3 | exact e4 | apply e_lit | apply e_bor | apply e_var | apply o_none | apply s_nil | apply e_dict0 | apply xs_nil | apply i_nil | apply y_nil | apply e_bin | apply e_cmp | apply e_sub | apply e_slice | apply o_some | apply s_cons | apply e_call | apply e_bi | apply e_list | apply e_tuple | apply e_not | apply e_rev | apply e_met | apply e_ite | apply e_and | apply a_one | apply a_c | apply b_not | apply b_and | apply b_or | apply b_of | apply i_c | apply y_c | apply x_assign | apply x_ownL | apply x_setItem | apply x_append | apply x_ret | apply x_retOwn | apply x_ownCall | apply x_if | exact x_raise | apply xs_retE | apply xs_retO | apply xs_ifR | apply m_ret | apply xs_next | apply xs_ret | apply r_e | apply r_1 | apply r_zip | exact add_int _ _ | exact sub_int _ _ | exact sz0 | exact sz1 _ | exact sz2 _ _ | exact sz3 _ _ _ | exact sz4 _ _ _ _ | exact sz5 _ _ _ _ _ | exact sz6 _ _ _ _ _ _ | exact sz7 _ _ _ _ _ _ _ | exact sz8 _ _ _ _ _ _ _ _ | exact sz9 _ _ _ _ _ _ _ _ _ | apply q_eq | apply q_ne | apply d_str | apply q_len) | ((with_reducible refine c_tt ?_ ?_); · exact g0 a b c) | ((with_reducible refine c_ff ?_ ?_); · exact g0 a b c) | ((with_reducible refine c_tt ?_ ?_); · exact g1 a b c) | ((with_reducible refine c_ff ?_ ?_); · exact g1 a b c) | ((with_reducible refine c_tt ?_ ?_); · exact g2 a b c) | ((with_reducible refine c_ff ?_ ?_); · exact g2 a b c) | ((with_reducible refine c_tt ?_ ?_); · exact e3) | ((with_reducible refine c_ff ?_ ?_); · exact e3) | ((with_reducible refine c_tt ?_ ?_); · exact e4) | ((with_reducible refine c_ff ?_ ?_); · exact e4) | ((with_reducible refine c_tt ?_ ?_); · rfl) | ((with_reducible refine c_ff ?_ ?_); · rfl) | ((with_reducible refine div_pos _ _ ?_ ?_) <;> decide) | ((with_reducible refine mod_pos _ _ ?_); decide) | rfl | (intro q; cases q)))) ?_
  (repeat (first | with_reducible (first | exact e5 | exact e7 | exact e8 | apply e_lit | apply e_bor | apply e_var | apply o_none | apply s_nil | apply e_dict0 | apply xs_nil | apply i_nil | apply y_nil | apply e_bin | apply e_cmp | apply e_sub | apply e_slice | apply o_some | apply s_cons | apply e_call | apply e_bi | apply e_list | apply e_tuple | apply e_not | apply e_rev | apply e_met | apply e_ite | apply e_and | apply a_one | apply a_c | apply b_not | apply b_and | apply b_or | apply b_of | apply i_c | apply y_c | apply x_assign | apply x_ownL | apply x_setItem | apply x_append | apply x_ret | apply x_retOwn | apply x_ownCall | apply x_if | exact x_raise | apply xs_retE | apply xs_retO | apply xs_ifR | apply m_ret | apply xs_next | apply xs_ret | apply r_e | apply r_1 | apply r_zip | exact add_int _ _ | exact sub_int _ _ | exact sz0 | exact sz1 _ | exact sz2 _ _ | exact sz3 _ _ _ | exact sz4 _ _ _ _ | exact sz5 _ _ _ _ _ | exact sz6 _ _ _ _ _ _ | exact sz7 _ _ _ _ _ _ _ | exact sz8 _ _ _ _ _ _ _ _ | exact sz9 _ _ _ _ _ _ _ _ _ | apply q_eq | apply q_ne | apply d_str | apply q_len) | ((with_reducible refine c_tt ?_ ?_); · exact e5) | ((with_reducible refine c_ff ?_ ?_); · exact e5) | ((with_reducible refine c_tt ?_ ?_); · exact e7) | ((with_reducible refine c_ff ?_ ?_); · exact e7) | ((with_reducible refine c_tt ?_ ?_); · exact e8) | ((with_reducible refine c_ff ?_ ?_); · exact e8) | ((with_reducible refine c_tt ?_ ?_); · rfl) | ((with_reducible refine c_ff ?_ ?_); · rfl) | ((with_reducible refine div_pos _ _ ?_ ?_) <;> decide) | ((with_reducible refine mod_pos _ _ ?_); decide) | rfl | (intro q; cases q)))
theorem call1 (d : Nat) (x : V) (hx : thing x) : callN prog (d + 2) false 1 [x] = some (.ok (.v (.bool (goodV x)))) := by
  obtain ⟨hp, ht⟩ := hx
  cases x with
  | tuple l =>
    obtain ⟨hl, hy⟩ := ht l rfl
    have h1 : seqV (.tuple l) = some l := seq_tuple (by omega)
    show _ = some (Except.ok (Slot.v (V.bool (good3 l))))
    by_cases h3 : l.length = 3
    · obtain ⟨x', h⟩ := loop1 d (.tuple l) .unset l .unset hy
      have e1 : ex prog (callN prog (d + 1)) false (.ite (.or [(.not (.bi (.isinst .tuple) [(.bor 0)])), (.cmp .ne (.bi .len [(.bor 0)]) (.lit (.int 3)))]) [.ret (.lit (.bool false))] []) ⟨[.v (.tuple l), .unset, .unset]⟩ = some (.ok .next, ⟨[.v (.tuple l), .unset, .unset]⟩) := by
        (repeat (first | with_reducible (first | exact h1 | exact len_eq h3 | apply e_lit | apply e_bor | apply e_var | apply o_none | apply s_nil | apply e_dict0 | apply xs_nil | apply i_nil | apply y_nil | apply e_bin | apply e_cmp | apply e_sub | apply e_slice | apply o_some | apply s_cons | apply e_call | apply e_bi | apply e_list | apply e_tuple | apply e_not | apply e_rev | apply e_met | apply e_ite | apply e_and | apply a_one | apply a_c | apply b_not | apply b_and | apply b_or | apply b_of | apply i_c | apply y_c | apply x_assign | apply x_ownL | apply x_setItem | apply x_append | apply x_ret | apply x_retOwn | apply x_ownCall | apply x_if | exact x_raise | apply xs_retE | apply xs_retO | apply xs_ifR | apply m_ret | apply xs_next | apply xs_ret | apply r_e | apply r_1 | apply r_zip | exact add_int _ _ | exact sub_int _ _ | exact sz0 | exact sz1 _ | exact sz2 _ _ | exact sz3 _ _ _ | exact sz4 _ _ _ _ | exact sz5 _ _ _ _ _ | exact sz6 _ _ _ _ _ _ | exact sz7 _ _ _ _ _ _ _ | exact sz8 _ _ _ _ _ _ _ _ | exact sz9 _ _ _ _ _ _ _ _ _ | apply q_eq | apply q_ne | apply d_str | apply q_len) | ((with_reducible refine c_tt ?_ ?_); · exact h1) | ((with_reducible refine c_ff ?_ ?_); · exact h1) | ((with_reducible refine c_tt ?_ ?_); · exact len_eq h3) | ((with_reducible refine c_ff ?_ ?_); · exact len_eq h3) | ((with_reducible refine c_tt ?_ ?_); · rfl) | ((with_reducible refine c_ff ?_ ?_); · rfl) | ((with_reducible refine div_pos _ _ ?_ ?_) <;> decide) | ((with_reducible refine mod_pos _ _ ?_); decide) | rfl | (intro q; cases q)))
      have e2 := (ex_for (P := prog) (cf := callN prog (d + 1)) (t := .one 1) (src := .e (.var 0)) (b := f1b0) (xs := l) (σ := ⟨[.v (.tuple l), .unset, .unset]⟩) (σ₁ := ⟨[.v (.tuple l), .unset, .unset]⟩) (by (repeat (first | with_reducible (first | exact h1 | apply e_lit | apply e_bor | apply e_var | apply o_none | apply s_nil | apply e_dict0 | apply xs_nil | apply i_nil | apply y_nil | apply e_bin | apply e_cmp | apply e_sub | apply e_slice | apply o_some | apply s_cons | apply e_call | apply e_bi | apply e_list | apply e_tuple | apply e_not | apply e_rev | apply e_met | apply e_ite | apply e_and | apply a_one | apply a_c | apply b_not | apply b_and | apply b_or | apply b_of | apply i_c | apply y_c | apply x_assign | apply x_ownL | apply x_setItem | apply x_append | apply x_ret | apply x_retOwn | apply x_ownCall | apply x_if | exact x_raise | apply xs_retE | apply xs_retO | apply xs_ifR | apply m_ret | apply xs_next | apply xs_ret | apply r_e | apply r_1 | apply r_zip | exact add_int _ _ | exact sub_int _ _ | exact sz0 | exact sz1 _ | exact sz2 _ _ | exact sz3 _ _ _ | exact sz4 _ _ _ _ | exact sz5 _ _ _ _ _ | exact sz6 _ _ _ _ _ _ | exact sz7 _ _ _ _ _ _ _ | exact sz8 _ _ _ _ _ _ _ _ | exact sz9 _ _ _ _ _ _ _ _ _ | apply q_eq | apply q_ne | apply d_str | apply q_len) | ((with_reducible refine c_tt ?_ ?_); · exact h1) | ((with_reducible refine c_ff ?_ ?_); · exact h1) | ((with_reducible refine c_tt ?_ ?_); · rfl) | ((with_reducible refine c_ff ?_ ?_); · rfl) | ((with_reducible refine div_pos _ _ ?_ ?_) <;> decide) | ((with_reducible refine mod_pos _ _ ?_); decide) | rfl | (intro q; cases q))))).trans h
      cases ha : l.all letters with
      | false =>
        rw [ha] at e2
        rw [not_all ha]
        exact fn_ret (fn := f1) (G := [.v (.tuple l), x', .unset]) rfl rfl (xs_next e1 (xs_ret e2))
      | true =>
        rw [ha] at e2
        have eg : good3 l = once (l.flatMap strOf) := by unfold good3; rw [decide_eq_true h3, ha]; rfl
        rw [eg]
        obtain ⟨a, b, c, e, la, lb, lc⟩ := strs3 h3 ha
        clear eg h hl hy h1 ht hp ha h3
        subst e
        exact call1t d a b c x' la lb lc e1 e2
    · rw [not_three h3]
      refine fn_ret (fn := f1) (G := [.v (.tuple l), .unset, .unset]) rfl rfl (xs_ret (σ₁ := ⟨[.v (.tuple l), .unset, .unset]⟩) ?_)
      show ex prog (callN prog (d + 1)) false (.ite (.or [(.not (.bi (.isinst .tuple) [(.bor 0)])), (.cmp .ne (.bi .len [(.bor 0)]) (.lit (.int 3)))]) [.ret (.lit (.bool false))] []) ⟨[.v (.tuple l), .unset, .unset]⟩ = _
      (repeat (first | with_reducible (first | exact h1 | exact len_ne h3 | apply e_lit | apply e_bor | apply e_var | apply o_none | apply s_nil | apply e_dict0 | apply xs_nil | apply i_nil | apply y_nil | apply e_bin | apply e_cmp | apply e_sub | apply e_slice | apply o_some | apply s_cons | apply e_call | apply e_bi | apply e_list | apply e_tuple | apply e_not | apply e_rev | apply e_met | apply e_ite | apply e_and | apply a_one | apply a_c | apply b_not | apply b_and | apply b_or | apply b_of | apply i_c | apply y_c | apply x_assign | apply x_ownL | apply x_setItem | apply x_append | apply x_ret | apply x_retOwn | apply x_ownCall | apply x_if | exact x_raise | apply xs_retE | apply xs_retO | apply xs_ifR | apply m_ret | apply xs_next | apply xs_ret | apply r_e | apply r_1 | apply r_zip | exact add_int _ _ | exact sub_int _ _ | exact sz0 | exact sz1 _ | exact sz2 _ _ | exact sz3 _ _ _ | exact sz4 _ _ _ _ | exact sz5 _ _ _ _ _ | exact sz6 _ _ _ _ _ _ | exact sz7 _ _ _ _ _ _ _ | exact sz8 _ _ _ _ _ _ _ _ | exact sz9 _ _ _ _ _ _ _ _ _ | apply q_eq | apply q_ne | apply d_str | apply q_len) | ((with_reducible refine c_tt ?_ ?_); · exact h1) | ((with_reducible refine c_ff ?_ ?_); · exact h1) | ((with_reducible refine c_tt ?_ ?_); · exact len_ne h3) | ((with_reducible refine c_ff ?_ ?_); · exact len_ne h3) | ((with_reducible refine c_tt ?_ ?_); · rfl) | ((with_reducible refine c_ff ?_ ?_); · rfl) | ((with_reducible refine div_pos _ _ ?_ ?_) <;> decide) | ((with_reducible refine mod_pos _ _ ?_); decide) | rfl | (intro q; cases q)))
  | exc => exact hp.elim
  | _ => rfl

/-! the law's own word of good signs -/
noncomputable def seenW : List Nat → List Nat → Option (List Nat)
  | [], s => some s
  | c :: r, s => if low c then (if s.elem c then none else seenW r (s ++ [c])) else none
theorem seenW_eq : ∀ (l s : List Nat), s.Nodup → seenW l s = if l.all low = true ∧ (s ++ l).Nodup then some (s ++ l) else none
  | [], s, hs => by rw [List.append_nil]; exact (if_pos ⟨rfl, hs⟩).symm
  | c :: r, s, hs => by
    show (if low c then (if s.elem c then none else seenW r (s ++ [c])) else none) = _
    by_cases hl : low c = true
    · rw [if_pos hl]
      by_cases hm : c ∈ s
      · rw [if_pos (by simpa using hm), if_neg]
        rintro ⟨_, hn⟩
        exact (List.nodup_append.mp hn).2.2 c hm c (.head _) rfl
      · have hs' : (s ++ [c]).Nodup := by
          rw [List.nodup_append]
          exact ⟨hs, by simp, fun a ha b hb e => hm (by simp at hb; rw [← hb, ← e]; exact ha)⟩
        rw [if_neg (by simpa using hm), seenW_eq r (s ++ [c]) hs']
        simp only [List.append_assoc, List.cons_append, List.nil_append, List.all_cons, hl, Bool.true_and]
    · rw [if_neg hl, if_neg]
      rintro ⟨h, _⟩
      simp only [List.all_cons, Bool.and_eq_true] at h
      exact hl h.1
theorem seen_low {c : Nat} {r s : List Nat} (h : low c = false) : seenW (c :: r) s = none := if_neg (by rw [h]; decide)
theorem seen_old {c : Nat} {r s : List Nat} (h : low c = true) (h2 : s.elem c = true) : seenW (c :: r) s = none := (if_pos h).trans (if_pos h2)
theorem seen_new {c : Nat} {r s : List Nat} (h : low c = true) (h2 : s.elem c = false) : seenW (c :: r) s = seenW r (s ++ [c]) := (if_pos h).trans (if_neg (by rw [h2]; decide))
theorem loop12a (cf : CallF) (t p : V) : ∀ (l s : List Nat) (x : Slot), s.length + l.length ≤ 1000 → ∃ s' x', forL (M.noErr (exs prog cf false f12b0)) (.one 3) (charsV l) ⟨[.v t, .v (.str s), .v p, x]⟩ =
    some (.ok (if (seenW l s).isSome then .next else .ret (.v (.bool false))), ⟨[.v t, .v (.str s'), .v p, x']⟩) ∧ ∀ m, seenW l s = some m → s' = m
  | [], s, x, _ => ⟨s, x, rfl, fun m e => by cases e; rfl⟩
  | c :: l, s, x, hl => by
    rw [List.length_cons] at hl
    rw [show charsV (c :: l) = .str [c] :: charsV l from rfl]
    cases hc : low c with
    | false =>
      have st : exs prog cf false f12b0 ⟨[.v t, .v (.str s), .v p, .v (.str [c])]⟩ = some (.ok (.ret (.v (.bool false))), ⟨[.v t, .v (.str s), .v p, .v (.str [c])]⟩) := by
        simp only [f12b0]; (repeat (first | with_reducible (first | exact (show (!abc.elem c) = true by rw [show abc.elem c = low c from rfl, hc]; rfl) | apply e_lit | apply e_bor | apply e_var | apply o_none | apply s_nil | apply e_dict0 | apply xs_nil | apply i_nil | apply y_nil | apply e_bin | apply e_cmp | apply e_sub | apply e_slice | apply o_some | apply s_cons | apply e_call | apply e_bi | apply e_list | apply e_tuple | apply e_not | apply e_rev | apply e_met | apply e_ite | apply e_and | apply a_one | apply a_c | apply b_not | apply b_and | apply b_or | apply b_of | apply i_c | apply y_c | apply x_assign | apply x_ownL | apply x_setItem | apply x_append | apply x_ret | apply x_retOwn | apply x_ownCall | apply x_if | exact x_raise | apply xs_retE | apply xs_retO | apply xs_ifR | apply m_ret | apply xs_next | apply xs_ret | apply r_e | apply r_1 | apply r_zip | exact add_int _ _ | exact sub_int _ _ | exact sz0 | exact sz1 _ | exact sz2 _ _ | exact sz3 _ _ _ | exact sz4 _ _ _ _ | exact sz5 _ _ _ _ _ | exact sz6 _ _ _ _ _ _ | exact sz7 _ _ _ _ _ _ _ | exact sz8 _ _ _ _ _ _ _ _ | exact sz9 _ _ _ _ _ _ _ _ _ | apply q_eq | apply q_ne | apply d_str | apply q_len) | ((with_reducible refine c_tt ?_ ?_); · exact (show (!abc.elem c) = true by rw [show abc.elem c = low c from rfl, hc]; rfl)) | ((with_reducible refine c_ff ?_ ?_); · exact (show (!abc.elem c) = true by rw [show abc.elem c = low c from rfl, hc]; rfl)) | ((with_reducible refine c_tt ?_ ?_); · rfl) | ((with_reducible refine c_ff ?_ ?_); · rfl) | ((with_reducible refine div_pos _ _ ?_ ?_) <;> decide) | ((with_reducible refine mod_pos _ _ ?_); decide) | rfl | (intro q; cases q)))
      rw [seen_low hc]
      exact ⟨s, .v (.str [c]), forL_ret (σ₁ := ⟨[.v t, .v (.str s), .v p, .v (.str [c])]⟩) rfl st, nofun⟩
    | true =>
    have hn : (!abc.elem c) = false := by rw [show abc.elem c = low c from rfl, hc]; rfl
    cases he : s.elem c with
    | true =>
      have st : exs prog cf false f12b0 ⟨[.v t, .v (.str s), .v p, .v (.str [c])]⟩ = some (.ok (.ret (.v (.bool false))), ⟨[.v t, .v (.str s), .v p, .v (.str [c])]⟩) := by
        simp only [f12b0]; (repeat (first | with_reducible (first | exact hn | exact he | apply e_lit | apply e_bor | apply e_var | apply o_none | apply s_nil | apply e_dict0 | apply xs_nil | apply i_nil | apply y_nil | apply e_bin | apply e_cmp | apply e_sub | apply e_slice | apply o_some | apply s_cons | apply e_call | apply e_bi | apply e_list | apply e_tuple | apply e_not | apply e_rev | apply e_met | apply e_ite | apply e_and | apply a_one | apply a_c | apply b_not | apply b_and | apply b_or | apply b_of | apply i_c | apply y_c | apply x_assign | apply x_ownL | apply x_setItem | apply x_append | apply x_ret | apply x_retOwn | apply x_ownCall | apply x_if | exact x_raise | apply xs_retE | apply xs_retO | apply xs_ifR | apply m_ret | apply xs_next | apply xs_ret | apply r_e | apply r_1 | apply r_zip | exact add_int _ _ | exact sub_int _ _ | exact sz0 | exact sz1 _ | exact sz2 _ _ | exact sz3 _ _ _ | exact sz4 _ _ _ _ | exact sz5 _ _ _ _ _ | exact sz6 _ _ _ _ _ _ | exact sz7 _ _ _ _ _ _ _ | exact sz8 _ _ _ _ _ _ _ _ | exact sz9 _ _ _ _ _ _ _ _ _ | apply q_eq | apply q_ne | apply d_str | apply q_len) | ((with_reducible refine c_tt ?_ ?_); · exact hn) | ((with_reducible refine c_ff ?_ ?_); · exact hn) | ((with_reducible refine c_tt ?_ ?_); · exact he) | ((with_reducible refine c_ff ?_ ?_); · exact he) | ((with_reducible refine c_tt ?_ ?_); · rfl) | ((with_reducible refine c_ff ?_ ?_); · rfl) | ((with_reducible refine div_pos _ _ ?_ ?_) <;> decide) | ((with_reducible refine mod_pos _ _ ?_); decide) | rfl | (intro q; cases q)))
      rw [seen_old hc he]
      exact ⟨s, .v (.str [c]), forL_ret (σ₁ := ⟨[.v t, .v (.str s), .v p, .v (.str [c])]⟩) rfl st, nofun⟩
    | false =>
      have ea : binOp .add (.str s) (.str [c]) = some (.str (s ++ [c])) := add_str (by simp; omega)
      have st : exs prog cf false f12b0 ⟨[.v t, .v (.str s), .v p, .v (.str [c])]⟩ = some (.ok .next, ⟨[.v t, .v (.str (s ++ [c])), .v p, .v (.str [c])]⟩) := by
        simp only [f12b0]; (repeat (first | with_reducible (first | exact hn | exact he | exact ea | apply e_lit | apply e_bor | apply e_var | apply o_none | apply s_nil | apply e_dict0 | apply xs_nil | apply i_nil | apply y_nil | apply e_bin | apply e_cmp | apply e_sub | apply e_slice | apply o_some | apply s_cons | apply e_call | apply e_bi | apply e_list | apply e_tuple | apply e_not | apply e_rev | apply e_met | apply e_ite | apply e_and | apply a_one | apply a_c | apply b_not | apply b_and | apply b_or | apply b_of | apply i_c | apply y_c | apply x_assign | apply x_ownL | apply x_setItem | apply x_append | apply x_ret | apply x_retOwn | apply x_ownCall | apply x_if | exact x_raise | apply xs_retE | apply xs_retO | apply xs_ifR | apply m_ret | apply xs_next | apply xs_ret | apply r_e | apply r_1 | apply r_zip | exact add_int _ _ | exact sub_int _ _ | exact sz0 | exact sz1 _ | exact sz2 _ _ | exact sz3 _ _ _ | exact sz4 _ _ _ _ | exact sz5 _ _ _ _ _ | exact sz6 _ _ _ _ _ _ | exact sz7 _ _ _ _ _ _ _ | exact sz8 _ _ _ _ _ _ _ _ | exact sz9 _ _ _ _ _ _ _ _ _ | apply q_eq | apply q_ne | apply d_str | apply q_len) | ((with_reducible refine c_tt ?_ ?_); · exact hn) | ((with_reducible refine c_ff ?_ ?_); · exact hn) | ((with_reducible refine c_tt ?_ ?_); · exact he) | ((with_reducible refine c_ff ?_ ?_); · exact he) | ((with_reducible refine c_tt ?_ ?_); · exact ea) | ((with_reducible refine c_ff ?_ ?_); · exact ea) | ((with_reducible refine c_tt ?_ ?_); · rfl) | ((with_reducible refine c_ff ?_ ?_); · rfl) | ((with_reducible refine div_pos _ _ ?_ ?_) <;> decide) | ((with_reducible refine mod_pos _ _ ?_); decide) | rfl | (intro q; cases q)))
      obtain ⟨s', x', e, hm⟩ := loop12a cf t p l (s ++ [c]) (.v (.str [c])) (by simp; omega)
      rw [seen_new hc he]
      exact ⟨s', x', (forL_next (σ₁ := ⟨[.v t, .v (.str s), .v p, .v (.str [c])]⟩) rfl st).trans e, hm⟩
noncomputable def partsW : List V → List Nat → Option (List Nat)
  | [], s => some s
  | x :: r, s => match x with
    | .str a => if a.length ≤ 4 then (seenW a s).bind (partsW r) else none
    | _ => none
theorem parts_str {a : List Nat} {r : List V} {s : List Nat} (h : a.length ≤ 4) : partsW (.str a :: r) s = (seenW a s).bind (partsW r) := if_pos h
theorem parts_long {a : List Nat} {r : List V} {s : List Nat} (h : ¬ a.length ≤ 4) : partsW (.str a :: r) s = none := if_neg h
theorem seenW_len : ∀ (l s m : List Nat), seenW l s = some m → m.length = s.length + l.length
  | [], s, m, e => by cases e; rfl
  | c :: r, s, m, e => by
    cases hl : low c with
    | false => rw [seen_low hl] at e; cases e
    | true =>
      cases hs : s.elem c with
      | true => rw [seen_old hl hs] at e; cases e
      | false =>
        rw [seen_new hl hs] at e
        have := seenW_len r _ m e
        rw [List.length_append, List.length_singleton] at this
        rw [List.length_cons]; omega
theorem loop12 (cf : CallF) (t : V) : ∀ (l : List V) (s : List Nat) (x y : Slot), s.length + 4 * l.length ≤ 900 → (∀ z ∈ l, part z) → ∃ s' x' y', forL (M.noErr (exs prog cf false f12b1)) (.one 2) l ⟨[.v t, .v (.str s), x, y]⟩ =
    some (.ok (if (partsW l s).isSome then .next else .ret (.v (.bool false))), ⟨[.v t, .v (.str s'), x', y']⟩)
  | [], s, x, y, _, _ => ⟨s, x, y, rfl⟩
  | p :: l, s, x, y, hl, hp => by
    rw [List.length_cons] at hl
    have hpp := hp p (.head _)
    cases p with
    | str a =>
      have h1 : seqV (.str a) = some (charsV a) := seq_str hpp
      by_cases h4 : a.length ≤ 4
      · have h4' : decide ((4 : Int) < ((charsV a).length : Int)) = false := decide_eq_false (by rw [chars_len]; omega)
        obtain ⟨s₁, x₁, e₁, hm₁⟩ := loop12a cf t (.str a) a s y (by omega)
        have fe := (ex_for (P := prog) (cf := cf) (t := .one 3) (src := .e (.var 2)) (b := f12b0) (xs := charsV a) (σ := ⟨[.v t, .v (.str s), .v (.str a), y]⟩) (σ₁ := ⟨[.v t, .v (.str s), .v (.str a), y]⟩) (by (repeat (first | with_reducible (first | exact h1 | apply e_lit | apply e_bor | apply e_var | apply o_none | apply s_nil | apply e_dict0 | apply xs_nil | apply i_nil | apply y_nil | apply e_bin | apply e_cmp | apply e_sub | apply e_slice | apply o_some | apply s_cons | apply e_call | apply e_bi | apply e_list | apply e_tuple | apply e_not | apply e_rev | apply e_met | apply e_ite | apply e_and | apply a_one | apply a_c | apply b_not | apply b_and | apply b_or | apply b_of | apply i_c | apply y_c | apply x_assign | apply x_ownL | apply x_setItem | apply x_append | apply x_ret | apply x_retOwn | apply x_ownCall | apply x_if | exact x_raise | apply xs_retE | apply xs_retO | apply xs_ifR | apply m_ret | apply xs_next | apply xs_ret | apply r_e | apply r_1 | apply r_zip | exact add_int _ _ | exact sub_int _ _ | exact sz0 | exact sz1 _ | exact sz2 _ _ | exact sz3 _ _ _ | exact sz4 _ _ _ _ | exact sz5 _ _ _ _ _ | exact sz6 _ _ _ _ _ _ | exact sz7 _ _ _ _ _ _ _ | exact sz8 _ _ _ _ _ _ _ _ | exact sz9 _ _ _ _ _ _ _ _ _ | apply q_eq | apply q_ne | apply d_str | apply q_len) | ((with_reducible refine c_tt ?_ ?_); · exact h1) | ((with_reducible refine c_ff ?_ ?_); · exact h1) | ((with_reducible refine c_tt ?_ ?_); · rfl) | ((with_reducible refine c_ff ?_ ?_); · rfl) | ((with_reducible refine div_pos _ _ ?_ ?_) <;> decide) | ((with_reducible refine mod_pos _ _ ?_); decide) | rfl | (intro q; cases q))))).trans e₁
        have e0 : ex prog cf false (.ite (.or [(.not (.bi (.isinst .str) [(.bor 2)])), (.cmp .gt (.bi .len [(.bor 2)]) (.lit (.int 4)))]) [.ret (.lit (.bool false))] []) ⟨[.v t, .v (.str s), .v (.str a), y]⟩ = some (.ok .next, ⟨[.v t, .v (.str s), .v (.str a), y]⟩) := by (repeat (first | with_reducible (first | exact h1 | exact h4' | apply e_lit | apply e_bor | apply e_var | apply o_none | apply s_nil | apply e_dict0 | apply xs_nil | apply i_nil | apply y_nil | apply e_bin | apply e_cmp | apply e_sub | apply e_slice | apply o_some | apply s_cons | apply e_call | apply e_bi | apply e_list | apply e_tuple | apply e_not | apply e_rev | apply e_met | apply e_ite | apply e_and | apply a_one | apply a_c | apply b_not | apply b_and | apply b_or | apply b_of | apply i_c | apply y_c | apply x_assign | apply x_ownL | apply x_setItem | apply x_append | apply x_ret | apply x_retOwn | apply x_ownCall | apply x_if | exact x_raise | apply xs_retE | apply xs_retO | apply xs_ifR | apply m_ret | apply xs_next | apply xs_ret | apply r_e | apply r_1 | apply r_zip | exact add_int _ _ | exact sub_int _ _ | exact sz0 | exact sz1 _ | exact sz2 _ _ | exact sz3 _ _ _ | exact sz4 _ _ _ _ | exact sz5 _ _ _ _ _ | exact sz6 _ _ _ _ _ _ | exact sz7 _ _ _ _ _ _ _ | exact sz8 _ _ _ _ _ _ _ _ | exact sz9 _ _ _ _ _ _ _ _ _ | apply q_eq | apply q_ne | apply d_str | apply q_len) | ((with_reducible refine c_tt ?_ ?_); · exact h1) | ((with_reducible refine c_ff ?_ ?_); · exact h1) | ((with_reducible refine c_tt ?_ ?_); · exact h4') | ((with_reducible refine c_ff ?_ ?_); · exact h4') | ((with_reducible refine c_tt ?_ ?_); · rfl) | ((with_reducible refine c_ff ?_ ?_); · rfl) | ((with_reducible refine div_pos _ _ ?_ ?_) <;> decide) | ((with_reducible refine mod_pos _ _ ?_); decide) | rfl | (intro q; cases q)))
        rw [parts_str h4]
        cases hs : seenW a s with
        | none =>
          rw [hs] at fe
          exact ⟨s₁, .v (.str a), x₁, forL_ret (σ₁ := ⟨[.v t, .v (.str s), .v (.str a), y]⟩) rfl (xs_next (P := prog) e0 (xs_ret fe))⟩
        | some m =>
          rw [hs] at fe
          have := hm₁ m hs
          subst this
          have hlen := seenW_len a s s₁ hs
          obtain ⟨s', x', y', e⟩ := loop12 cf t l s₁ (.v (.str a)) x₁ (by omega) fun z hz => hp z (.tail _ hz)
          exact ⟨s', x', y', (forL_next (σ₁ := ⟨[.v t, .v (.str s), .v (.str a), y]⟩) rfl (xs_next (P := prog) e0 (xs_next fe xs_nil))).trans e⟩
      · have h4' : decide ((4 : Int) < ((charsV a).length : Int)) = true := decide_eq_true (by rw [chars_len]; omega)
        have st : exs prog cf false f12b1 ⟨[.v t, .v (.str s), .v (.str a), y]⟩ = some (.ok (.ret (.v (.bool false))), ⟨[.v t, .v (.str s), .v (.str a), y]⟩) := by
          simp only [f12b1]; (repeat (first | with_reducible (first | exact h1 | exact h4' | apply e_lit | apply e_bor | apply e_var | apply o_none | apply s_nil | apply e_dict0 | apply xs_nil | apply i_nil | apply y_nil | apply e_bin | apply e_cmp | apply e_sub | apply e_slice | apply o_some | apply s_cons | apply e_call | apply e_bi | apply e_list | apply e_tuple | apply e_not | apply e_rev | apply e_met | apply e_ite | apply e_and | apply a_one | apply a_c | apply b_not | apply b_and | apply b_or | apply b_of | apply i_c | apply y_c | apply x_assign | apply x_ownL | apply x_setItem | apply x_append | apply x_ret | apply x_retOwn | apply x_ownCall | apply x_if | exact x_raise | apply xs_retE | apply xs_retO | apply xs_ifR | apply m_ret | apply xs_next | apply xs_ret | apply r_e | apply r_1 | apply r_zip | exact add_int _ _ | exact sub_int _ _ | exact sz0 | exact sz1 _ | exact sz2 _ _ | exact sz3 _ _ _ | exact sz4 _ _ _ _ | exact sz5 _ _ _ _ _ | exact sz6 _ _ _ _ _ _ | exact sz7 _ _ _ _ _ _ _ | exact sz8 _ _ _ _ _ _ _ _ | exact sz9 _ _ _ _ _ _ _ _ _ | apply q_eq | apply q_ne | apply d_str | apply q_len) | ((with_reducible refine c_tt ?_ ?_); · exact h1) | ((with_reducible refine c_ff ?_ ?_); · exact h1) | ((with_reducible refine c_tt ?_ ?_); · exact h4') | ((with_reducible refine c_ff ?_ ?_); · exact h4') | ((with_reducible refine c_tt ?_ ?_); · rfl) | ((with_reducible refine c_ff ?_ ?_); · rfl) | ((with_reducible refine div_pos _ _ ?_ ?_) <;> decide) | ((with_reducible refine mod_pos _ _ ?_); decide) | rfl | (intro q; cases q)))
        rw [parts_long h4]
        exact ⟨s, .v (.str a), y, forL_ret (σ₁ := ⟨[.v t, .v (.str s), .v (.str a), y]⟩) rfl st⟩
    | exc => exact hpp.elim
    | _ => exact ⟨s, _, y, rfl⟩
theorem partsW_eq : ∀ (l : List V) (s : List Nat), s.Nodup → partsW l s = if l.all letters = true ∧ (s ++ l.flatMap strOf).Nodup then some (s ++ l.flatMap strOf) else none
  | [], s, hs => by rw [show ([] : List V).flatMap strOf = [] from rfl, List.append_nil]; exact (if_pos ⟨rfl, hs⟩).symm
  | x :: r, s, hs => by
    rw [List.all_cons, List.flatMap_cons, ← List.append_assoc]
    cases x with
    | str a =>
      have hL : letters (.str a) = (decide (a.length ≤ 4) && a.all low) := rfl
      rw [hL, show strOf (.str a) = a from rfl]
      by_cases h4 : a.length ≤ 4
      · rw [parts_str h4, seenW_eq a s hs, decide_eq_true h4, Bool.true_and]
        by_cases h5 : a.all low = true ∧ (s ++ a).Nodup
        · rw [if_pos h5, h5.1, Bool.true_and]; exact partsW_eq r (s ++ a) h5.2
        · rw [if_neg h5, if_neg fun q => h5 ⟨((Bool.and_eq_true _ _).mp q.1).1, (List.nodup_append.mp q.2).1⟩]; rfl
      · rw [parts_long h4, decide_eq_false h4, Bool.false_and, Bool.false_and, if_neg fun q => nomatch q.1]
    | _ => exact (if_neg fun q => nomatch q.1).symm
theorem parts_good {l : List V} (h3 : l.length = 3) : (partsW l []).isSome = good3 l := by
  rw [partsW_eq l [] List.nodup_nil, List.nil_append]
  unfold good3 once
  rw [decide_eq_true h3, Bool.true_and]
  cases ha : l.all letters with
  | false => rw [if_neg fun q => nomatch q.1]; rfl
  | true =>
    by_cases hn : (l.flatMap strOf).Nodup
    · rw [if_pos ⟨rfl, hn⟩, decide_eq_true ((dedupN_len _).mpr hn)]; rfl
    · rw [if_neg fun q => hn q.2, decide_eq_false fun q => hn ((dedupN_len _).mp q)]; rfl
theorem call12 (d : Nat) (x : V) (hx : thing x) : callN prog (d + 1) false 12 [x] = some (.ok (.v (.bool (goodV x)))) := by
  obtain ⟨hp, ht⟩ := hx
  cases x with
  | tuple l =>
    obtain ⟨hl, hy⟩ := ht l rfl
    have h1 : seqV (.tuple l) = some l := seq_tuple (by omega)
    show _ = some (Except.ok (Slot.v (V.bool (good3 l))))
    by_cases h3 : l.length = 3
    · obtain ⟨s', x', y', h⟩ := loop12 (callN prog d) (.tuple l) l [] .unset .unset (by simp; omega) hy
      have e1 : ex prog (callN prog d) false (.ite (.or [(.not (.bi (.isinst .tuple) [(.bor 0)])), (.cmp .ne (.bi .len [(.bor 0)]) (.lit (.int 3)))]) [.ret (.lit (.bool false))] []) ⟨[.v (.tuple l), .unset, .unset, .unset]⟩ = some (.ok .next, ⟨[.v (.tuple l), .unset, .unset, .unset]⟩) := by
        (repeat (first | with_reducible (first | exact h1 | exact len_eq h3 | apply e_lit | apply e_bor | apply e_var | apply o_none | apply s_nil | apply e_dict0 | apply xs_nil | apply i_nil | apply y_nil | apply e_bin | apply e_cmp | apply e_sub | apply e_slice | apply o_some | apply s_cons | apply e_call | apply e_bi | apply e_list | apply e_tuple | apply e_not | apply e_rev | apply e_met | apply e_ite | apply e_and | apply a_one | apply a_c | apply b_not | apply b_and | apply b_or | apply b_of | apply i_c | apply y_c | apply x_assign | apply x_ownL | apply x_setItem | apply x_append | apply x_ret | apply x_retOwn | apply x_ownCall | apply x_if | exact x_raise | apply xs_retE | apply xs_retO | apply xs_ifR | apply m_ret | apply xs_next | apply xs_ret | apply r_e | apply r_1 | apply r_zip | exact add_int _ _ | exact sub_int _ _ | exact sz0 | exact sz1 _ | exact sz2 _ _ | exact sz3 _ _ _ | exact sz4 _ _ _ _ | exact sz5 _ _ _ _ _ | exact sz6 _ _ _ _ _ _ | exact sz7 _ _ _ _ _ _ _ | exact sz8 _ _ _ _ _ _ _ _ | exact sz9 _ _ _ _ _ _ _ _ _ | apply q_eq | apply q_ne | apply d_str | apply q_len) | ((with_reducible refine c_tt ?_ ?_); · exact h1) | ((with_reducible refine c_ff ?_ ?_); · exact h1) | ((with_reducible refine c_tt ?_ ?_); · exact len_eq h3) | ((with_reducible refine c_ff ?_ ?_); · exact len_eq h3) | ((with_reducible refine c_tt ?_ ?_); · rfl) | ((with_reducible refine c_ff ?_ ?_); · rfl) | ((with_reducible refine div_pos _ _ ?_ ?_) <;> decide) | ((with_reducible refine mod_pos _ _ ?_); decide) | rfl | (intro q; cases q)))
      have e2 := (ex_for (P := prog) (cf := callN prog d) (t := .one 2) (src := .e (.var 0)) (b := f12b1) (xs := l) (σ := ⟨[.v (.tuple l), .v (.str []), .unset, .unset]⟩) (σ₁ := ⟨[.v (.tuple l), .v (.str []), .unset, .unset]⟩) (by (repeat (first | with_reducible (first | exact h1 | apply e_lit | apply e_bor | apply e_var | apply o_none | apply s_nil | apply e_dict0 | apply xs_nil | apply i_nil | apply y_nil | apply e_bin | apply e_cmp | apply e_sub | apply e_slice | apply o_some | apply s_cons | apply e_call | apply e_bi | apply e_list | apply e_tuple | apply e_not | apply e_rev | apply e_met | apply e_ite | apply e_and | apply a_one | apply a_c | apply b_not | apply b_and | apply b_or | apply b_of | apply i_c | apply y_c | apply x_assign | apply x_ownL | apply x_setItem | apply x_append | apply x_ret | apply x_retOwn | apply x_ownCall | apply x_if | exact x_raise | apply xs_retE | apply xs_retO | apply xs_ifR | apply m_ret | apply xs_next | apply xs_ret | apply r_e | apply r_1 | apply r_zip | exact add_int _ _ | exact sub_int _ _ | exact sz0 | exact sz1 _ | exact sz2 _ _ | exact sz3 _ _ _ | exact sz4 _ _ _ _ | exact sz5 _ _ _ _ _ | exact sz6 _ _ _ _ _ _ | exact sz7 _ _ _ _ _ _ _ | exact sz8 _ _ _ _ _ _ _ _ | exact sz9 _ _ _ _ _ _ _ _ _ | apply q_eq | apply q_ne | apply d_str | apply q_len) | ((with_reducible refine c_tt ?_ ?_); · exact h1) | ((with_reducible refine c_ff ?_ ?_); · exact h1) | ((with_reducible refine c_tt ?_ ?_); · rfl) | ((with_reducible refine c_ff ?_ ?_); · rfl) | ((with_reducible refine div_pos _ _ ?_ ?_) <;> decide) | ((with_reducible refine mod_pos _ _ ?_); decide) | rfl | (intro q; cases q))))).trans h
      rw [parts_good h3] at e2
      refine fn_ret (fn := f12) (G := [.v (.tuple l), .v (.str s'), x', y']) rfl rfl (xs_next e1 (xs_next (σ₁ := ⟨[.v (.tuple l), .v (.str []), .unset, .unset]⟩) rfl ?_))
      cases hg : good3 l with
      | false => rw [hg] at e2; exact xs_ret e2
      | true => rw [hg] at e2; exact xs_next e2 rfl
    · rw [not_three h3]
      refine fn_ret (fn := f12) (G := [.v (.tuple l), .unset, .unset, .unset]) rfl rfl (xs_ret (σ₁ := ⟨[.v (.tuple l), .unset, .unset, .unset]⟩) ?_)
      show ex prog (callN prog d) false (.ite (.or [(.not (.bi (.isinst .tuple) [(.bor 0)])), (.cmp .ne (.bi .len [(.bor 0)]) (.lit (.int 3)))]) [.ret (.lit (.bool false))] []) ⟨[.v (.tuple l), .unset, .unset, .unset]⟩ = _
      (repeat (first | with_reducible (first | exact h1 | exact len_ne h3 | apply e_lit | apply e_bor | apply e_var | apply o_none | apply s_nil | apply e_dict0 | apply xs_nil | apply i_nil | apply y_nil | apply e_bin | apply e_cmp | apply e_sub | apply e_slice | apply o_some | apply s_cons | apply e_call | apply e_bi | apply e_list | apply e_tuple | apply e_not | apply e_rev | apply e_met | apply e_ite | apply e_and | apply a_one | apply a_c | apply b_not | apply b_and | apply b_or | apply b_of | apply i_c | apply y_c | apply x_assign | apply x_ownL | apply x_setItem | apply x_append | apply x_ret | apply x_retOwn | apply x_ownCall | apply x_if | exact x_raise | apply xs_retE | apply xs_retO | apply xs_ifR | apply m_ret | apply xs_next | apply xs_ret | apply r_e | apply r_1 | apply r_zip | exact add_int _ _ | exact sub_int _ _ | exact sz0 | exact sz1 _ | exact sz2 _ _ | exact sz3 _ _ _ | exact sz4 _ _ _ _ | exact sz5 _ _ _ _ _ | exact sz6 _ _ _ _ _ _ | exact sz7 _ _ _ _ _ _ _ | exact sz8 _ _ _ _ _ _ _ _ | exact sz9 _ _ _ _ _ _ _ _ _ | apply q_eq | apply q_ne | apply d_str | apply q_len) | ((with_reducible refine c_tt ?_ ?_); · exact h1) | ((with_reducible refine c_ff ?_ ?_); · exact h1) | ((with_reducible refine c_tt ?_ ?_); · exact len_ne h3) | ((with_reducible refine c_ff ?_ ?_); · exact len_ne h3) | ((with_reducible refine c_tt ?_ ?_); · rfl) | ((with_reducible refine c_ff ?_ ?_); · rfl) | ((with_reducible refine div_pos _ _ ?_ ?_) <;> decide) | ((with_reducible refine mod_pos _ _ ?_); decide) | rfl | (intro q; cases q)))
  | exc => exact hp.elim
  | _ => rfl

/-! asked -/
theorem call2 (d : Nat) (x : V) (hx : thing x) : callN prog (d + 3) false 2 [x] = some (if goodV x then .ok (.v .none) else .error 1) := by
  have h := call1 d x hx
  cases hg : goodV x with
  | true => rw [hg] at h; exact fn_next (fn := f2) (G := [.v x]) rfl rfl (by show exs prog _ false f2.body ⟨[.v x]⟩ = _; simp only [f2]; (repeat (first | with_reducible (first | exact h | apply e_lit | apply e_bor | apply e_var | apply o_none | apply s_nil | apply e_dict0 | apply xs_nil | apply i_nil | apply y_nil | apply e_bin | apply e_cmp | apply e_sub | apply e_slice | apply o_some | apply s_cons | apply e_call | apply e_bi | apply e_list | apply e_tuple | apply e_not | apply e_rev | apply e_met | apply e_ite | apply e_and | apply a_one | apply a_c | apply b_not | apply b_and | apply b_or | apply b_of | apply i_c | apply y_c | apply x_assign | apply x_ownL | apply x_setItem | apply x_append | apply x_ret | apply x_retOwn | apply x_ownCall | apply x_if | exact x_raise | apply xs_retE | apply xs_retO | apply xs_ifR | apply m_ret | apply xs_next | apply xs_ret | apply r_e | apply r_1 | apply r_zip | exact add_int _ _ | exact sub_int _ _ | exact sz0 | exact sz1 _ | exact sz2 _ _ | exact sz3 _ _ _ | exact sz4 _ _ _ _ | exact sz5 _ _ _ _ _ | exact sz6 _ _ _ _ _ _ | exact sz7 _ _ _ _ _ _ _ | exact sz8 _ _ _ _ _ _ _ _ | exact sz9 _ _ _ _ _ _ _ _ _ | apply q_eq | apply q_ne | apply d_str | apply q_len) | ((with_reducible refine c_tt ?_ ?_); · exact h) | ((with_reducible refine c_ff ?_ ?_); · exact h) | ((with_reducible refine c_tt ?_ ?_); · rfl) | ((with_reducible refine c_ff ?_ ?_); · rfl) | ((with_reducible refine div_pos _ _ ?_ ?_) <;> decide) | ((with_reducible refine mod_pos _ _ ?_); decide) | rfl | (intro q; cases q))))
  | false => rw [hg] at h; exact fn_err (fn := f2) (G := [.v x]) rfl rfl (by show exs prog _ false f2.body ⟨[.v x]⟩ = _; simp only [f2]; exact xs_err (x_if (t := !false) (σ₁ := ⟨[.v x]⟩) (by (repeat (first | with_reducible (first | exact h | apply e_lit | apply e_bor | apply e_var | apply o_none | apply s_nil | apply e_dict0 | apply xs_nil | apply i_nil | apply y_nil | apply e_bin | apply e_cmp | apply e_sub | apply e_slice | apply o_some | apply s_cons | apply e_call | apply e_bi | apply e_list | apply e_tuple | apply e_not | apply e_rev | apply e_met | apply e_ite | apply e_and | apply a_one | apply a_c | apply b_not | apply b_and | apply b_or | apply b_of | apply i_c | apply y_c | apply x_assign | apply x_ownL | apply x_setItem | apply x_append | apply x_ret | apply x_retOwn | apply x_ownCall | apply x_if | exact x_raise | apply xs_retE | apply xs_retO | apply xs_ifR | apply m_ret | apply xs_next | apply xs_ret | apply r_e | apply r_1 | apply r_zip | exact add_int _ _ | exact sub_int _ _ | exact sz0 | exact sz1 _ | exact sz2 _ _ | exact sz3 _ _ _ | exact sz4 _ _ _ _ | exact sz5 _ _ _ _ _ | exact sz6 _ _ _ _ _ _ | exact sz7 _ _ _ _ _ _ _ | exact sz8 _ _ _ _ _ _ _ _ | exact sz9 _ _ _ _ _ _ _ _ _ | apply q_eq | apply q_ne | apply d_str | apply q_len) | ((with_reducible refine c_tt ?_ ?_); · exact h) | ((with_reducible refine c_ff ?_ ?_); · exact h) | ((with_reducible refine c_tt ?_ ?_); · rfl) | ((with_reducible refine c_ff ?_ ?_); · rfl) | ((with_reducible refine div_pos _ _ ?_ ?_) <;> decide) | ((with_reducible refine mod_pos _ _ ?_); decide) | rfl | (intro q; cases q)))) (c_tt rfl (xs_err x_raise))))
theorem call5 (d : Nat) (a b c : List Nat) (x : V) (hx : part x) : callN prog (d + 3) false 5 [sg a b c, x] = some (if isWord a b c x then .ok (.v .none) else .error 2) := by
  have h := call4 d a b c x hx
  cases hg : isWord a b c x with
  | true => rw [hg] at h; exact fn_next (fn := f5) (G := [.v (sg a b c), .v x]) rfl rfl (by show exs prog _ false f5.body ⟨[.v (sg a b c), .v x]⟩ = _; simp only [f5]; (repeat (first | with_reducible (first | exact h | apply e_lit | apply e_bor | apply e_var | apply o_none | apply s_nil | apply e_dict0 | apply xs_nil | apply i_nil | apply y_nil | apply e_bin | apply e_cmp | apply e_sub | apply e_slice | apply o_some | apply s_cons | apply e_call | apply e_bi | apply e_list | apply e_tuple | apply e_not | apply e_rev | apply e_met | apply e_ite | apply e_and | apply a_one | apply a_c | apply b_not | apply b_and | apply b_or | apply b_of | apply i_c | apply y_c | apply x_assign | apply x_ownL | apply x_setItem | apply x_append | apply x_ret | apply x_retOwn | apply x_ownCall | apply x_if | exact x_raise | apply xs_retE | apply xs_retO | apply xs_ifR | apply m_ret | apply xs_next | apply xs_ret | apply r_e | apply r_1 | apply r_zip | exact add_int _ _ | exact sub_int _ _ | exact sz0 | exact sz1 _ | exact sz2 _ _ | exact sz3 _ _ _ | exact sz4 _ _ _ _ | exact sz5 _ _ _ _ _ | exact sz6 _ _ _ _ _ _ | exact sz7 _ _ _ _ _ _ _ | exact sz8 _ _ _ _ _ _ _ _ | exact sz9 _ _ _ _ _ _ _ _ _ | apply q_eq | apply q_ne | apply d_str | apply q_len) | ((with_reducible refine c_tt ?_ ?_); · exact h) | ((with_reducible refine c_ff ?_ ?_); · exact h) | ((with_reducible refine c_tt ?_ ?_); · rfl) | ((with_reducible refine c_ff ?_ ?_); · rfl) | ((with_reducible refine div_pos _ _ ?_ ?_) <;> decide) | ((with_reducible refine mod_pos _ _ ?_); decide) | rfl | (intro q; cases q))))
  | false => rw [hg] at h; exact fn_err (fn := f5) (G := [.v (sg a b c), .v x]) rfl rfl (by show exs prog _ false f5.body ⟨[.v (sg a b c), .v x]⟩ = _; simp only [f5]; exact xs_err (x_if (t := !false) (σ₁ := ⟨[.v (sg a b c), .v x]⟩) (by (repeat (first | with_reducible (first | exact h | apply e_lit | apply e_bor | apply e_var | apply o_none | apply s_nil | apply e_dict0 | apply xs_nil | apply i_nil | apply y_nil | apply e_bin | apply e_cmp | apply e_sub | apply e_slice | apply o_some | apply s_cons | apply e_call | apply e_bi | apply e_list | apply e_tuple | apply e_not | apply e_rev | apply e_met | apply e_ite | apply e_and | apply a_one | apply a_c | apply b_not | apply b_and | apply b_or | apply b_of | apply i_c | apply y_c | apply x_assign | apply x_ownL | apply x_setItem | apply x_append | apply x_ret | apply x_retOwn | apply x_ownCall | apply x_if | exact x_raise | apply xs_retE | apply xs_retO | apply xs_ifR | apply m_ret | apply xs_next | apply xs_ret | apply r_e | apply r_1 | apply r_zip | exact add_int _ _ | exact sub_int _ _ | exact sz0 | exact sz1 _ | exact sz2 _ _ | exact sz3 _ _ _ | exact sz4 _ _ _ _ | exact sz5 _ _ _ _ _ | exact sz6 _ _ _ _ _ _ | exact sz7 _ _ _ _ _ _ _ | exact sz8 _ _ _ _ _ _ _ _ | exact sz9 _ _ _ _ _ _ _ _ _ | apply q_eq | apply q_ne | apply d_str | apply q_len) | ((with_reducible refine c_tt ?_ ?_); · exact h) | ((with_reducible refine c_ff ?_ ?_); · exact h) | ((with_reducible refine c_tt ?_ ?_); · rfl) | ((with_reducible refine c_ff ?_ ?_); · rfl) | ((with_reducible refine div_pos _ _ ?_ ?_) <;> decide) | ((with_reducible refine mod_pos _ _ ?_); decide) | rfl | (intro q; cases q)))) (c_tt rfl (xs_err x_raise))))
noncomputable def due (b : Bool) : V := if b then .bool true else .tuple [.str kRef, .bool true]
theorem tail14 (d : Nat) (x y : V) (c : Nat) (hc : c = 0 ∨ c = 1) (h : exs prog (callN prog (d + 3)) false [.ite (.cmp .eq (.bor 2) (.lit (.int 0))) [.ret (.cmp .isn (.call 2 [(.var 0)]) (.lit .none))] [],
    .ret (.cmp .isn (.call 5 [(.var 0), (.var 1)]) (.lit .none))] ⟨[.v x, .v y, .v (.int c), .unset]⟩ = some (.error (c + 1), ⟨[.v x, .v y, .v (.int c), .unset]⟩)) : callN prog (d + 4) false 14 [x, y, .int c] = some (.ok (.v (due false))) := by
  have h8 := call8 (d + 2) c hc
  refine fn_ret (fn := f14) (G := [.v x, .v y, .v (.int c), .unset]) rfl rfl (xs_ret ?_)
  refine x_tryX (x := due false) (σ₁ := ⟨[.v x, .v y, .v (.int c), .unset]⟩) (σ₂ := ⟨[.v x, .v y, .v (.int c), .v (.exc (c + 1))]⟩) h ?_ ?_ rfl
  · rcases hc with rfl | rfl <;> exact ⟨rfl, by decide⟩
  · show exs prog (callN prog (d + 3)) true _ ⟨[.v x, .v y, .v (.int c), .v (.exc (c + 1))]⟩ = _
    show _ = some (Except.ok (Fl.ret (Slot.v (V.tuple [.str kRef, .bool true]))), _)
    (repeat (first | with_reducible (first | exact h8 | apply e_lit | apply e_bor | apply e_var | apply o_none | apply s_nil | apply e_dict0 | apply xs_nil | apply i_nil | apply y_nil | apply e_bin | apply e_cmp | apply e_sub | apply e_slice | apply o_some | apply s_cons | apply e_call | apply e_bi | apply e_list | apply e_tuple | apply e_not | apply e_rev | apply e_met | apply e_ite | apply e_and | apply a_one | apply a_c | apply b_not | apply b_and | apply b_or | apply b_of | apply i_c | apply y_c | apply x_assign | apply x_ownL | apply x_setItem | apply x_append | apply x_ret | apply x_retOwn | apply x_ownCall | apply x_if | exact x_raise | apply xs_retE | apply xs_retO | apply xs_ifR | apply m_ret | apply xs_next | apply xs_ret | apply r_e | apply r_1 | apply r_zip | exact add_int _ _ | exact sub_int _ _ | exact sz0 | exact sz1 _ | exact sz2 _ _ | exact sz3 _ _ _ | exact sz4 _ _ _ _ | exact sz5 _ _ _ _ _ | exact sz6 _ _ _ _ _ _ | exact sz7 _ _ _ _ _ _ _ | exact sz8 _ _ _ _ _ _ _ _ | exact sz9 _ _ _ _ _ _ _ _ _ | apply q_eq | apply q_ne | apply d_str | apply q_len) | ((with_reducible refine c_tt ?_ ?_); · exact h8) | ((with_reducible refine c_ff ?_ ?_); · exact h8) | ((with_reducible refine c_tt ?_ ?_); · rfl) | ((with_reducible refine c_ff ?_ ?_); · rfl) | ((with_reducible refine div_pos _ _ ?_ ?_) <;> decide) | ((with_reducible refine mod_pos _ _ ?_); decide) | rfl | (intro q; cases q)))
theorem call14a (d : Nat) (x w : V) (hx : thing x) : callN prog (d + 4) false 14 [x, w, .int 0] = some (.ok (.v (due (goodV x)))) := by
  have h := call2 d x hx
  cases hg : goodV x with
  | true =>
    rw [hg] at h
    have h : callN prog (d + 3) false 2 [x] = some (.ok (.v .none)) := h
    refine fn_ret (fn := f14) (G := [.v x, .v w, .v (.int 0), .unset]) rfl rfl (xs_ret (x_try ?_))
    show exs prog (callN prog (d + 3)) false _ ⟨[.v x, .v w, .v (.int 0), .unset]⟩ = some (Except.ok (Fl.ret (Slot.v (V.bool true))), _)
    (repeat (first | with_reducible (first | exact h | apply e_lit | apply e_bor | apply e_var | apply o_none | apply s_nil | apply e_dict0 | apply xs_nil | apply i_nil | apply y_nil | apply e_bin | apply e_cmp | apply e_sub | apply e_slice | apply o_some | apply s_cons | apply e_call | apply e_bi | apply e_list | apply e_tuple | apply e_not | apply e_rev | apply e_met | apply e_ite | apply e_and | apply a_one | apply a_c | apply b_not | apply b_and | apply b_or | apply b_of | apply i_c | apply y_c | apply x_assign | apply x_ownL | apply x_setItem | apply x_append | apply x_ret | apply x_retOwn | apply x_ownCall | apply x_if | exact x_raise | apply xs_retE | apply xs_retO | apply xs_ifR | apply m_ret | apply xs_next | apply xs_ret | apply r_e | apply r_1 | apply r_zip | exact add_int _ _ | exact sub_int _ _ | exact sz0 | exact sz1 _ | exact sz2 _ _ | exact sz3 _ _ _ | exact sz4 _ _ _ _ | exact sz5 _ _ _ _ _ | exact sz6 _ _ _ _ _ _ | exact sz7 _ _ _ _ _ _ _ | exact sz8 _ _ _ _ _ _ _ _ | exact sz9 _ _ _ _ _ _ _ _ _ | apply q_eq | apply q_ne | apply d_str | apply q_len) | ((with_reducible refine c_tt ?_ ?_); · exact h) | ((with_reducible refine c_ff ?_ ?_); · exact h) | ((with_reducible refine c_tt ?_ ?_); · rfl) | ((with_reducible refine c_ff ?_ ?_); · rfl) | ((with_reducible refine div_pos _ _ ?_ ?_) <;> decide) | ((with_reducible refine mod_pos _ _ ?_); decide) | rfl | (intro q; cases q)))
  | false =>
    rw [hg] at h
    refine tail14 d x w 0 (.inl rfl) (xs_err (x_if (t := true) (σ₁ := ⟨[.v x, .v w, .v (.int 0), .unset]⟩) rfl (c_tt rfl (xs_err ?_))))
    exact bind_err (bind_err (e_callX (xs := [x]) (by (repeat (first | with_reducible (first | apply e_lit | apply e_bor | apply e_var | apply o_none | apply s_nil | apply e_dict0 | apply xs_nil | apply i_nil | apply y_nil | apply e_bin | apply e_cmp | apply e_sub | apply e_slice | apply o_some | apply s_cons | apply e_call | apply e_bi | apply e_list | apply e_tuple | apply e_not | apply e_rev | apply e_met | apply e_ite | apply e_and | apply a_one | apply a_c | apply b_not | apply b_and | apply b_or | apply b_of | apply i_c | apply y_c | apply x_assign | apply x_ownL | apply x_setItem | apply x_append | apply x_ret | apply x_retOwn | apply x_ownCall | apply x_if | exact x_raise | apply xs_retE | apply xs_retO | apply xs_ifR | apply m_ret | apply xs_next | apply xs_ret | apply r_e | apply r_1 | apply r_zip | exact add_int _ _ | exact sub_int _ _ | exact sz0 | exact sz1 _ | exact sz2 _ _ | exact sz3 _ _ _ | exact sz4 _ _ _ _ | exact sz5 _ _ _ _ _ | exact sz6 _ _ _ _ _ _ | exact sz7 _ _ _ _ _ _ _ | exact sz8 _ _ _ _ _ _ _ _ | exact sz9 _ _ _ _ _ _ _ _ _ | apply q_eq | apply q_ne | apply d_str | apply q_len) | ((with_reducible refine c_tt ?_ ?_); · rfl) | ((with_reducible refine c_ff ?_ ?_); · rfl) | ((with_reducible refine div_pos _ _ ?_ ?_) <;> decide) | ((with_reducible refine mod_pos _ _ ?_); decide) | rfl | (intro q; cases q)))) h))
theorem call14b (d : Nat) (a b c : List Nat) (x : V) (hx : part x) : callN prog (d + 4) false 14 [sg a b c, x, .int 1] = some (.ok (.v (due (isWord a b c x)))) := by
  have h := call5 d a b c x hx
  cases hg : isWord a b c x with
  | true =>
    rw [hg] at h
    have h : callN prog (d + 3) false 5 [sg a b c, x] = some (.ok (.v .none)) := h
    refine fn_ret (fn := f14) (G := [.v (sg a b c), .v x, .v (.int 1), .unset]) rfl rfl (xs_ret (x_try ?_))
    show exs prog (callN prog (d + 3)) false _ ⟨[.v (sg a b c), .v x, .v (.int 1), .unset]⟩ = some (Except.ok (Fl.ret (Slot.v (V.bool true))), _)
    (repeat (first | with_reducible (first | exact h | apply e_lit | apply e_bor | apply e_var | apply o_none | apply s_nil | apply e_dict0 | apply xs_nil | apply i_nil | apply y_nil | apply e_bin | apply e_cmp | apply e_sub | apply e_slice | apply o_some | apply s_cons | apply e_call | apply e_bi | apply e_list | apply e_tuple | apply e_not | apply e_rev | apply e_met | apply e_ite | apply e_and | apply a_one | apply a_c | apply b_not | apply b_and | apply b_or | apply b_of | apply i_c | apply y_c | apply x_assign | apply x_ownL | apply x_setItem | apply x_append | apply x_ret | apply x_retOwn | apply x_ownCall | apply x_if | exact x_raise | apply xs_retE | apply xs_retO | apply xs_ifR | apply m_ret | apply xs_next | apply xs_ret | apply r_e | apply r_1 | apply r_zip | exact add_int _ _ | exact sub_int _ _ | exact sz0 | exact sz1 _ | exact sz2 _ _ | exact sz3 _ _ _ | exact sz4 _ _ _ _ | exact sz5 _ _ _ _ _ | exact sz6 _ _ _ _ _ _ | exact sz7 _ _ _ _ _ _ _ | exact sz8 _ _ _ _ _ _ _ _ | exact sz9 _ _ _ _ _ _ _ _ _ | apply q_eq | apply q_ne | apply d_str | apply q_len) | ((with_reducible refine c_tt ?_ ?_); · exact h) | ((with_reducible refine c_ff ?_ ?_); · exact h) | ((with_reducible refine c_tt ?_ ?_); · rfl) | ((with_reducible refine c_ff ?_ ?_); · rfl) | ((with_reducible refine div_pos _ _ ?_ ?_) <;> decide) | ((with_reducible refine mod_pos _ _ ?_); decide) | rfl | (intro q; cases q)))
  | false =>
    rw [hg] at h
    refine tail14 d (sg a b c) x 1 (.inr rfl) (xs_next (σ₁ := ⟨[.v (sg a b c), .v x, .v (.int 1), .unset]⟩) rfl (xs_err ?_))
    exact bind_err (bind_err (e_callX (xs := [sg a b c, x]) (by (repeat (first | with_reducible (first | apply e_lit | apply e_bor | apply e_var | apply o_none | apply s_nil | apply e_dict0 | apply xs_nil | apply i_nil | apply y_nil | apply e_bin | apply e_cmp | apply e_sub | apply e_slice | apply o_some | apply s_cons | apply e_call | apply e_bi | apply e_list | apply e_tuple | apply e_not | apply e_rev | apply e_met | apply e_ite | apply e_and | apply a_one | apply a_c | apply b_not | apply b_and | apply b_or | apply b_of | apply i_c | apply y_c | apply x_assign | apply x_ownL | apply x_setItem | apply x_append | apply x_ret | apply x_retOwn | apply x_ownCall | apply x_if | exact x_raise | apply xs_retE | apply xs_retO | apply xs_ifR | apply m_ret | apply xs_next | apply xs_ret | apply r_e | apply r_1 | apply r_zip | exact add_int _ _ | exact sub_int _ _ | exact sz0 | exact sz1 _ | exact sz2 _ _ | exact sz3 _ _ _ | exact sz4 _ _ _ _ | exact sz5 _ _ _ _ _ | exact sz6 _ _ _ _ _ _ | exact sz7 _ _ _ _ _ _ _ | exact sz8 _ _ _ _ _ _ _ _ | exact sz9 _ _ _ _ _ _ _ _ _ | apply q_eq | apply q_ne | apply d_str | apply q_len) | ((with_reducible refine c_tt ?_ ?_); · rfl) | ((with_reducible refine c_ff ?_ ?_); · rfl) | ((with_reducible refine div_pos _ _ ?_ ?_) <;> decide) | ((with_reducible refine mod_pos _ _ ?_); decide) | rfl | (intro q; cases q)))) h))
end Mine.L01
end

noncomputable section
set_option maxRecDepth 100000
set_option linter.unusedSimpArgs false
namespace Mine.Pl
theorem fmod_in (a b : Int) (h : 0 < b) : 0 ≤ a.fmod b ∧ a.fmod b < b := ⟨Int.fmod_nonneg_of_pos a h, Int.fmod_lt_of_pos a h⟩
theorem sub_mem {l : List V} {i : Int} (h0 : 0 ≤ i) (h1 : i < l.length) (hl : l.length ≤ 1000) : ∃ x ∈ l, subOp (.list l) (.int i) = some x := by
  obtain ⟨k, rfl⟩ := Int.eq_ofNat_of_zero_le h0
  have hk : k < l.length := by omega
  exact ⟨l[k], List.getElem_mem hk, sub_list (by omega) (List.getElem?_eq_getElem hk)⟩
theorem sub_memS {l : List Nat} {i : Int} (h0 : 0 ≤ i) (h1 : i < l.length) (hl : l.length ≤ 1000) : ∃ x ∈ l, subOp (.str l) (.int i) = some (.str [x]) := by
  obtain ⟨k, rfl⟩ := Int.eq_ofNat_of_zero_le h0
  have hk : k < l.length := by omega
  exact ⟨l[k], List.getElem_mem hk, sub_str (by omega) (List.getElem?_eq_getElem hk)⟩
theorem set_set {k : Nat} {x y : Slot} {σ : St} : setSlot k x (setSlot k y σ) = setSlot k x σ := congrArg St.mk (List.set_set ..)
theorem compL_all {el : M V} {k : Nat} {Q : V → Prop} {σ : St} : ∀ (xs : List V) (z₀ : Slot), (∀ x ∈ xs, ∃ y, Q y ∧ el (setSlot k (.v x) σ) = some (.ok y, setSlot k (.v x) σ)) →
    ∃ ys z, ys.length = xs.length ∧ (∀ y ∈ ys, Q y) ∧ compL (M.noErr el) (M.noErr (M.pure true)) (.one k) xs (setSlot k z₀ σ) = some (.ok ys, setSlot k z σ)
  | [], z₀, _ => ⟨[], z₀, rfl, fun y hy => (nomatch hy), rfl⟩
  | x :: xs, z₀, h => by
    obtain ⟨y, hq, he⟩ := h x (.head _)
    obtain ⟨ys, z, hl, hy, hc⟩ := compL_all xs (.v x) fun x hx => h x (.tail _ hx)
    refine ⟨y :: ys, z, by simp [hl], fun q hm => ?_, compL_one (σ₁ := setSlot k (.v x) σ) (σ₂ := setSlot k (.v x) σ) ?_ ?_ hc⟩
    · rcases List.mem_cons.mp hm with rfl | hm
      · exact hq
      · exact hy q hm
    · show storeVar k x _ = _
      unfold storeVar; rw [set_set]
    · unfold M.noErr; rw [he]
theorem ev_comp {P : Prog} {cf : CallF} {el : E} {k : Nat} {src : Src} {σ : St} {xs ys : List V} {z : Slot} (hs : evSrc P cf false src σ = some (.ok xs, σ))
    (hc : compL (M.noErr (ev P cf false el)) (M.noErr (M.pure true)) (.one k) xs σ = some (.ok ys, setSlot k z σ)) : ev P cf false (.comp el (.one k) src []) σ = some (.ok (.list ys), setSlot k .unset σ) := by
  show M.bind (evSrc P cf false src) (fun xs => M.bind (compL (M.noErr (ev P cf false el)) (M.noErr (M.pure true)) (.one k) xs) fun ys => M.bind (M.bind (storeSlot k .unset) fun _ => M.pure ()) fun _ => M.pure (V.list ys)) σ = _
  refine bind_ok hs (bind_ok hc ?_)
  show some (Except.ok (V.list ys), setSlot k .unset (setSlot k z σ)) = _
  rw [set_set]
theorem chars_of {Q : Nat → Prop} : ∀ {ys : List V}, (∀ y ∈ ys, ∃ c, Q c ∧ y = .str [c]) → ∃ l, ys = charsV l ∧ ∀ c ∈ l, Q c
  | [], _ => ⟨[], rfl, fun c hc => (nomatch hc)⟩
  | y :: ys, h => by
    obtain ⟨c, hq, rfl⟩ := h y (.head _)
    obtain ⟨l, rfl, hl⟩ := chars_of fun y hy => h y (.tail _ hy)
    refine ⟨c :: l, rfl, fun x hx => ?_⟩
    rcases List.mem_cons.mp hx with rfl | hx
    · exact hq
    · exact hl x hx
theorem ints_of : ∀ {ys : List V}, (∀ y ∈ ys, ∃ n, y = .int n) → ∃ l : List Int, ys = l.map .int
  | [], _ => ⟨[], rfl⟩
  | y :: ys, h => by
    obtain ⟨n, rfl⟩ := h y (.head _)
    obtain ⟨l, rfl⟩ := ints_of fun y hy => h y (.tail _ hy)
    exact ⟨n :: l, rfl⟩
theorem strs_chars : ∀ l : List Nat, strsL (charsV l) = some (l.map fun c => [c])
  | [] => rfl
  | c :: l => by
    show (strsL (charsV l)).map _ = _
    rw [strs_chars l]; rfl
theorem join_map : ∀ l : List Nat, joinL [] (l.map fun c => [c]) = l
  | [] => rfl
  | [c] => rfl
  | c :: d :: l => by
    show [c] ++ [] ++ joinL [] ((d :: l).map fun c => [c]) = _
    rw [join_map (d :: l)]; rfl
theorem len1 : ∀ l : List Nat, ((l.map fun c => [c]).map List.length).sum = l.length
  | [] => rfl
  | c :: l => by
    show 1 + ((l.map fun c => [c]).map List.length).sum = l.length + 1
    rw [len1 l]; omega
theorem join_chars {P : Prog} {hm : Bool} {l : List Nat} (h : l.length ≤ 1000) : biOp P hm .join [.str [], .list (charsV l)] = some (.str l) := by
  show (strsL (charsV l)).bind _ = _
  rw [strs_chars]
  refine (if_pos (sz_of ?_)).trans (congrArg (fun x => some (V.str x)) (join_map l))
  rw [len1]; simp; omega
theorem range_in {a b : Int} (ha : 0 ≤ a) (hab : a ≤ b) (hb : b ≤ 1000) : rangeO a b = some (rangeL a b) := if_pos ⟨Nat.ble_eq_true_of_le (by omega), Nat.ble_eq_true_of_le (by omega), sz_of (by omega)⟩
theorem range_mem {a b : Int} {x : V} (h : x ∈ rangeL a b) : ∃ k : Nat, x = .int (a + k) ∧ a + k < b ∨ False := by
  unfold rangeL at h
  obtain ⟨k, hk, rfl⟩ := List.mem_map.mp h
  rw [List.mem_range] at hk
  exact ⟨k, .inl ⟨rfl, by omega⟩⟩
theorem range_len (a b : Int) : (rangeL a b).length = (b - a).toNat := by simp [rangeL]
theorem slice_str {s : List Nat} {lo hi : Option V} {l h : Option Int} (hs : s.length ≤ 1000) (hl : optIx lo = some l) (hh : optIx hi = some h) (hlh : sliceEnd l 0 s.length ≤ sliceEnd h s.length s.length) : sliceOp (.str s) lo hi = some (.str (sliceL s l h)) := by
  show (optIx lo).bind _ = _
  rw [hl]
  show (optIx hi).bind _ = _
  rw [hh]
  exact if_pos ⟨sz_of hs, hlh⟩
theorem opt_int {i : Int} (h0 : 0 ≤ i) : optIx (some (.int i)) = some (some i) := by
  show (posO (.int i)).map _ = _
  rw [show posO (.int i) = some i from if_pos h0]; rfl
theorem end_le {i j : Int} {n : Nat} (h : i ≤ j) : sliceEnd (some i) 0 n ≤ sliceEnd (some j) n n := by show min i.toNat n ≤ min j.toNat n; omega
theorem end_0 {h : Option Int} {n : Nat} : sliceEnd none 0 n ≤ sliceEnd h n n := Nat.zero_le _
theorem end_n {l : Option Int} {n : Nat} : sliceEnd l 0 n ≤ sliceEnd none n n := by cases l with
  | none => exact Nat.zero_le _
  | some i => show min i.toNat n ≤ n; omega
theorem slice_sub {α : Type} {s : List α} {l h : Option Int} : ∀ x ∈ sliceL s l h, x ∈ s := fun x hx => List.mem_of_mem_drop (List.mem_of_mem_take hx)
theorem slice_len {α : Type} (s : List α) (l h : Option Int) : (sliceL s l h).length ≤ s.length := by
  unfold sliceL
  rw [List.length_take, List.length_drop]
  omega
end Mine.Pl
namespace Mine.L01
open Mine.Pl
theorem abc_len : abc.length = 26 := rfl
theorem low_abc {c : Nat} (h : c ∈ abc) : low c = true := by unfold low; simpa using h
theorem low_data {c : Nat} (h : low c = true) : c < 0x110000 := by
  have : c ∈ abc := by unfold low at h; simpa using h
  have hh : ∀ c ∈ abc, c < 0x110000 := by decide
  exact hh c this
structure Sgn (a b c : List Nat) : Prop where
  la : a.length ≤ 10
  lb : b.length ≤ 10
  lc : c.length ≤ 10
  ha : ∀ x ∈ a, low x = true
  hb : ∀ x ∈ b, low x = true
  hc : ∀ x ∈ c, low x = true
theorem el9 (cf : CallF) (n st : Int) (r f o : Slot) (k : Nat) (hk : k < 6) : ∃ y, (∃ c, low c = true ∧ y = .str [c]) ∧
    ev prog cf false f9b0 ⟨[.v (.int n), .v (.str abc), .v (.int st), r, f, o, .v (.int (0 + k))]⟩ = some (.ok y, ⟨[.v (.int n), .v (.str abc), .v (.int st), r, f, o, .v (.int (0 + k))]⟩) := by
  have hm : binOp .mul (.int st) (.int (0 + k)) = some (.int (st * (0 + k))) := mul_int _ _ (.inl (by omega))
  have hf := fmod_in (n + st * (0 + k)) 26 (by decide)
  obtain ⟨c, hc, e⟩ := sub_memS (l := abc) hf.1 (by rw [abc_len]; exact hf.2) (by decide)
  refine ⟨_, ⟨c, low_abc hc, rfl⟩, ?_⟩
  simp only [f9b0]; (repeat (first | with_reducible (first | exact hm | exact e | apply e_lit | apply e_bor | apply e_var | apply o_none | apply s_nil | apply e_dict0 | apply xs_nil | apply i_nil | apply y_nil | apply e_bin | apply e_cmp | apply e_sub | apply e_slice | apply o_some | apply s_cons | apply e_call | apply e_bi | apply e_list | apply e_tuple | apply e_not | apply e_rev | apply e_met | apply e_ite | apply e_and | apply a_one | apply a_c | apply b_not | apply b_and | apply b_or | apply b_of | apply i_c | apply y_c | apply x_assign | apply x_ownL | apply x_setItem | apply x_append | apply x_ret | apply x_retOwn | apply x_ownCall | apply x_if | exact x_raise | apply xs_retE | apply xs_retO | apply xs_ifR | apply m_ret | apply xs_next | apply xs_ret | apply r_e | apply r_1 | apply r_zip | exact add_int _ _ | exact sub_int _ _ | exact sz0 | exact sz1 _ | exact sz2 _ _ | exact sz3 _ _ _ | exact sz4 _ _ _ _ | exact sz5 _ _ _ _ _ | exact sz6 _ _ _ _ _ _ | exact sz7 _ _ _ _ _ _ _ | exact sz8 _ _ _ _ _ _ _ _ | exact sz9 _ _ _ _ _ _ _ _ _ | apply q_eq | apply q_ne | apply d_str | apply q_len) | ((with_reducible refine c_tt ?_ ?_); · exact hm) | ((with_reducible refine c_ff ?_ ?_); · exact hm) | ((with_reducible refine c_tt ?_ ?_); · exact e) | ((with_reducible refine c_ff ?_ ?_); · exact e) | ((with_reducible refine c_tt ?_ ?_); · rfl) | ((with_reducible refine c_ff ?_ ?_); · rfl) | ((with_reducible refine div_pos _ _ ?_ ?_) <;> decide) | ((with_reducible refine mod_pos _ _ ?_); decide) | rfl | (intro q; cases q)))
theorem call9 (d : Nat) (n : Int) : ∃ a b c, Sgn a b c ∧ callN prog (d + 1) false 9 [.int n] = some (.ok (.v (sg a b c))) := by
  have hst : binOp .mul (.int 2) (.int ((n.fdiv 26).fmod 5)) = some (.int (2 * (n.fdiv 26).fmod 5)) := mul_int _ _ (.inr (by decide))
  generalize hS : (1 : Int) + 2 * (n.fdiv 26).fmod 5 = st
  -- the row
  obtain ⟨ys, z, hl, hy, hcomp⟩ := compL_all (el := ev prog (callN prog d) false f9b0) (k := 6) (Q := fun y => ∃ c, low c = true ∧ y = .str [c]) (σ := ⟨[.v (.int n), .v (.str abc), .v (.int st), .unset, .unset, .unset, .unset]⟩) (rangeL 0 6) .unset (fun x hx => by
    obtain ⟨k, h | h⟩ := range_mem hx
    · obtain ⟨rfl, hk⟩ := h
      exact el9 (callN prog d) n st .unset .unset .unset k (by omega)
    · exact h.elim)
  obtain ⟨row, rfl, hrow⟩ := chars_of hy
  have hrl : row.length = 6 := by rw [chars_len, range_len] at hl; simpa using hl
  have hsrc : evSrc prog (callN prog d) false (.range [(.lit (.int 6))]) ⟨[.v (.int n), .v (.str abc), .v (.int st), .unset, .unset, .unset, .unset]⟩ = some (.ok (rangeL 0 6), ⟨[.v (.int n), .v (.str abc), .v (.int st), .unset, .unset, .unset, .unset]⟩) := by
    (repeat (first | with_reducible (first | exact range_in (show (0 : Int) ≤ 0 by decide) (show (0 : Int) ≤ 6 by decide) (by decide) | apply e_lit | apply e_bor | apply e_var | apply o_none | apply s_nil | apply e_dict0 | apply xs_nil | apply i_nil | apply y_nil | apply e_bin | apply e_cmp | apply e_sub | apply e_slice | apply o_some | apply s_cons | apply e_call | apply e_bi | apply e_list | apply e_tuple | apply e_not | apply e_rev | apply e_met | apply e_ite | apply e_and | apply a_one | apply a_c | apply b_not | apply b_and | apply b_or | apply b_of | apply i_c | apply y_c | apply x_assign | apply x_ownL | apply x_setItem | apply x_append | apply x_ret | apply x_retOwn | apply x_ownCall | apply x_if | exact x_raise | apply xs_retE | apply xs_retO | apply xs_ifR | apply m_ret | apply xs_next | apply xs_ret | apply r_e | apply r_1 | apply r_zip | exact add_int _ _ | exact sub_int _ _ | exact sz0 | exact sz1 _ | exact sz2 _ _ | exact sz3 _ _ _ | exact sz4 _ _ _ _ | exact sz5 _ _ _ _ _ | exact sz6 _ _ _ _ _ _ | exact sz7 _ _ _ _ _ _ _ | exact sz8 _ _ _ _ _ _ _ _ | exact sz9 _ _ _ _ _ _ _ _ _ | apply q_eq | apply q_ne | apply d_str | apply q_len) | ((with_reducible refine c_tt ?_ ?_); · exact range_in (show (0 : Int) ≤ 0 by decide) (show (0 : Int) ≤ 6 by decide) (by decide)) | ((with_reducible refine c_ff ?_ ?_); · exact range_in (show (0 : Int) ≤ 0 by decide) (show (0 : Int) ≤ 6 by decide) (by decide)) | ((with_reducible refine c_tt ?_ ?_); · rfl) | ((with_reducible refine c_ff ?_ ?_); · rfl) | ((with_reducible refine div_pos _ _ ?_ ?_) <;> decide) | ((with_reducible refine mod_pos _ _ ?_); decide) | rfl | (intro q; cases q)))
  have hc := ev_comp (σ := ⟨[.v (.int n), .v (.str abc), .v (.int st), .unset, .unset, .unset, .unset]⟩) hsrc hcomp
  have hj : biOp prog false .join [.str [], .list (charsV row)] = some (.str row) := join_chars (by omega)
  obtain ⟨v1, m1, e1⟩ := sub_mem (l := [.int 1, .int 1, .int 2, .int 0]) (i := (n.fdiv 130).fmod 4) (fmod_in _ 4 (by decide)).1 (fmod_in _ 4 (by decide)).2 (by decide)
  obtain ⟨o1, rfl, ho1⟩ : ∃ o : Int, v1 = .int o ∧ 0 ≤ o ∧ o ≤ 2 := by
    simp only [List.mem_cons, List.not_mem_nil, or_false] at m1
    rcases m1 with rfl | rfl | rfl | rfl <;> exact ⟨_, rfl, by decide, by decide⟩
  obtain ⟨v2, m2, e2⟩ := sub_mem (l := [.int 1, .int 2, .int 1, .int 1, .int 0]) (i := (n.fdiv 520).fmod 5) (fmod_in _ 5 (by decide)).1 (fmod_in _ 5 (by decide)).2 (by decide)
  obtain ⟨o2, rfl, ho2⟩ : ∃ o : Int, v2 = .int o ∧ 0 ≤ o ∧ o ≤ 2 := by
    simp only [List.mem_cons, List.not_mem_nil, or_false] at m2
    rcases m2 with rfl | rfl | rfl | rfl | rfl <;> exact ⟨_, rfl, by decide, by decide⟩
  have h3 := fmod_in (n.fdiv 2600) 3 (by decide)
  have s1 : sliceOp (.str row) none (some (.int o1)) = some (.str (sliceL row none (some o1))) := slice_str (by omega) rfl (opt_int (by omega)) end_0
  have s2 : sliceOp (.str row) (some (.int o1)) (some (.int (o1 + o2))) = some (.str (sliceL row (some o1) (some (o1 + o2)))) := slice_str (by omega) (opt_int (by omega)) (opt_int (by omega)) (end_le (by omega))
  have s3 : sliceOp (.str row) (some (.int (o1 + o2))) (some (.int (o1 + o2 + (n.fdiv 2600).fmod 3))) = some (.str (sliceL row (some (o1 + o2)) (some (o1 + o2 + (n.fdiv 2600).fmod 3)))) := slice_str (by omega) (opt_int (by omega)) (opt_int (by omega)) (end_le (by omega))
  have sl := fun l h => slice_len row l h
  refine ⟨sliceL row none (some o1), sliceL row (some o1) (some (o1 + o2)), sliceL row (some (o1 + o2)) (some (o1 + o2 + (n.fdiv 2600).fmod 3)), ⟨?_, ?_, ?_, fun x hx => hrow x (slice_sub x hx), fun x hx => hrow x (slice_sub x hx), fun x hx => hrow x (slice_sub x hx)⟩, ?_⟩
  · have := sl none (some o1); omega
  · have := sl (some o1) (some (o1 + o2)); omega
  · have := sl (some (o1 + o2)) (some (o1 + o2 + (n.fdiv 2600).fmod 3)); omega
  refine fn_ret (fn := f9) (G := [.v (.int n), .v (.str abc), .v (.int st), .v (.str row), .v (.int o1), .v (.int (o1 + o2)), .unset]) rfl rfl ?_
  show exs prog (callN prog d) false f9.body ⟨[.v (.int n), .unset, .unset, .unset, .unset, .unset, .unset]⟩ = _
  simp only [f9]
  refine xs_next (σ₁ := ⟨[.v (.int n), .v (.str abc), .unset, .unset, .unset, .unset, .unset]⟩) (by (repeat (first | with_reducible (first | apply e_lit | apply e_bor | apply e_var | apply o_none | apply s_nil | apply e_dict0 | apply xs_nil | apply i_nil | apply y_nil | apply e_bin | apply e_cmp | apply e_sub | apply e_slice | apply o_some | apply s_cons | apply e_call | apply e_bi | apply e_list | apply e_tuple | apply e_not | apply e_rev | apply e_met | apply e_ite | apply e_and | apply a_one | apply a_c | apply b_not | apply b_and | apply b_or | apply b_of | apply i_c | apply y_c | apply x_assign | apply x_ownL | apply x_setItem | apply x_append | apply x_ret | apply x_retOwn | apply x_ownCall | apply x_if | exact x_raise | apply xs_retE | apply xs_retO | apply xs_ifR | apply m_ret | apply xs_next | apply xs_ret | apply r_e | apply r_1 | apply r_zip | exact add_int _ _ | exact sub_int _ _ | exact sz0 | exact sz1 _ | exact sz2 _ _ | exact sz3 _ _ _ | exact sz4 _ _ _ _ | exact sz5 _ _ _ _ _ | exact sz6 _ _ _ _ _ _ | exact sz7 _ _ _ _ _ _ _ | exact sz8 _ _ _ _ _ _ _ _ | exact sz9 _ _ _ _ _ _ _ _ _ | apply q_eq | apply q_ne | apply d_str | apply q_len) | ((with_reducible refine c_tt ?_ ?_); · rfl) | ((with_reducible refine c_ff ?_ ?_); · rfl) | ((with_reducible refine div_pos _ _ ?_ ?_) <;> decide) | ((with_reducible refine mod_pos _ _ ?_); decide) | rfl | (intro q; cases q)))) ?_
  refine xs_next (σ₁ := ⟨[.v (.int n), .v (.str abc), .v (.int st), .unset, .unset, .unset, .unset]⟩) (by rw [← hS]; (repeat (first | with_reducible (first | exact hst | apply e_lit | apply e_bor | apply e_var | apply o_none | apply s_nil | apply e_dict0 | apply xs_nil | apply i_nil | apply y_nil | apply e_bin | apply e_cmp | apply e_sub | apply e_slice | apply o_some | apply s_cons | apply e_call | apply e_bi | apply e_list | apply e_tuple | apply e_not | apply e_rev | apply e_met | apply e_ite | apply e_and | apply a_one | apply a_c | apply b_not | apply b_and | apply b_or | apply b_of | apply i_c | apply y_c | apply x_assign | apply x_ownL | apply x_setItem | apply x_append | apply x_ret | apply x_retOwn | apply x_ownCall | apply x_if | exact x_raise | apply xs_retE | apply xs_retO | apply xs_ifR | apply m_ret | apply xs_next | apply xs_ret | apply r_e | apply r_1 | apply r_zip | exact add_int _ _ | exact sub_int _ _ | exact sz0 | exact sz1 _ | exact sz2 _ _ | exact sz3 _ _ _ | exact sz4 _ _ _ _ | exact sz5 _ _ _ _ _ | exact sz6 _ _ _ _ _ _ | exact sz7 _ _ _ _ _ _ _ | exact sz8 _ _ _ _ _ _ _ _ | exact sz9 _ _ _ _ _ _ _ _ _ | apply q_eq | apply q_ne | apply d_str | apply q_len) | ((with_reducible refine c_tt ?_ ?_); · exact hst) | ((with_reducible refine c_ff ?_ ?_); · exact hst) | ((with_reducible refine c_tt ?_ ?_); · rfl) | ((with_reducible refine c_ff ?_ ?_); · rfl) | ((with_reducible refine div_pos _ _ ?_ ?_) <;> decide) | ((with_reducible refine mod_pos _ _ ?_); decide) | rfl | (intro q; cases q)))) ?_
  refine xs_next (σ₁ := ⟨[.v (.int n), .v (.str abc), .v (.int st), .v (.str row), .unset, .unset, .unset]⟩) (by (repeat (first | with_reducible (first | exact hc | exact hj | apply e_lit | apply e_bor | apply e_var | apply o_none | apply s_nil | apply e_dict0 | apply xs_nil | apply i_nil | apply y_nil | apply e_bin | apply e_cmp | apply e_sub | apply e_slice | apply o_some | apply s_cons | apply e_call | apply e_bi | apply e_list | apply e_tuple | apply e_not | apply e_rev | apply e_met | apply e_ite | apply e_and | apply a_one | apply a_c | apply b_not | apply b_and | apply b_or | apply b_of | apply i_c | apply y_c | apply x_assign | apply x_ownL | apply x_setItem | apply x_append | apply x_ret | apply x_retOwn | apply x_ownCall | apply x_if | exact x_raise | apply xs_retE | apply xs_retO | apply xs_ifR | apply m_ret | apply xs_next | apply xs_ret | apply r_e | apply r_1 | apply r_zip | exact add_int _ _ | exact sub_int _ _ | exact sz0 | exact sz1 _ | exact sz2 _ _ | exact sz3 _ _ _ | exact sz4 _ _ _ _ | exact sz5 _ _ _ _ _ | exact sz6 _ _ _ _ _ _ | exact sz7 _ _ _ _ _ _ _ | exact sz8 _ _ _ _ _ _ _ _ | exact sz9 _ _ _ _ _ _ _ _ _ | apply q_eq | apply q_ne | apply d_str | apply q_len) | ((with_reducible refine c_tt ?_ ?_); · exact hc) | ((with_reducible refine c_ff ?_ ?_); · exact hc) | ((with_reducible refine c_tt ?_ ?_); · exact hj) | ((with_reducible refine c_ff ?_ ?_); · exact hj) | ((with_reducible refine c_tt ?_ ?_); · rfl) | ((with_reducible refine c_ff ?_ ?_); · rfl) | ((with_reducible refine div_pos _ _ ?_ ?_) <;> decide) | ((with_reducible refine mod_pos _ _ ?_); decide) | rfl | (intro q; cases q)))) ?_
  refine xs_next (σ₁ := ⟨[.v (.int n), .v (.str abc), .v (.int st), .v (.str row), .v (.int o1), .unset, .unset]⟩) (by (repeat (first | with_reducible (first | exact e1 | apply e_lit | apply e_bor | apply e_var | apply o_none | apply s_nil | apply e_dict0 | apply xs_nil | apply i_nil | apply y_nil | apply e_bin | apply e_cmp | apply e_sub | apply e_slice | apply o_some | apply s_cons | apply e_call | apply e_bi | apply e_list | apply e_tuple | apply e_not | apply e_rev | apply e_met | apply e_ite | apply e_and | apply a_one | apply a_c | apply b_not | apply b_and | apply b_or | apply b_of | apply i_c | apply y_c | apply x_assign | apply x_ownL | apply x_setItem | apply x_append | apply x_ret | apply x_retOwn | apply x_ownCall | apply x_if | exact x_raise | apply xs_retE | apply xs_retO | apply xs_ifR | apply m_ret | apply xs_next | apply xs_ret | apply r_e | apply r_1 | apply r_zip | exact add_int _ _ | exact sub_int _ _ | exact sz0 | exact sz1 _ | exact sz2 _ _ | exact sz3 _ _ _ | exact sz4 _ _ _ _ | exact sz5 _ _ _ _ _ | exact sz6 _ _ _ _ _ _ | exact sz7 _ _ _ _ _ _ _ | exact sz8 _ _ _ _ _ _ _ _ | exact sz9 _ _ _ _ _ _ _ _ _ | apply q_eq | apply q_ne | apply d_str | apply q_len) | ((with_reducible refine c_tt ?_ ?_); · exact e1) | ((with_reducible refine c_ff ?_ ?_); · exact e1) | ((with_reducible refine c_tt ?_ ?_); · rfl) | ((with_reducible refine c_ff ?_ ?_); · rfl) | ((with_reducible refine div_pos _ _ ?_ ?_) <;> decide) | ((with_reducible refine mod_pos _ _ ?_); decide) | rfl | (intro q; cases q)))) ?_
  refine xs_next (σ₁ := ⟨[.v (.int n), .v (.str abc), .v (.int st), .v (.str row), .v (.int o1), .v (.int (o1 + o2)), .unset]⟩) (by (repeat (first | with_reducible (first | exact e2 | apply e_lit | apply e_bor | apply e_var | apply o_none | apply s_nil | apply e_dict0 | apply xs_nil | apply i_nil | apply y_nil | apply e_bin | apply e_cmp | apply e_sub | apply e_slice | apply o_some | apply s_cons | apply e_call | apply e_bi | apply e_list | apply e_tuple | apply e_not | apply e_rev | apply e_met | apply e_ite | apply e_and | apply a_one | apply a_c | apply b_not | apply b_and | apply b_or | apply b_of | apply i_c | apply y_c | apply x_assign | apply x_ownL | apply x_setItem | apply x_append | apply x_ret | apply x_retOwn | apply x_ownCall | apply x_if | exact x_raise | apply xs_retE | apply xs_retO | apply xs_ifR | apply m_ret | apply xs_next | apply xs_ret | apply r_e | apply r_1 | apply r_zip | exact add_int _ _ | exact sub_int _ _ | exact sz0 | exact sz1 _ | exact sz2 _ _ | exact sz3 _ _ _ | exact sz4 _ _ _ _ | exact sz5 _ _ _ _ _ | exact sz6 _ _ _ _ _ _ | exact sz7 _ _ _ _ _ _ _ | exact sz8 _ _ _ _ _ _ _ _ | exact sz9 _ _ _ _ _ _ _ _ _ | apply q_eq | apply q_ne | apply d_str | apply q_len) | ((with_reducible refine c_tt ?_ ?_); · exact e2) | ((with_reducible refine c_ff ?_ ?_); · exact e2) | ((with_reducible refine c_tt ?_ ?_); · rfl) | ((with_reducible refine c_ff ?_ ?_); · rfl) | ((with_reducible refine div_pos _ _ ?_ ?_) <;> decide) | ((with_reducible refine mod_pos _ _ ?_); decide) | rfl | (intro q; cases q)))) ?_
  (repeat (first | with_reducible (first | exact s1 | exact s2 | exact s3 | apply e_lit | apply e_bor | apply e_var | apply o_none | apply s_nil | apply e_dict0 | apply xs_nil | apply i_nil | apply y_nil | apply e_bin | apply e_cmp | apply e_sub | apply e_slice | apply o_some | apply s_cons | apply e_call | apply e_bi | apply e_list | apply e_tuple | apply e_not | apply e_rev | apply e_met | apply e_ite | apply e_and | apply a_one | apply a_c | apply b_not | apply b_and | apply b_or | apply b_of | apply i_c | apply y_c | apply x_assign | apply x_ownL | apply x_setItem | apply x_append | apply x_ret | apply x_retOwn | apply x_ownCall | apply x_if | exact x_raise | apply xs_retE | apply xs_retO | apply xs_ifR | apply m_ret | apply xs_next | apply xs_ret | apply r_e | apply r_1 | apply r_zip | exact add_int _ _ | exact sub_int _ _ | exact sz0 | exact sz1 _ | exact sz2 _ _ | exact sz3 _ _ _ | exact sz4 _ _ _ _ | exact sz5 _ _ _ _ _ | exact sz6 _ _ _ _ _ _ | exact sz7 _ _ _ _ _ _ _ | exact sz8 _ _ _ _ _ _ _ _ | exact sz9 _ _ _ _ _ _ _ _ _ | apply q_eq | apply q_ne | apply d_str | apply q_len) | ((with_reducible refine c_tt ?_ ?_); · exact s1) | ((with_reducible refine c_ff ?_ ?_); · exact s1) | ((with_reducible refine c_tt ?_ ?_); · exact s2) | ((with_reducible refine c_ff ?_ ?_); · exact s2) | ((with_reducible refine c_tt ?_ ?_); · exact s3) | ((with_reducible refine c_ff ?_ ?_); · exact s3) | ((with_reducible refine c_tt ?_ ?_); · rfl) | ((with_reducible refine c_ff ?_ ?_); · rfl) | ((with_reducible refine div_pos _ _ ?_ ?_) <;> decide) | ((with_reducible refine mod_pos _ _ ?_); decide) | rfl | (intro q; cases q)))
end Mine.L01
end

noncomputable section
set_option maxRecDepth 100000
set_option linter.unusedSimpArgs false
set_option linter.unusedVariables false
namespace Mine.L01
open Mine.Pl
/-! words -/
theorem data_of {a : List Nat} (h : ∀ x ∈ a, low x = true) : a.all (fun x => decide (x < 0x110000)) = true :=
  List.all_eq_true.mpr fun x hx => decide_eq_true (low_data (h x hx))
theorem pick {l : List Nat} (h : (!eqV (.str l) (.str [])) = true) (hl : l.length ≤ 10) (n : Int) : ∃ x ∈ l, seqV (.str l) = some (charsV l) ∧ binOp .mod (.int n) (.int ((charsV l).length : Nat)) = some (.int (n.fmod l.length)) ∧ subOp (.str l) (.int (n.fmod l.length)) = some (.str [x]) := by
  have hp : 0 < l.length := by cases l with
    | nil => cases h
    | cons => exact Nat.succ_pos _
  have hf := fmod_in n l.length (by omega)
  obtain ⟨x, hx, e⟩ := sub_memS (l := l) hf.1 hf.2 (by omega)
  exact ⟨x, hx, seq_str (by omega), by rw [chars_len]; exact mod_pos _ _ (by omega), e⟩
noncomputable abbrev fr10 (a b c : List Nat) (cs : V) (w : List Nat) (n p : Int) (y : Slot) : St := ⟨[.v (sg a b c), .v cs, .v (.str w), .v (.int n), .v (.int p), y]⟩
theorem step10 (cf : CallF) {a b c : List Nat} (sn : Sgn a b c) (cs : V) (w : List Nat) (n : Int) (p : Int) (y : Slot) (hw : w.length ≤ 900) (hn : 0 ≤ n ∧ n ≤ 4) (hb0 : 0 < n → (!eqV (.str b) (.str [])) = true) :
    ∃ w' n', exs prog cf false f10b0 (fr10 a b c cs w n p y) = some (.ok .next, fr10 a b c cs w' n' p y) ∧
      w'.length ≤ w.length + 1 ∧ (0 ≤ n' ∧ n' ≤ 4) ∧ (0 < n' → (!eqV (.str b) (.str [])) = true) := by
  have da := data_of sn.ha
  have db := data_of sn.hb
  have dc := data_of sn.hc
  have ad : ∀ x : Nat, binOp .add (.str w) (.str [x]) = some (.str (w ++ [x])) := fun x => add_str (by simp; omega)
  simp only [f10b0]
  have T1 : evB prog cf false (.and [(.cmp .eq (.bin .mod (.bor 4) (.lit (.int 3))) (.lit (.int 0))), (.cmp .lt (.bor 3) (.lit (.int 4))), (.cmp .ne (.sub (.bor 0) (.lit (.int 0))) (.lit (.str []))), (.cmp .ne (.sub (.bor 0) (.lit (.int 1))) (.lit (.str [])))]) (ev prog cf false (.and [(.cmp .eq (.bin .mod (.bor 4) (.lit (.int 3))) (.lit (.int 0))), (.cmp .lt (.bor 3) (.lit (.int 4))), (.cmp .ne (.sub (.bor 0) (.lit (.int 0))) (.lit (.str []))), (.cmp .ne (.sub (.bor 0) (.lit (.int 1))) (.lit (.str [])))])) (fr10 a b c cs w n p y) = some (.ok (eqV (.int (p.fmod 3)) (.int 0) && (decide (n < 4) && (!eqV (.str a) (.str []) && (!eqV (.str b) (.str []) && true)))), fr10 a b c cs w n p y) :=
    b_and (i_and (by (repeat (first | with_reducible (first | apply e_lit | apply e_bor | apply e_var | apply o_none | apply s_nil | apply e_dict0 | apply xs_nil | apply i_nil | apply y_nil | apply e_bin | apply e_cmp | apply e_sub | apply e_slice | apply o_some | apply s_cons | apply e_call | apply e_bi | apply e_list | apply e_tuple | apply e_not | apply e_rev | apply e_met | apply e_ite | apply e_and | apply a_one | apply a_c | apply b_not | apply b_and | apply b_or | apply b_of | apply i_c | apply y_c | apply x_assign | apply x_ownL | apply x_setItem | apply x_append | apply x_ret | apply x_retOwn | apply x_ownCall | apply x_if | exact x_raise | apply xs_retE | apply xs_retO | apply xs_ifR | apply m_ret | apply xs_next | apply xs_ret | apply r_e | apply r_1 | apply r_zip | exact add_int _ _ | exact sub_int _ _ | exact sz0 | exact sz1 _ | exact sz2 _ _ | exact sz3 _ _ _ | exact sz4 _ _ _ _ | exact sz5 _ _ _ _ _ | exact sz6 _ _ _ _ _ _ | exact sz7 _ _ _ _ _ _ _ | exact sz8 _ _ _ _ _ _ _ _ | exact sz9 _ _ _ _ _ _ _ _ _ | apply q_eq | apply q_ne | apply d_str | apply q_len) | ((with_reducible refine c_tt ?_ ?_); · rfl) | ((with_reducible refine c_ff ?_ ?_); · rfl) | ((with_reducible refine div_pos _ _ ?_ ?_) <;> decide) | ((with_reducible refine mod_pos _ _ ?_); decide) | rfl | (intro q; cases q)))) (i_and (by (repeat (first | with_reducible (first | apply e_lit | apply e_bor | apply e_var | apply o_none | apply s_nil | apply e_dict0 | apply xs_nil | apply i_nil | apply y_nil | apply e_bin | apply e_cmp | apply e_sub | apply e_slice | apply o_some | apply s_cons | apply e_call | apply e_bi | apply e_list | apply e_tuple | apply e_not | apply e_rev | apply e_met | apply e_ite | apply e_and | apply a_one | apply a_c | apply b_not | apply b_and | apply b_or | apply b_of | apply i_c | apply y_c | apply x_assign | apply x_ownL | apply x_setItem | apply x_append | apply x_ret | apply x_retOwn | apply x_ownCall | apply x_if | exact x_raise | apply xs_retE | apply xs_retO | apply xs_ifR | apply m_ret | apply xs_next | apply xs_ret | apply r_e | apply r_1 | apply r_zip | exact add_int _ _ | exact sub_int _ _ | exact sz0 | exact sz1 _ | exact sz2 _ _ | exact sz3 _ _ _ | exact sz4 _ _ _ _ | exact sz5 _ _ _ _ _ | exact sz6 _ _ _ _ _ _ | exact sz7 _ _ _ _ _ _ _ | exact sz8 _ _ _ _ _ _ _ _ | exact sz9 _ _ _ _ _ _ _ _ _ | apply q_eq | apply q_ne | apply d_str | apply q_len) | ((with_reducible refine c_tt ?_ ?_); · rfl) | ((with_reducible refine c_ff ?_ ?_); · rfl) | ((with_reducible refine div_pos _ _ ?_ ?_) <;> decide) | ((with_reducible refine mod_pos _ _ ?_); decide) | rfl | (intro q; cases q)))) (i_and (by (repeat (first | with_reducible (first | exact g0 a b c | exact da | apply e_lit | apply e_bor | apply e_var | apply o_none | apply s_nil | apply e_dict0 | apply xs_nil | apply i_nil | apply y_nil | apply e_bin | apply e_cmp | apply e_sub | apply e_slice | apply o_some | apply s_cons | apply e_call | apply e_bi | apply e_list | apply e_tuple | apply e_not | apply e_rev | apply e_met | apply e_ite | apply e_and | apply a_one | apply a_c | apply b_not | apply b_and | apply b_or | apply b_of | apply i_c | apply y_c | apply x_assign | apply x_ownL | apply x_setItem | apply x_append | apply x_ret | apply x_retOwn | apply x_ownCall | apply x_if | exact x_raise | apply xs_retE | apply xs_retO | apply xs_ifR | apply m_ret | apply xs_next | apply xs_ret | apply r_e | apply r_1 | apply r_zip | exact add_int _ _ | exact sub_int _ _ | exact sz0 | exact sz1 _ | exact sz2 _ _ | exact sz3 _ _ _ | exact sz4 _ _ _ _ | exact sz5 _ _ _ _ _ | exact sz6 _ _ _ _ _ _ | exact sz7 _ _ _ _ _ _ _ | exact sz8 _ _ _ _ _ _ _ _ | exact sz9 _ _ _ _ _ _ _ _ _ | apply q_eq | apply q_ne | apply d_str | apply q_len) | ((with_reducible refine c_tt ?_ ?_); · exact g0 a b c) | ((with_reducible refine c_ff ?_ ?_); · exact g0 a b c) | ((with_reducible refine c_tt ?_ ?_); · exact da) | ((with_reducible refine c_ff ?_ ?_); · exact da) | ((with_reducible refine c_tt ?_ ?_); · rfl) | ((with_reducible refine c_ff ?_ ?_); · rfl) | ((with_reducible refine div_pos _ _ ?_ ?_) <;> decide) | ((with_reducible refine mod_pos _ _ ?_); decide) | rfl | (intro q; cases q)))) (i_and (by (repeat (first | with_reducible (first | exact g1 a b c | exact db | apply e_lit | apply e_bor | apply e_var | apply o_none | apply s_nil | apply e_dict0 | apply xs_nil | apply i_nil | apply y_nil | apply e_bin | apply e_cmp | apply e_sub | apply e_slice | apply o_some | apply s_cons | apply e_call | apply e_bi | apply e_list | apply e_tuple | apply e_not | apply e_rev | apply e_met | apply e_ite | apply e_and | apply a_one | apply a_c | apply b_not | apply b_and | apply b_or | apply b_of | apply i_c | apply y_c | apply x_assign | apply x_ownL | apply x_setItem | apply x_append | apply x_ret | apply x_retOwn | apply x_ownCall | apply x_if | exact x_raise | apply xs_retE | apply xs_retO | apply xs_ifR | apply m_ret | apply xs_next | apply xs_ret | apply r_e | apply r_1 | apply r_zip | exact add_int _ _ | exact sub_int _ _ | exact sz0 | exact sz1 _ | exact sz2 _ _ | exact sz3 _ _ _ | exact sz4 _ _ _ _ | exact sz5 _ _ _ _ _ | exact sz6 _ _ _ _ _ _ | exact sz7 _ _ _ _ _ _ _ | exact sz8 _ _ _ _ _ _ _ _ | exact sz9 _ _ _ _ _ _ _ _ _ | apply q_eq | apply q_ne | apply d_str | apply q_len) | ((with_reducible refine c_tt ?_ ?_); · exact g1 a b c) | ((with_reducible refine c_ff ?_ ?_); · exact g1 a b c) | ((with_reducible refine c_tt ?_ ?_); · exact db) | ((with_reducible refine c_ff ?_ ?_); · exact db) | ((with_reducible refine c_tt ?_ ?_); · rfl) | ((with_reducible refine c_ff ?_ ?_); · rfl) | ((with_reducible refine div_pos _ _ ?_ ?_) <;> decide) | ((with_reducible refine mod_pos _ _ ?_); decide) | rfl | (intro q; cases q)))) i_nil))))
  cases h1 : (eqV (.int (p.fmod 3)) (.int 0) && (decide (n < 4) && (!eqV (.str a) (.str []) && (!eqV (.str b) (.str []) && true)))) with
  | true =>
    have k := ((Bool.and_eq_true _ _).mp h1).2
    have hn4 : n < 4 := of_decide_eq_true ((Bool.and_eq_true _ _).mp k).1
    have k := (Bool.and_eq_true _ _).mp ((Bool.and_eq_true _ _).mp k).2
    obtain ⟨x, hx, q1, q2, q3⟩ := pick k.1 sn.la (p.fdiv 3)
    have ea := ad x
    refine ⟨w ++ [x], n + 1, xs_next (x_if T1 (c_tt h1 ?_)) xs_nil, by simp, by omega, fun _ => ((Bool.and_eq_true _ _).mp k.2).1⟩
    refine xs_next (σ₁ := fr10 a b c cs (w ++ [x]) n p y) ?_ ?_
    · (repeat (first | with_reducible (first | exact g0 a b c | exact q1 | exact q2 | exact q3 | exact ea | apply e_lit | apply e_bor | apply e_var | apply o_none | apply s_nil | apply e_dict0 | apply xs_nil | apply i_nil | apply y_nil | apply e_bin | apply e_cmp | apply e_sub | apply e_slice | apply o_some | apply s_cons | apply e_call | apply e_bi | apply e_list | apply e_tuple | apply e_not | apply e_rev | apply e_met | apply e_ite | apply e_and | apply a_one | apply a_c | apply b_not | apply b_and | apply b_or | apply b_of | apply i_c | apply y_c | apply x_assign | apply x_ownL | apply x_setItem | apply x_append | apply x_ret | apply x_retOwn | apply x_ownCall | apply x_if | exact x_raise | apply xs_retE | apply xs_retO | apply xs_ifR | apply m_ret | apply xs_next | apply xs_ret | apply r_e | apply r_1 | apply r_zip | exact add_int _ _ | exact sub_int _ _ | exact sz0 | exact sz1 _ | exact sz2 _ _ | exact sz3 _ _ _ | exact sz4 _ _ _ _ | exact sz5 _ _ _ _ _ | exact sz6 _ _ _ _ _ _ | exact sz7 _ _ _ _ _ _ _ | exact sz8 _ _ _ _ _ _ _ _ | exact sz9 _ _ _ _ _ _ _ _ _ | apply q_eq | apply q_ne | apply d_str | apply q_len) | ((with_reducible refine c_tt ?_ ?_); · exact g0 a b c) | ((with_reducible refine c_ff ?_ ?_); · exact g0 a b c) | ((with_reducible refine c_tt ?_ ?_); · exact q1) | ((with_reducible refine c_ff ?_ ?_); · exact q1) | ((with_reducible refine c_tt ?_ ?_); · exact q2) | ((with_reducible refine c_ff ?_ ?_); · exact q2) | ((with_reducible refine c_tt ?_ ?_); · exact q3) | ((with_reducible refine c_ff ?_ ?_); · exact q3) | ((with_reducible refine c_tt ?_ ?_); · exact ea) | ((with_reducible refine c_ff ?_ ?_); · exact ea) | ((with_reducible refine c_tt ?_ ?_); · rfl) | ((with_reducible refine c_ff ?_ ?_); · rfl) | ((with_reducible refine div_pos _ _ ?_ ?_) <;> decide) | ((with_reducible refine mod_pos _ _ ?_); decide) | rfl | (intro q; cases q)))
    · (repeat (first | with_reducible (first | apply e_lit | apply e_bor | apply e_var | apply o_none | apply s_nil | apply e_dict0 | apply xs_nil | apply i_nil | apply y_nil | apply e_bin | apply e_cmp | apply e_sub | apply e_slice | apply o_some | apply s_cons | apply e_call | apply e_bi | apply e_list | apply e_tuple | apply e_not | apply e_rev | apply e_met | apply e_ite | apply e_and | apply a_one | apply a_c | apply b_not | apply b_and | apply b_or | apply b_of | apply i_c | apply y_c | apply x_assign | apply x_ownL | apply x_setItem | apply x_append | apply x_ret | apply x_retOwn | apply x_ownCall | apply x_if | exact x_raise | apply xs_retE | apply xs_retO | apply xs_ifR | apply m_ret | apply xs_next | apply xs_ret | apply r_e | apply r_1 | apply r_zip | exact add_int _ _ | exact sub_int _ _ | exact sz0 | exact sz1 _ | exact sz2 _ _ | exact sz3 _ _ _ | exact sz4 _ _ _ _ | exact sz5 _ _ _ _ _ | exact sz6 _ _ _ _ _ _ | exact sz7 _ _ _ _ _ _ _ | exact sz8 _ _ _ _ _ _ _ _ | exact sz9 _ _ _ _ _ _ _ _ _ | apply q_eq | apply q_ne | apply d_str | apply q_len) | ((with_reducible refine c_tt ?_ ?_); · rfl) | ((with_reducible refine c_ff ?_ ?_); · rfl) | ((with_reducible refine div_pos _ _ ?_ ?_) <;> decide) | ((with_reducible refine mod_pos _ _ ?_); decide) | rfl | (intro q; cases q)))
  | false =>
  have T2 : evB prog cf false (.and [(.cmp .eq (.bin .mod (.bor 4) (.lit (.int 3))) (.lit (.int 1))), (.cmp .gt (.bor 3) (.lit (.int 0)))]) (ev prog cf false (.and [(.cmp .eq (.bin .mod (.bor 4) (.lit (.int 3))) (.lit (.int 1))), (.cmp .gt (.bor 3) (.lit (.int 0)))])) (fr10 a b c cs w n p y) = some (.ok (eqV (.int (p.fmod 3)) (.int 1) && (decide (0 < n) && true)), fr10 a b c cs w n p y) :=
    b_and (i_and (by (repeat (first | with_reducible (first | apply e_lit | apply e_bor | apply e_var | apply o_none | apply s_nil | apply e_dict0 | apply xs_nil | apply i_nil | apply y_nil | apply e_bin | apply e_cmp | apply e_sub | apply e_slice | apply o_some | apply s_cons | apply e_call | apply e_bi | apply e_list | apply e_tuple | apply e_not | apply e_rev | apply e_met | apply e_ite | apply e_and | apply a_one | apply a_c | apply b_not | apply b_and | apply b_or | apply b_of | apply i_c | apply y_c | apply x_assign | apply x_ownL | apply x_setItem | apply x_append | apply x_ret | apply x_retOwn | apply x_ownCall | apply x_if | exact x_raise | apply xs_retE | apply xs_retO | apply xs_ifR | apply m_ret | apply xs_next | apply xs_ret | apply r_e | apply r_1 | apply r_zip | exact add_int _ _ | exact sub_int _ _ | exact sz0 | exact sz1 _ | exact sz2 _ _ | exact sz3 _ _ _ | exact sz4 _ _ _ _ | exact sz5 _ _ _ _ _ | exact sz6 _ _ _ _ _ _ | exact sz7 _ _ _ _ _ _ _ | exact sz8 _ _ _ _ _ _ _ _ | exact sz9 _ _ _ _ _ _ _ _ _ | apply q_eq | apply q_ne | apply d_str | apply q_len) | ((with_reducible refine c_tt ?_ ?_); · rfl) | ((with_reducible refine c_ff ?_ ?_); · rfl) | ((with_reducible refine div_pos _ _ ?_ ?_) <;> decide) | ((with_reducible refine mod_pos _ _ ?_); decide) | rfl | (intro q; cases q)))) (i_and (by (repeat (first | with_reducible (first | apply e_lit | apply e_bor | apply e_var | apply o_none | apply s_nil | apply e_dict0 | apply xs_nil | apply i_nil | apply y_nil | apply e_bin | apply e_cmp | apply e_sub | apply e_slice | apply o_some | apply s_cons | apply e_call | apply e_bi | apply e_list | apply e_tuple | apply e_not | apply e_rev | apply e_met | apply e_ite | apply e_and | apply a_one | apply a_c | apply b_not | apply b_and | apply b_or | apply b_of | apply i_c | apply y_c | apply x_assign | apply x_ownL | apply x_setItem | apply x_append | apply x_ret | apply x_retOwn | apply x_ownCall | apply x_if | exact x_raise | apply xs_retE | apply xs_retO | apply xs_ifR | apply m_ret | apply xs_next | apply xs_ret | apply r_e | apply r_1 | apply r_zip | exact add_int _ _ | exact sub_int _ _ | exact sz0 | exact sz1 _ | exact sz2 _ _ | exact sz3 _ _ _ | exact sz4 _ _ _ _ | exact sz5 _ _ _ _ _ | exact sz6 _ _ _ _ _ _ | exact sz7 _ _ _ _ _ _ _ | exact sz8 _ _ _ _ _ _ _ _ | exact sz9 _ _ _ _ _ _ _ _ _ | apply q_eq | apply q_ne | apply d_str | apply q_len) | ((with_reducible refine c_tt ?_ ?_); · rfl) | ((with_reducible refine c_ff ?_ ?_); · rfl) | ((with_reducible refine div_pos _ _ ?_ ?_) <;> decide) | ((with_reducible refine mod_pos _ _ ?_); decide) | rfl | (intro q; cases q)))) i_nil))
  cases h2 : (eqV (.int (p.fmod 3)) (.int 1) && (decide (0 < n) && true)) with
  | true =>
    have hn0 : 0 < n := of_decide_eq_true ((Bool.and_eq_true _ _).mp ((Bool.and_eq_true _ _).mp h2).2).1
    obtain ⟨x, hx, q1, q2, q3⟩ := pick (hb0 hn0) sn.lb (p.fdiv 3)
    have ea := ad x
    refine ⟨w ++ [x], n - 1, xs_next (x_if T1 (c_ff h1 (xs_next (x_if T2 (c_tt h2 ?_)) xs_nil))) xs_nil, by simp, by omega, fun _ => hb0 hn0⟩
    refine xs_next (σ₁ := fr10 a b c cs (w ++ [x]) n p y) ?_ ?_
    · (repeat (first | with_reducible (first | exact g1 a b c | exact q1 | exact q2 | exact q3 | exact ea | apply e_lit | apply e_bor | apply e_var | apply o_none | apply s_nil | apply e_dict0 | apply xs_nil | apply i_nil | apply y_nil | apply e_bin | apply e_cmp | apply e_sub | apply e_slice | apply o_some | apply s_cons | apply e_call | apply e_bi | apply e_list | apply e_tuple | apply e_not | apply e_rev | apply e_met | apply e_ite | apply e_and | apply a_one | apply a_c | apply b_not | apply b_and | apply b_or | apply b_of | apply i_c | apply y_c | apply x_assign | apply x_ownL | apply x_setItem | apply x_append | apply x_ret | apply x_retOwn | apply x_ownCall | apply x_if | exact x_raise | apply xs_retE | apply xs_retO | apply xs_ifR | apply m_ret | apply xs_next | apply xs_ret | apply r_e | apply r_1 | apply r_zip | exact add_int _ _ | exact sub_int _ _ | exact sz0 | exact sz1 _ | exact sz2 _ _ | exact sz3 _ _ _ | exact sz4 _ _ _ _ | exact sz5 _ _ _ _ _ | exact sz6 _ _ _ _ _ _ | exact sz7 _ _ _ _ _ _ _ | exact sz8 _ _ _ _ _ _ _ _ | exact sz9 _ _ _ _ _ _ _ _ _ | apply q_eq | apply q_ne | apply d_str | apply q_len) | ((with_reducible refine c_tt ?_ ?_); · exact g1 a b c) | ((with_reducible refine c_ff ?_ ?_); · exact g1 a b c) | ((with_reducible refine c_tt ?_ ?_); · exact q1) | ((with_reducible refine c_ff ?_ ?_); · exact q1) | ((with_reducible refine c_tt ?_ ?_); · exact q2) | ((with_reducible refine c_ff ?_ ?_); · exact q2) | ((with_reducible refine c_tt ?_ ?_); · exact q3) | ((with_reducible refine c_ff ?_ ?_); · exact q3) | ((with_reducible refine c_tt ?_ ?_); · exact ea) | ((with_reducible refine c_ff ?_ ?_); · exact ea) | ((with_reducible refine c_tt ?_ ?_); · rfl) | ((with_reducible refine c_ff ?_ ?_); · rfl) | ((with_reducible refine div_pos _ _ ?_ ?_) <;> decide) | ((with_reducible refine mod_pos _ _ ?_); decide) | rfl | (intro q; cases q)))
    · (repeat (first | with_reducible (first | apply e_lit | apply e_bor | apply e_var | apply o_none | apply s_nil | apply e_dict0 | apply xs_nil | apply i_nil | apply y_nil | apply e_bin | apply e_cmp | apply e_sub | apply e_slice | apply o_some | apply s_cons | apply e_call | apply e_bi | apply e_list | apply e_tuple | apply e_not | apply e_rev | apply e_met | apply e_ite | apply e_and | apply a_one | apply a_c | apply b_not | apply b_and | apply b_or | apply b_of | apply i_c | apply y_c | apply x_assign | apply x_ownL | apply x_setItem | apply x_append | apply x_ret | apply x_retOwn | apply x_ownCall | apply x_if | exact x_raise | apply xs_retE | apply xs_retO | apply xs_ifR | apply m_ret | apply xs_next | apply xs_ret | apply r_e | apply r_1 | apply r_zip | exact add_int _ _ | exact sub_int _ _ | exact sz0 | exact sz1 _ | exact sz2 _ _ | exact sz3 _ _ _ | exact sz4 _ _ _ _ | exact sz5 _ _ _ _ _ | exact sz6 _ _ _ _ _ _ | exact sz7 _ _ _ _ _ _ _ | exact sz8 _ _ _ _ _ _ _ _ | exact sz9 _ _ _ _ _ _ _ _ _ | apply q_eq | apply q_ne | apply d_str | apply q_len) | ((with_reducible refine c_tt ?_ ?_); · rfl) | ((with_reducible refine c_ff ?_ ?_); · rfl) | ((with_reducible refine div_pos _ _ ?_ ?_) <;> decide) | ((with_reducible refine mod_pos _ _ ?_); decide) | rfl | (intro q; cases q)))
  | false =>
  cases h3 : (!eqV (.str c) (.str [])) with
  | false =>
    refine ⟨w, n, xs_next (x_if T1 (c_ff h1 (xs_next (x_if T2 (c_ff h2 (xs_next (x_if (t := !eqV (.str c) (.str [])) (σ₁ := fr10 a b c cs w n p y) ?_ (c_ff h3 xs_nil)) xs_nil))) xs_nil))) xs_nil, by omega, hn, hb0⟩
    (repeat (first | with_reducible (first | exact g2 a b c | exact dc | apply e_lit | apply e_bor | apply e_var | apply o_none | apply s_nil | apply e_dict0 | apply xs_nil | apply i_nil | apply y_nil | apply e_bin | apply e_cmp | apply e_sub | apply e_slice | apply o_some | apply s_cons | apply e_call | apply e_bi | apply e_list | apply e_tuple | apply e_not | apply e_rev | apply e_met | apply e_ite | apply e_and | apply a_one | apply a_c | apply b_not | apply b_and | apply b_or | apply b_of | apply i_c | apply y_c | apply x_assign | apply x_ownL | apply x_setItem | apply x_append | apply x_ret | apply x_retOwn | apply x_ownCall | apply x_if | exact x_raise | apply xs_retE | apply xs_retO | apply xs_ifR | apply m_ret | apply xs_next | apply xs_ret | apply r_e | apply r_1 | apply r_zip | exact add_int _ _ | exact sub_int _ _ | exact sz0 | exact sz1 _ | exact sz2 _ _ | exact sz3 _ _ _ | exact sz4 _ _ _ _ | exact sz5 _ _ _ _ _ | exact sz6 _ _ _ _ _ _ | exact sz7 _ _ _ _ _ _ _ | exact sz8 _ _ _ _ _ _ _ _ | exact sz9 _ _ _ _ _ _ _ _ _ | apply q_eq | apply q_ne | apply d_str | apply q_len) | ((with_reducible refine c_tt ?_ ?_); · exact g2 a b c) | ((with_reducible refine c_ff ?_ ?_); · exact g2 a b c) | ((with_reducible refine c_tt ?_ ?_); · exact dc) | ((with_reducible refine c_ff ?_ ?_); · exact dc) | ((with_reducible refine c_tt ?_ ?_); · rfl) | ((with_reducible refine c_ff ?_ ?_); · rfl) | ((with_reducible refine div_pos _ _ ?_ ?_) <;> decide) | ((with_reducible refine mod_pos _ _ ?_); decide) | rfl | (intro q; cases q)))
  | true =>
    obtain ⟨x, hx, q1, q2, q3⟩ := pick h3 sn.lc (p.fdiv 3)
    have ea := ad x
    refine ⟨w ++ [x], n, xs_next (x_if T1 (c_ff h1 (xs_next (x_if T2 (c_ff h2 (xs_next (x_if (t := !eqV (.str c) (.str [])) (σ₁ := fr10 a b c cs w n p y) ?_ (c_tt h3 ?_)) xs_nil))) xs_nil))) xs_nil, by simp, hn, hb0⟩
    · (repeat (first | with_reducible (first | exact g2 a b c | exact dc | apply e_lit | apply e_bor | apply e_var | apply o_none | apply s_nil | apply e_dict0 | apply xs_nil | apply i_nil | apply y_nil | apply e_bin | apply e_cmp | apply e_sub | apply e_slice | apply o_some | apply s_cons | apply e_call | apply e_bi | apply e_list | apply e_tuple | apply e_not | apply e_rev | apply e_met | apply e_ite | apply e_and | apply a_one | apply a_c | apply b_not | apply b_and | apply b_or | apply b_of | apply i_c | apply y_c | apply x_assign | apply x_ownL | apply x_setItem | apply x_append | apply x_ret | apply x_retOwn | apply x_ownCall | apply x_if | exact x_raise | apply xs_retE | apply xs_retO | apply xs_ifR | apply m_ret | apply xs_next | apply xs_ret | apply r_e | apply r_1 | apply r_zip | exact add_int _ _ | exact sub_int _ _ | exact sz0 | exact sz1 _ | exact sz2 _ _ | exact sz3 _ _ _ | exact sz4 _ _ _ _ | exact sz5 _ _ _ _ _ | exact sz6 _ _ _ _ _ _ | exact sz7 _ _ _ _ _ _ _ | exact sz8 _ _ _ _ _ _ _ _ | exact sz9 _ _ _ _ _ _ _ _ _ | apply q_eq | apply q_ne | apply d_str | apply q_len) | ((with_reducible refine c_tt ?_ ?_); · exact g2 a b c) | ((with_reducible refine c_ff ?_ ?_); · exact g2 a b c) | ((with_reducible refine c_tt ?_ ?_); · exact dc) | ((with_reducible refine c_ff ?_ ?_); · exact dc) | ((with_reducible refine c_tt ?_ ?_); · rfl) | ((with_reducible refine c_ff ?_ ?_); · rfl) | ((with_reducible refine div_pos _ _ ?_ ?_) <;> decide) | ((with_reducible refine mod_pos _ _ ?_); decide) | rfl | (intro q; cases q)))
    · (repeat (first | with_reducible (first | exact g2 a b c | exact q1 | exact q2 | exact q3 | exact ea | apply e_lit | apply e_bor | apply e_var | apply o_none | apply s_nil | apply e_dict0 | apply xs_nil | apply i_nil | apply y_nil | apply e_bin | apply e_cmp | apply e_sub | apply e_slice | apply o_some | apply s_cons | apply e_call | apply e_bi | apply e_list | apply e_tuple | apply e_not | apply e_rev | apply e_met | apply e_ite | apply e_and | apply a_one | apply a_c | apply b_not | apply b_and | apply b_or | apply b_of | apply i_c | apply y_c | apply x_assign | apply x_ownL | apply x_setItem | apply x_append | apply x_ret | apply x_retOwn | apply x_ownCall | apply x_if | exact x_raise | apply xs_retE | apply xs_retO | apply xs_ifR | apply m_ret | apply xs_next | apply xs_ret | apply r_e | apply r_1 | apply r_zip | exact add_int _ _ | exact sub_int _ _ | exact sz0 | exact sz1 _ | exact sz2 _ _ | exact sz3 _ _ _ | exact sz4 _ _ _ _ | exact sz5 _ _ _ _ _ | exact sz6 _ _ _ _ _ _ | exact sz7 _ _ _ _ _ _ _ | exact sz8 _ _ _ _ _ _ _ _ | exact sz9 _ _ _ _ _ _ _ _ _ | apply q_eq | apply q_ne | apply d_str | apply q_len) | ((with_reducible refine c_tt ?_ ?_); · exact g2 a b c) | ((with_reducible refine c_ff ?_ ?_); · exact g2 a b c) | ((with_reducible refine c_tt ?_ ?_); · exact q1) | ((with_reducible refine c_ff ?_ ?_); · exact q1) | ((with_reducible refine c_tt ?_ ?_); · exact q2) | ((with_reducible refine c_ff ?_ ?_); · exact q2) | ((with_reducible refine c_tt ?_ ?_); · exact q3) | ((with_reducible refine c_ff ?_ ?_); · exact q3) | ((with_reducible refine c_tt ?_ ?_); · exact ea) | ((with_reducible refine c_ff ?_ ?_); · exact ea) | ((with_reducible refine c_tt ?_ ?_); · rfl) | ((with_reducible refine c_ff ?_ ?_); · rfl) | ((with_reducible refine div_pos _ _ ?_ ?_) <;> decide) | ((with_reducible refine mod_pos _ _ ?_); decide) | rfl | (intro q; cases q)))
theorem loop10 (cf : CallF) {a b c : List Nat} (sn : Sgn a b c) (cs : V) (y : Slot) : ∀ (l : List Int) (w : List Nat) (n : Int) (x : Slot), w.length + l.length ≤ 900 → (0 ≤ n ∧ n ≤ 4) → (0 < n → (!eqV (.str b) (.str [])) = true) →
    ∃ w' n' x', forL (M.noErr (exs prog cf false f10b0)) (.one 4) (l.map .int) ⟨[.v (sg a b c), .v cs, .v (.str w), .v (.int n), x, y]⟩ = some (.ok .next, ⟨[.v (sg a b c), .v cs, .v (.str w'), .v (.int n'), x', y]⟩) ∧
      w'.length ≤ w.length + l.length ∧ (0 ≤ n' ∧ n' ≤ 4) ∧ (0 < n' → (!eqV (.str b) (.str [])) = true)
  | [], w, n, x, hw, hn, hb => ⟨w, n, x, rfl, by omega, hn, hb⟩
  | p :: l, w, n, x, hw, hn, hb => by
    rw [List.length_cons] at hw
    obtain ⟨w₁, n₁, st, hw₁, hn₁, hb₁⟩ := step10 cf sn cs w n p y (by omega) hn hb
    obtain ⟨w', n', x', e, hw', hn', hb'⟩ := loop10 cf sn cs y l w₁ n₁ (.v (.int p)) (by omega) hn₁ hb₁
    refine ⟨w', n', x', ?_, by simp; omega, hn', hb'⟩
    exact (forL_next (σ₁ := fr10 a b c cs w n p y) rfl st).trans e
theorem loop10b (cf : CallF) {a b c : List Nat} (sn : Sgn a b c) (cs : V) (n x : Slot) : ∀ (l : List Nat) (w : List Nat) (y : Slot), w.length + l.length ≤ 900 → (l ≠ [] → (!eqV (.str b) (.str [])) = true) →
    ∃ w' y', forL (M.noErr (exs prog cf false f10b1)) (.one 5) (l.map fun (k : Nat) => .int (0 + (k : Int))) ⟨[.v (sg a b c), .v cs, .v (.str w), n, x, y]⟩ = some (.ok .next, ⟨[.v (sg a b c), .v cs, .v (.str w'), n, x, y']⟩) ∧ w'.length ≤ w.length + l.length
  | [], w, y, hw, hb => ⟨w, y, rfl, by simp⟩
  | p :: l, w, y, hw, hb => by
    rw [List.length_cons] at hw
    have hs : seqV (.str w) = some (charsV w) := seq_str (by omega)
    obtain ⟨c', hx, q1, q2, q3⟩ := pick (hb (by simp)) sn.lb (((charsV w).length : Nat) + (0 + (p : Int)))
    have ea : binOp .add (.str w) (.str [c']) = some (.str (w ++ [c'])) := add_str (by simp; omega)
    have st : exs prog cf false f10b1 ⟨[.v (sg a b c), .v cs, .v (.str w), n, x, .v (.int (0 + (p : Int)))]⟩ = some (.ok .next, ⟨[.v (sg a b c), .v cs, .v (.str (w ++ [c'])), n, x, .v (.int (0 + (p : Int)))]⟩) := by
      simp only [f10b1]
      (repeat (first | with_reducible (first | exact g1 a b c | exact hs | exact q1 | exact q2 | exact q3 | exact ea | apply e_lit | apply e_bor | apply e_var | apply o_none | apply s_nil | apply e_dict0 | apply xs_nil | apply i_nil | apply y_nil | apply e_bin | apply e_cmp | apply e_sub | apply e_slice | apply o_some | apply s_cons | apply e_call | apply e_bi | apply e_list | apply e_tuple | apply e_not | apply e_rev | apply e_met | apply e_ite | apply e_and | apply a_one | apply a_c | apply b_not | apply b_and | apply b_or | apply b_of | apply i_c | apply y_c | apply x_assign | apply x_ownL | apply x_setItem | apply x_append | apply x_ret | apply x_retOwn | apply x_ownCall | apply x_if | exact x_raise | apply xs_retE | apply xs_retO | apply xs_ifR | apply m_ret | apply xs_next | apply xs_ret | apply r_e | apply r_1 | apply r_zip | exact add_int _ _ | exact sub_int _ _ | exact sz0 | exact sz1 _ | exact sz2 _ _ | exact sz3 _ _ _ | exact sz4 _ _ _ _ | exact sz5 _ _ _ _ _ | exact sz6 _ _ _ _ _ _ | exact sz7 _ _ _ _ _ _ _ | exact sz8 _ _ _ _ _ _ _ _ | exact sz9 _ _ _ _ _ _ _ _ _ | apply q_eq | apply q_ne | apply d_str | apply q_len) | ((with_reducible refine c_tt ?_ ?_); · exact g1 a b c) | ((with_reducible refine c_ff ?_ ?_); · exact g1 a b c) | ((with_reducible refine c_tt ?_ ?_); · exact hs) | ((with_reducible refine c_ff ?_ ?_); · exact hs) | ((with_reducible refine c_tt ?_ ?_); · exact q1) | ((with_reducible refine c_ff ?_ ?_); · exact q1) | ((with_reducible refine c_tt ?_ ?_); · exact q2) | ((with_reducible refine c_ff ?_ ?_); · exact q2) | ((with_reducible refine c_tt ?_ ?_); · exact q3) | ((with_reducible refine c_ff ?_ ?_); · exact q3) | ((with_reducible refine c_tt ?_ ?_); · exact ea) | ((with_reducible refine c_ff ?_ ?_); · exact ea) | ((with_reducible refine c_tt ?_ ?_); · rfl) | ((with_reducible refine c_ff ?_ ?_); · rfl) | ((with_reducible refine div_pos _ _ ?_ ?_) <;> decide) | ((with_reducible refine mod_pos _ _ ?_); decide) | rfl | (intro q; cases q)))
    obtain ⟨w', y', e, hw'⟩ := loop10b cf sn cs n x l (w ++ [c']) (.v (.int (0 + (p : Int)))) (by simp; omega) fun _ => hb (by simp)
    refine ⟨w', y', ?_, by simp at hw' ⊢; omega⟩
    exact (forL_next (σ₁ := ⟨[.v (sg a b c), .v cs, .v (.str w), n, x, .v (.int (0 + (p : Int)))]⟩) rfl st).trans e
theorem call10 (d : Nat) {a b c : List Nat} (sn : Sgn a b c) (l : List Int) (hl : l.length ≤ 63) : ∃ w : List Nat, w.length ≤ 100 ∧ callN prog (d + 1) false 10 [sg a b c, .list (l.map .int)] = some (.ok (.v (.str w))) := by
  have hs : seqV (.list (l.map .int)) = some (l.map .int) := seq_list (by rw [List.length_map]; omega)
  obtain ⟨w₁, n₁, x₁, e₁, hw₁, hn₁, hb₁⟩ := loop10 (callN prog d) sn (.list (l.map .int)) .unset l [] 0 .unset (by simp; omega) (by decide) (fun q => absurd q (by decide))
  have hr : rangeO 0 n₁ = some (rangeL 0 n₁) := range_in (by decide) hn₁.1 (by omega)
  obtain ⟨w₂, y₂, e₂, hw₂⟩ := loop10b (callN prog d) sn (.list (l.map .int)) (.v (.int n₁)) x₁ (List.range (n₁ - 0).toNat) w₁ .unset (by simp at hw₁ ⊢; omega) (fun q => hb₁ (by
    by_cases h : 0 < n₁
    · exact h
    · exact absurd (by rw [show (n₁ - 0).toNat = 0 by omega]; rfl) q))
  refine ⟨w₂, by simp at hw₁ hw₂; omega, ?_⟩
  refine fn_ret (fn := f10) (G := [.v (sg a b c), .v (.list (l.map .int)), .v (.str w₂), .v (.int n₁), x₁, y₂]) rfl rfl ?_
  show exs prog (callN prog d) false f10.body ⟨[.v (sg a b c), .v (.list (l.map .int)), .unset, .unset, .unset, .unset]⟩ = _
  simp only [f10]
  refine xs_next (σ₁ := ⟨[.v (sg a b c), .v (.list (l.map .int)), .v (.str []), .unset, .unset, .unset]⟩) rfl (xs_next (σ₁ := ⟨[.v (sg a b c), .v (.list (l.map .int)), .v (.str []), .v (.int 0), .unset, .unset]⟩) rfl ?_)
  refine xs_next (x_for (xs := l.map .int) (σ₁ := ⟨[.v (sg a b c), .v (.list (l.map .int)), .v (.str []), .v (.int 0), .unset, .unset]⟩) (by (repeat (first | with_reducible (first | exact hs | apply e_lit | apply e_bor | apply e_var | apply o_none | apply s_nil | apply e_dict0 | apply xs_nil | apply i_nil | apply y_nil | apply e_bin | apply e_cmp | apply e_sub | apply e_slice | apply o_some | apply s_cons | apply e_call | apply e_bi | apply e_list | apply e_tuple | apply e_not | apply e_rev | apply e_met | apply e_ite | apply e_and | apply a_one | apply a_c | apply b_not | apply b_and | apply b_or | apply b_of | apply i_c | apply y_c | apply x_assign | apply x_ownL | apply x_setItem | apply x_append | apply x_ret | apply x_retOwn | apply x_ownCall | apply x_if | exact x_raise | apply xs_retE | apply xs_retO | apply xs_ifR | apply m_ret | apply xs_next | apply xs_ret | apply r_e | apply r_1 | apply r_zip | exact add_int _ _ | exact sub_int _ _ | exact sz0 | exact sz1 _ | exact sz2 _ _ | exact sz3 _ _ _ | exact sz4 _ _ _ _ | exact sz5 _ _ _ _ _ | exact sz6 _ _ _ _ _ _ | exact sz7 _ _ _ _ _ _ _ | exact sz8 _ _ _ _ _ _ _ _ | exact sz9 _ _ _ _ _ _ _ _ _ | apply q_eq | apply q_ne | apply d_str | apply q_len) | ((with_reducible refine c_tt ?_ ?_); · exact hs) | ((with_reducible refine c_ff ?_ ?_); · exact hs) | ((with_reducible refine c_tt ?_ ?_); · rfl) | ((with_reducible refine c_ff ?_ ?_); · rfl) | ((with_reducible refine div_pos _ _ ?_ ?_) <;> decide) | ((with_reducible refine mod_pos _ _ ?_); decide) | rfl | (intro q; cases q)))) e₁) ?_
  refine xs_next (x_for (xs := rangeL 0 n₁) (σ₁ := ⟨[.v (sg a b c), .v (.list (l.map .int)), .v (.str w₁), .v (.int n₁), x₁, .unset]⟩) (by (repeat (first | with_reducible (first | exact hr | apply e_lit | apply e_bor | apply e_var | apply o_none | apply s_nil | apply e_dict0 | apply xs_nil | apply i_nil | apply y_nil | apply e_bin | apply e_cmp | apply e_sub | apply e_slice | apply o_some | apply s_cons | apply e_call | apply e_bi | apply e_list | apply e_tuple | apply e_not | apply e_rev | apply e_met | apply e_ite | apply e_and | apply a_one | apply a_c | apply b_not | apply b_and | apply b_or | apply b_of | apply i_c | apply y_c | apply x_assign | apply x_ownL | apply x_setItem | apply x_append | apply x_ret | apply x_retOwn | apply x_ownCall | apply x_if | exact x_raise | apply xs_retE | apply xs_retO | apply xs_ifR | apply m_ret | apply xs_next | apply xs_ret | apply r_e | apply r_1 | apply r_zip | exact add_int _ _ | exact sub_int _ _ | exact sz0 | exact sz1 _ | exact sz2 _ _ | exact sz3 _ _ _ | exact sz4 _ _ _ _ | exact sz5 _ _ _ _ _ | exact sz6 _ _ _ _ _ _ | exact sz7 _ _ _ _ _ _ _ | exact sz8 _ _ _ _ _ _ _ _ | exact sz9 _ _ _ _ _ _ _ _ _ | apply q_eq | apply q_ne | apply d_str | apply q_len) | ((with_reducible refine c_tt ?_ ?_); · exact hr) | ((with_reducible refine c_ff ?_ ?_); · exact hr) | ((with_reducible refine c_tt ?_ ?_); · rfl) | ((with_reducible refine c_ff ?_ ?_); · rfl) | ((with_reducible refine div_pos _ _ ?_ ?_) <;> decide) | ((with_reducible refine mod_pos _ _ ?_); decide) | rfl | (intro q; cases q)))) e₂) ?_
  (repeat (first | with_reducible (first | apply e_lit | apply e_bor | apply e_var | apply o_none | apply s_nil | apply e_dict0 | apply xs_nil | apply i_nil | apply y_nil | apply e_bin | apply e_cmp | apply e_sub | apply e_slice | apply o_some | apply s_cons | apply e_call | apply e_bi | apply e_list | apply e_tuple | apply e_not | apply e_rev | apply e_met | apply e_ite | apply e_and | apply a_one | apply a_c | apply b_not | apply b_and | apply b_or | apply b_of | apply i_c | apply y_c | apply x_assign | apply x_ownL | apply x_setItem | apply x_append | apply x_ret | apply x_retOwn | apply x_ownCall | apply x_if | exact x_raise | apply xs_retE | apply xs_retO | apply xs_ifR | apply m_ret | apply xs_next | apply xs_ret | apply r_e | apply r_1 | apply r_zip | exact add_int _ _ | exact sub_int _ _ | exact sz0 | exact sz1 _ | exact sz2 _ _ | exact sz3 _ _ _ | exact sz4 _ _ _ _ | exact sz5 _ _ _ _ _ | exact sz6 _ _ _ _ _ _ | exact sz7 _ _ _ _ _ _ _ | exact sz8 _ _ _ _ _ _ _ _ | exact sz9 _ _ _ _ _ _ _ _ _ | apply q_eq | apply q_ne | apply d_str | apply q_len) | ((with_reducible refine c_tt ?_ ?_); · rfl) | ((with_reducible refine c_ff ?_ ?_); · rfl) | ((with_reducible refine div_pos _ _ ?_ ?_) <;> decide) | ((with_reducible refine mod_pos _ _ ?_); decide) | rfl | (intro q; cases q)))
end Mine.L01
end

noncomputable section
set_option maxRecDepth 100000
set_option linter.unusedSimpArgs false
set_option linter.unusedVariables false
namespace Mine.Pl
theorem rev_str {s : List Nat} (h : s.length ≤ 1000) : revOp (.str s) = some (.str s.reverse) := if_pos (sz_of h)
end Mine.Pl
namespace Mine.L01
open Mine.Pl
/-! a word, bent -/
noncomputable abbrev fr16 (w a b c : List Nat) (n at' : Int) (ev' : List Nat) (x : Nat) : St := ⟨[.v (.str w), .v (sg a b c), .v (.int n), .v (.int at'), .v (.str ev'), .v (.str [x])]⟩
theorem no16 {cf : CallF} {w a b c ev' : List Nat} {n at' : Int} {x : Nat} {r : Option (Except Nat Fl × St)} (j : Int) (bd : List S) (q : List S) (h : eqV (.int (n.fmod 6)) (.int j) = false) (h2 : exs prog cf false q (fr16 w a b c n at' ev' x) = r) : exs prog cf false (.ite (.cmp .eq (.bin .mod (.bor 2) (.lit (.int 6))) (.lit (.int j))) bd [] :: q) (fr16 w a b c n at' ev' x) = r :=
  xs_next (x_if (t := eqV (.int (n.fmod 6)) (.int j)) (σ₁ := fr16 w a b c n at' ev' x) (by (repeat (first | with_reducible (first | apply e_lit | apply e_bor | apply e_var | apply o_none | apply s_nil | apply e_dict0 | apply xs_nil | apply i_nil | apply y_nil | apply e_bin | apply e_cmp | apply e_sub | apply e_slice | apply o_some | apply s_cons | apply e_call | apply e_bi | apply e_list | apply e_tuple | apply e_not | apply e_rev | apply e_met | apply e_ite | apply e_and | apply a_one | apply a_c | apply b_not | apply b_and | apply b_or | apply b_of | apply i_c | apply y_c | apply x_assign | apply x_ownL | apply x_setItem | apply x_append | apply x_ret | apply x_retOwn | apply x_ownCall | apply x_if | exact x_raise | apply xs_retE | apply xs_retO | apply xs_ifR | apply m_ret | apply xs_next | apply xs_ret | apply r_e | apply r_1 | apply r_zip | exact add_int _ _ | exact sub_int _ _ | exact sz0 | exact sz1 _ | exact sz2 _ _ | exact sz3 _ _ _ | exact sz4 _ _ _ _ | exact sz5 _ _ _ _ _ | exact sz6 _ _ _ _ _ _ | exact sz7 _ _ _ _ _ _ _ | exact sz8 _ _ _ _ _ _ _ _ | exact sz9 _ _ _ _ _ _ _ _ _ | apply q_eq | apply q_ne | apply d_str | apply q_len) | ((with_reducible refine c_tt ?_ ?_); · rfl) | ((with_reducible refine c_ff ?_ ?_); · rfl) | ((with_reducible refine div_pos _ _ ?_ ?_) <;> decide) | ((with_reducible refine mod_pos _ _ ?_); decide) | rfl | (intro q; cases q)))) (c_ff h xs_nil)) h2
theorem nx16 {cf : CallF} {w a b c ev' : List Nat} {n at' : Int} {x : Nat} (j : Int) (bd : List S) (q : List S) (h : eqV (.int (n.fmod 6)) (.int j) = false) (h2 : ∃ y, part y ∧ exs prog cf false q (fr16 w a b c n at' ev' x) = some (.ok (.ret (.v y)), fr16 w a b c n at' ev' x)) : ∃ y, part y ∧ exs prog cf false (.ite (.cmp .eq (.bin .mod (.bor 2) (.lit (.int 6))) (.lit (.int j))) bd [] :: q) (fr16 w a b c n at' ev' x) = some (.ok (.ret (.v y)), fr16 w a b c n at' ev' x) :=
  h2.imp fun _ k => ⟨k.1, no16 j bd q h k.2⟩
theorem yes16 {cf : CallF} {w a b c ev' : List Nat} {n at' : Int} {x : Nat} {y : V} (j : Int) (e : E) (q : List S) (h : eqV (.int (n.fmod 6)) (.int j) = true) (h2 : ev prog cf false e (fr16 w a b c n at' ev' x) = some (.ok y, fr16 w a b c n at' ev' x)) : exs prog cf false (.ite (.cmp .eq (.bin .mod (.bor 2) (.lit (.int 6))) (.lit (.int j))) [.ret e] [] :: q) (fr16 w a b c n at' ev' x) = some (.ok (.ret (.v y)), fr16 w a b c n at' ev' x) :=
  xs_ret (x_if (t := eqV (.int (n.fmod 6)) (.int j)) (σ₁ := fr16 w a b c n at' ev' x) (by (repeat (first | with_reducible (first | apply e_lit | apply e_bor | apply e_var | apply o_none | apply s_nil | apply e_dict0 | apply xs_nil | apply i_nil | apply y_nil | apply e_bin | apply e_cmp | apply e_sub | apply e_slice | apply o_some | apply s_cons | apply e_call | apply e_bi | apply e_list | apply e_tuple | apply e_not | apply e_rev | apply e_met | apply e_ite | apply e_and | apply a_one | apply a_c | apply b_not | apply b_and | apply b_or | apply b_of | apply i_c | apply y_c | apply x_assign | apply x_ownL | apply x_setItem | apply x_append | apply x_ret | apply x_retOwn | apply x_ownCall | apply x_if | exact x_raise | apply xs_retE | apply xs_retO | apply xs_ifR | apply m_ret | apply xs_next | apply xs_ret | apply r_e | apply r_1 | apply r_zip | exact add_int _ _ | exact sub_int _ _ | exact sz0 | exact sz1 _ | exact sz2 _ _ | exact sz3 _ _ _ | exact sz4 _ _ _ _ | exact sz5 _ _ _ _ _ | exact sz6 _ _ _ _ _ _ | exact sz7 _ _ _ _ _ _ _ | exact sz8 _ _ _ _ _ _ _ _ | exact sz9 _ _ _ _ _ _ _ _ _ | apply q_eq | apply q_ne | apply d_str | apply q_len) | ((with_reducible refine c_tt ?_ ?_); · rfl) | ((with_reducible refine c_ff ?_ ?_); · rfl) | ((with_reducible refine div_pos _ _ ?_ ?_) <;> decide) | ((with_reducible refine mod_pos _ _ ?_); decide) | rfl | (intro q; cases q)))) (c_tt h (xs_retE h2)))
theorem call16 (d : Nat) {a b c : List Nat} (sn : Sgn a b c) (w : List Nat) (hw : w.length ≤ 100) (n : Int) : ∃ x, part x ∧ callN prog (d + 1) false 16 [.str w, sg a b c, .int n] = some (.ok (.v x)) := by
  have la := sn.la
  have lb := sn.lb
  have lc := sn.lc
  have hs : seqV (.str w) = some (charsV w) := seq_str (by omega)
  have hat := fmod_in (n.fdiv 6) (((charsV w).length : Nat) + 1) (by omega)
  have em : binOp .mod (.int (n.fdiv 6)) (.int (((charsV w).length : Nat) + 1)) = some (.int ((n.fdiv 6).fmod (((charsV w).length : Nat) + 1))) := mod_pos _ _ (by omega)
  generalize hA : (n.fdiv 6).fmod (((charsV w).length : Nat) + 1) = at' at hat em
  have hcl := chars_len w
  have ea1 : binOp .add (.str a) (.str b) = some (.str (a ++ b)) := add_str (by omega)
  have ea2 : binOp .add (.str (a ++ b)) (.str c) = some (.str (a ++ b ++ c)) := add_str (by simp; omega)
  have ea3 : binOp .add (.str (a ++ b ++ c)) (.str [65]) = some (.str (a ++ b ++ c ++ [65])) := add_str (by simp; omega)
  have hev : (a ++ b ++ c ++ [65]).length ≤ 40 := by simp; omega
  have hev0 : 0 < (a ++ b ++ c ++ [65]).length := by simp; omega
  generalize a ++ b ++ c ++ [65] = ev' at ea3 hev hev0
  have hse : seqV (.str ev') = some (charsV ev') := seq_str (by omega)
  have hme : binOp .mod (.int (n.fdiv 66)) (.int ((charsV ev').length : Nat)) = some (.int ((n.fdiv 66).fmod ((charsV ev').length : Nat))) := mod_pos _ _ (by rw [chars_len]; omega)
  have hf := fmod_in (n.fdiv 66) ((charsV ev').length : Nat) (by rw [chars_len]; omega)
  obtain ⟨x, _, hx⟩ := sub_memS (l := ev') hf.1 (by have := hf.2; rw [chars_len] at this ⊢; exact this) (by omega)
  have s1 : sliceOp (.str w) none (some (.int at')) = some (.str (sliceL w none (some at'))) := slice_str (by omega) rfl (opt_int (by omega)) end_0
  have s2 : sliceOp (.str w) (some (.int at')) none = some (.str (sliceL w (some at') none)) := slice_str (by omega) (opt_int (by omega)) rfl end_n
  have s3 : sliceOp (.str w) (some (.int (at' + 1))) none = some (.str (sliceL w (some (at' + 1)) none)) := slice_str (by omega) (opt_int (by omega)) rfl end_n
  have l1 := slice_len w none (some at')
  have l2 := slice_len w (some at') none
  have l3 := slice_len w (some (at' + 1)) none
  have hr := rev_str (s := w) (by omega)
  suffices h : ∃ y, part y ∧ exs prog (callN prog d) false (f16.body.drop 3) (fr16 w a b c n at' ev' x) = some (.ok (.ret (.v y)), fr16 w a b c n at' ev' x) from by
    obtain ⟨y, hp, hy⟩ := h
    refine ⟨y, hp, fn_ret (fn := f16) (G := [.v (.str w), .v (sg a b c), .v (.int n), .v (.int at'), .v (.str ev'), .v (.str [x])]) rfl rfl ?_⟩
    refine xs_next (σ₁ := ⟨[.v (.str w), .v (sg a b c), .v (.int n), .v (.int at'), .unset, .unset]⟩) ?_ (xs_next (σ₁ := ⟨[.v (.str w), .v (sg a b c), .v (.int n), .v (.int at'), .v (.str ev'), .unset]⟩) ?_ (xs_next (σ₁ := fr16 w a b c n at' ev' x) ?_ hy))
    · show ex prog (callN prog d) false _ ⟨[.v (.str w), .v (sg a b c), .v (.int n), .unset, .unset, .unset]⟩ = _
      (repeat (first | with_reducible (first | exact hs | exact em | apply e_lit | apply e_bor | apply e_var | apply o_none | apply s_nil | apply e_dict0 | apply xs_nil | apply i_nil | apply y_nil | apply e_bin | apply e_cmp | apply e_sub | apply e_slice | apply o_some | apply s_cons | apply e_call | apply e_bi | apply e_list | apply e_tuple | apply e_not | apply e_rev | apply e_met | apply e_ite | apply e_and | apply a_one | apply a_c | apply b_not | apply b_and | apply b_or | apply b_of | apply i_c | apply y_c | apply x_assign | apply x_ownL | apply x_setItem | apply x_append | apply x_ret | apply x_retOwn | apply x_ownCall | apply x_if | exact x_raise | apply xs_retE | apply xs_retO | apply xs_ifR | apply m_ret | apply xs_next | apply xs_ret | apply r_e | apply r_1 | apply r_zip | exact add_int _ _ | exact sub_int _ _ | exact sz0 | exact sz1 _ | exact sz2 _ _ | exact sz3 _ _ _ | exact sz4 _ _ _ _ | exact sz5 _ _ _ _ _ | exact sz6 _ _ _ _ _ _ | exact sz7 _ _ _ _ _ _ _ | exact sz8 _ _ _ _ _ _ _ _ | exact sz9 _ _ _ _ _ _ _ _ _ | apply q_eq | apply q_ne | apply d_str | apply q_len) | ((with_reducible refine c_tt ?_ ?_); · exact hs) | ((with_reducible refine c_ff ?_ ?_); · exact hs) | ((with_reducible refine c_tt ?_ ?_); · exact em) | ((with_reducible refine c_ff ?_ ?_); · exact em) | ((with_reducible refine c_tt ?_ ?_); · rfl) | ((with_reducible refine c_ff ?_ ?_); · rfl) | ((with_reducible refine div_pos _ _ ?_ ?_) <;> decide) | ((with_reducible refine mod_pos _ _ ?_); decide) | rfl | (intro q; cases q)))
    · (repeat (first | with_reducible (first | exact g0 a b c | exact g1 a b c | exact g2 a b c | exact ea1 | exact ea2 | exact ea3 | apply e_lit | apply e_bor | apply e_var | apply o_none | apply s_nil | apply e_dict0 | apply xs_nil | apply i_nil | apply y_nil | apply e_bin | apply e_cmp | apply e_sub | apply e_slice | apply o_some | apply s_cons | apply e_call | apply e_bi | apply e_list | apply e_tuple | apply e_not | apply e_rev | apply e_met | apply e_ite | apply e_and | apply a_one | apply a_c | apply b_not | apply b_and | apply b_or | apply b_of | apply i_c | apply y_c | apply x_assign | apply x_ownL | apply x_setItem | apply x_append | apply x_ret | apply x_retOwn | apply x_ownCall | apply x_if | exact x_raise | apply xs_retE | apply xs_retO | apply xs_ifR | apply m_ret | apply xs_next | apply xs_ret | apply r_e | apply r_1 | apply r_zip | exact add_int _ _ | exact sub_int _ _ | exact sz0 | exact sz1 _ | exact sz2 _ _ | exact sz3 _ _ _ | exact sz4 _ _ _ _ | exact sz5 _ _ _ _ _ | exact sz6 _ _ _ _ _ _ | exact sz7 _ _ _ _ _ _ _ | exact sz8 _ _ _ _ _ _ _ _ | exact sz9 _ _ _ _ _ _ _ _ _ | apply q_eq | apply q_ne | apply d_str | apply q_len) | ((with_reducible refine c_tt ?_ ?_); · exact g0 a b c) | ((with_reducible refine c_ff ?_ ?_); · exact g0 a b c) | ((with_reducible refine c_tt ?_ ?_); · exact g1 a b c) | ((with_reducible refine c_ff ?_ ?_); · exact g1 a b c) | ((with_reducible refine c_tt ?_ ?_); · exact g2 a b c) | ((with_reducible refine c_ff ?_ ?_); · exact g2 a b c) | ((with_reducible refine c_tt ?_ ?_); · exact ea1) | ((with_reducible refine c_ff ?_ ?_); · exact ea1) | ((with_reducible refine c_tt ?_ ?_); · exact ea2) | ((with_reducible refine c_ff ?_ ?_); · exact ea2) | ((with_reducible refine c_tt ?_ ?_); · exact ea3) | ((with_reducible refine c_ff ?_ ?_); · exact ea3) | ((with_reducible refine c_tt ?_ ?_); · rfl) | ((with_reducible refine c_ff ?_ ?_); · rfl) | ((with_reducible refine div_pos _ _ ?_ ?_) <;> decide) | ((with_reducible refine mod_pos _ _ ?_); decide) | rfl | (intro q; cases q)))
    · (repeat (first | with_reducible (first | exact hse | exact hme | exact hx | apply e_lit | apply e_bor | apply e_var | apply o_none | apply s_nil | apply e_dict0 | apply xs_nil | apply i_nil | apply y_nil | apply e_bin | apply e_cmp | apply e_sub | apply e_slice | apply o_some | apply s_cons | apply e_call | apply e_bi | apply e_list | apply e_tuple | apply e_not | apply e_rev | apply e_met | apply e_ite | apply e_and | apply a_one | apply a_c | apply b_not | apply b_and | apply b_or | apply b_of | apply i_c | apply y_c | apply x_assign | apply x_ownL | apply x_setItem | apply x_append | apply x_ret | apply x_retOwn | apply x_ownCall | apply x_if | exact x_raise | apply xs_retE | apply xs_retO | apply xs_ifR | apply m_ret | apply xs_next | apply xs_ret | apply r_e | apply r_1 | apply r_zip | exact add_int _ _ | exact sub_int _ _ | exact sz0 | exact sz1 _ | exact sz2 _ _ | exact sz3 _ _ _ | exact sz4 _ _ _ _ | exact sz5 _ _ _ _ _ | exact sz6 _ _ _ _ _ _ | exact sz7 _ _ _ _ _ _ _ | exact sz8 _ _ _ _ _ _ _ _ | exact sz9 _ _ _ _ _ _ _ _ _ | apply q_eq | apply q_ne | apply d_str | apply q_len) | ((with_reducible refine c_tt ?_ ?_); · exact hse) | ((with_reducible refine c_ff ?_ ?_); · exact hse) | ((with_reducible refine c_tt ?_ ?_); · exact hme) | ((with_reducible refine c_ff ?_ ?_); · exact hme) | ((with_reducible refine c_tt ?_ ?_); · exact hx) | ((with_reducible refine c_ff ?_ ?_); · exact hx) | ((with_reducible refine c_tt ?_ ?_); · rfl) | ((with_reducible refine c_ff ?_ ?_); · rfl) | ((with_reducible refine div_pos _ _ ?_ ?_) <;> decide) | ((with_reducible refine mod_pos _ _ ?_); decide) | rfl | (intro q; cases q)))
  simp only [f16, List.drop]
  cases c1 : eqV (.int (n.fmod 6)) (.int 1) with
  | true =>
    have q1 : binOp .add (.str (sliceL w none (some at'))) (.str [x]) = some (.str (sliceL w none (some at') ++ [x])) := add_str (by simp; omega)
    have q2 : binOp .add (.str (sliceL w none (some at') ++ [x])) (.str (sliceL w (some at') none)) = some (.str (sliceL w none (some at') ++ [x] ++ sliceL w (some at') none)) := add_str (by simp; omega)
    refine ⟨.str (sliceL w none (some at') ++ [x] ++ sliceL w (some at') none), by simp [part]; omega, ?_⟩
    exact yes16 1 _ _ c1 (by (repeat (first | with_reducible (first | exact s1 | exact s2 | exact q1 | exact q2 | apply e_lit | apply e_bor | apply e_var | apply o_none | apply s_nil | apply e_dict0 | apply xs_nil | apply i_nil | apply y_nil | apply e_bin | apply e_cmp | apply e_sub | apply e_slice | apply o_some | apply s_cons | apply e_call | apply e_bi | apply e_list | apply e_tuple | apply e_not | apply e_rev | apply e_met | apply e_ite | apply e_and | apply a_one | apply a_c | apply b_not | apply b_and | apply b_or | apply b_of | apply i_c | apply y_c | apply x_assign | apply x_ownL | apply x_setItem | apply x_append | apply x_ret | apply x_retOwn | apply x_ownCall | apply x_if | exact x_raise | apply xs_retE | apply xs_retO | apply xs_ifR | apply m_ret | apply xs_next | apply xs_ret | apply r_e | apply r_1 | apply r_zip | exact add_int _ _ | exact sub_int _ _ | exact sz0 | exact sz1 _ | exact sz2 _ _ | exact sz3 _ _ _ | exact sz4 _ _ _ _ | exact sz5 _ _ _ _ _ | exact sz6 _ _ _ _ _ _ | exact sz7 _ _ _ _ _ _ _ | exact sz8 _ _ _ _ _ _ _ _ | exact sz9 _ _ _ _ _ _ _ _ _ | apply q_eq | apply q_ne | apply d_str | apply q_len) | ((with_reducible refine c_tt ?_ ?_); · exact s1) | ((with_reducible refine c_ff ?_ ?_); · exact s1) | ((with_reducible refine c_tt ?_ ?_); · exact s2) | ((with_reducible refine c_ff ?_ ?_); · exact s2) | ((with_reducible refine c_tt ?_ ?_); · exact q1) | ((with_reducible refine c_ff ?_ ?_); · exact q1) | ((with_reducible refine c_tt ?_ ?_); · exact q2) | ((with_reducible refine c_ff ?_ ?_); · exact q2) | ((with_reducible refine c_tt ?_ ?_); · rfl) | ((with_reducible refine c_ff ?_ ?_); · rfl) | ((with_reducible refine div_pos _ _ ?_ ?_) <;> decide) | ((with_reducible refine mod_pos _ _ ?_); decide) | rfl | (intro q; cases q))))
  | false =>
  refine nx16 1 _ _ c1 ?_
  cases c2 : eqV (.int (n.fmod 6)) (.int 2) with
  | true =>
    have q1 : binOp .add (.str (sliceL w none (some at'))) (.str (sliceL w (some (at' + 1)) none)) = some (.str (sliceL w none (some at') ++ sliceL w (some (at' + 1)) none)) := add_str (by omega)
    refine ⟨.str (sliceL w none (some at') ++ sliceL w (some (at' + 1)) none), by simp [part]; omega, ?_⟩
    exact yes16 2 _ _ c2 (by (repeat (first | with_reducible (first | exact s1 | exact s3 | exact q1 | apply e_lit | apply e_bor | apply e_var | apply o_none | apply s_nil | apply e_dict0 | apply xs_nil | apply i_nil | apply y_nil | apply e_bin | apply e_cmp | apply e_sub | apply e_slice | apply o_some | apply s_cons | apply e_call | apply e_bi | apply e_list | apply e_tuple | apply e_not | apply e_rev | apply e_met | apply e_ite | apply e_and | apply a_one | apply a_c | apply b_not | apply b_and | apply b_or | apply b_of | apply i_c | apply y_c | apply x_assign | apply x_ownL | apply x_setItem | apply x_append | apply x_ret | apply x_retOwn | apply x_ownCall | apply x_if | exact x_raise | apply xs_retE | apply xs_retO | apply xs_ifR | apply m_ret | apply xs_next | apply xs_ret | apply r_e | apply r_1 | apply r_zip | exact add_int _ _ | exact sub_int _ _ | exact sz0 | exact sz1 _ | exact sz2 _ _ | exact sz3 _ _ _ | exact sz4 _ _ _ _ | exact sz5 _ _ _ _ _ | exact sz6 _ _ _ _ _ _ | exact sz7 _ _ _ _ _ _ _ | exact sz8 _ _ _ _ _ _ _ _ | exact sz9 _ _ _ _ _ _ _ _ _ | apply q_eq | apply q_ne | apply d_str | apply q_len) | ((with_reducible refine c_tt ?_ ?_); · exact s1) | ((with_reducible refine c_ff ?_ ?_); · exact s1) | ((with_reducible refine c_tt ?_ ?_); · exact s3) | ((with_reducible refine c_ff ?_ ?_); · exact s3) | ((with_reducible refine c_tt ?_ ?_); · exact q1) | ((with_reducible refine c_ff ?_ ?_); · exact q1) | ((with_reducible refine c_tt ?_ ?_); · rfl) | ((with_reducible refine c_ff ?_ ?_); · rfl) | ((with_reducible refine div_pos _ _ ?_ ?_) <;> decide) | ((with_reducible refine mod_pos _ _ ?_); decide) | rfl | (intro q; cases q))))
  | false =>
  refine nx16 2 _ _ c2 ?_
  cases c3 : eqV (.int (n.fmod 6)) (.int 3) with
  | true =>
    have q1 : binOp .add (.str (sliceL w none (some at'))) (.str [x]) = some (.str (sliceL w none (some at') ++ [x])) := add_str (by simp; omega)
    have q2 : binOp .add (.str (sliceL w none (some at') ++ [x])) (.str (sliceL w (some (at' + 1)) none)) = some (.str (sliceL w none (some at') ++ [x] ++ sliceL w (some (at' + 1)) none)) := add_str (by simp; omega)
    refine ⟨.str (sliceL w none (some at') ++ [x] ++ sliceL w (some (at' + 1)) none), by simp [part]; omega, ?_⟩
    exact yes16 3 _ _ c3 (by (repeat (first | with_reducible (first | exact s1 | exact s3 | exact q1 | exact q2 | apply e_lit | apply e_bor | apply e_var | apply o_none | apply s_nil | apply e_dict0 | apply xs_nil | apply i_nil | apply y_nil | apply e_bin | apply e_cmp | apply e_sub | apply e_slice | apply o_some | apply s_cons | apply e_call | apply e_bi | apply e_list | apply e_tuple | apply e_not | apply e_rev | apply e_met | apply e_ite | apply e_and | apply a_one | apply a_c | apply b_not | apply b_and | apply b_or | apply b_of | apply i_c | apply y_c | apply x_assign | apply x_ownL | apply x_setItem | apply x_append | apply x_ret | apply x_retOwn | apply x_ownCall | apply x_if | exact x_raise | apply xs_retE | apply xs_retO | apply xs_ifR | apply m_ret | apply xs_next | apply xs_ret | apply r_e | apply r_1 | apply r_zip | exact add_int _ _ | exact sub_int _ _ | exact sz0 | exact sz1 _ | exact sz2 _ _ | exact sz3 _ _ _ | exact sz4 _ _ _ _ | exact sz5 _ _ _ _ _ | exact sz6 _ _ _ _ _ _ | exact sz7 _ _ _ _ _ _ _ | exact sz8 _ _ _ _ _ _ _ _ | exact sz9 _ _ _ _ _ _ _ _ _ | apply q_eq | apply q_ne | apply d_str | apply q_len) | ((with_reducible refine c_tt ?_ ?_); · exact s1) | ((with_reducible refine c_ff ?_ ?_); · exact s1) | ((with_reducible refine c_tt ?_ ?_); · exact s3) | ((with_reducible refine c_ff ?_ ?_); · exact s3) | ((with_reducible refine c_tt ?_ ?_); · exact q1) | ((with_reducible refine c_ff ?_ ?_); · exact q1) | ((with_reducible refine c_tt ?_ ?_); · exact q2) | ((with_reducible refine c_ff ?_ ?_); · exact q2) | ((with_reducible refine c_tt ?_ ?_); · rfl) | ((with_reducible refine c_ff ?_ ?_); · rfl) | ((with_reducible refine div_pos _ _ ?_ ?_) <;> decide) | ((with_reducible refine mod_pos _ _ ?_); decide) | rfl | (intro q; cases q))))
  | false =>
  refine nx16 3 _ _ c3 ?_
  cases c4 : eqV (.int (n.fmod 6)) (.int 4) with
  | true =>
    have q1 : binOp .add (.str w) (.str [10]) = some (.str (w ++ [10])) := add_str (by simp; omega)
    have q2 : binOp .add (.str w) (.str [32]) = some (.str (w ++ [32])) := add_str (by simp; omega)
    have hli : biOp prog false .listOf [.str w] = some (.list (charsV w)) := by
      show (seqV (.str w)).map V.list = _
      rw [hs]; rfl
    have hf8 := fmod_in (n.fdiv 6) 8 (by decide)
    obtain ⟨y, hy, ey⟩ := sub_mem (l := [.none, .int 5, .bool true, .list (charsV w), .tuple [.str w], .dict, .str (w ++ [10]), .str (w ++ [32])]) hf8.1 hf8.2 (by show 8 ≤ 1000; decide)
    refine ⟨y, ?_, ?_⟩
    · simp only [List.mem_cons, List.not_mem_nil, or_false] at hy
      rcases hy with rfl | rfl | rfl | rfl | rfl | rfl | rfl | rfl <;> first | trivial | (simp [part]; omega)
    · exact yes16 4 _ _ c4 (by (repeat (first | with_reducible (first | exact hli | exact q1 | exact q2 | exact ey | apply e_lit | apply e_bor | apply e_var | apply o_none | apply s_nil | apply e_dict0 | apply xs_nil | apply i_nil | apply y_nil | apply e_bin | apply e_cmp | apply e_sub | apply e_slice | apply o_some | apply s_cons | apply e_call | apply e_bi | apply e_list | apply e_tuple | apply e_not | apply e_rev | apply e_met | apply e_ite | apply e_and | apply a_one | apply a_c | apply b_not | apply b_and | apply b_or | apply b_of | apply i_c | apply y_c | apply x_assign | apply x_ownL | apply x_setItem | apply x_append | apply x_ret | apply x_retOwn | apply x_ownCall | apply x_if | exact x_raise | apply xs_retE | apply xs_retO | apply xs_ifR | apply m_ret | apply xs_next | apply xs_ret | apply r_e | apply r_1 | apply r_zip | exact add_int _ _ | exact sub_int _ _ | exact sz0 | exact sz1 _ | exact sz2 _ _ | exact sz3 _ _ _ | exact sz4 _ _ _ _ | exact sz5 _ _ _ _ _ | exact sz6 _ _ _ _ _ _ | exact sz7 _ _ _ _ _ _ _ | exact sz8 _ _ _ _ _ _ _ _ | exact sz9 _ _ _ _ _ _ _ _ _ | apply q_eq | apply q_ne | apply d_str | apply q_len) | ((with_reducible refine c_tt ?_ ?_); · exact hli) | ((with_reducible refine c_ff ?_ ?_); · exact hli) | ((with_reducible refine c_tt ?_ ?_); · exact q1) | ((with_reducible refine c_ff ?_ ?_); · exact q1) | ((with_reducible refine c_tt ?_ ?_); · exact q2) | ((with_reducible refine c_ff ?_ ?_); · exact q2) | ((with_reducible refine c_tt ?_ ?_); · exact ey) | ((with_reducible refine c_ff ?_ ?_); · exact ey) | ((with_reducible refine c_tt ?_ ?_); · rfl) | ((with_reducible refine c_ff ?_ ?_); · rfl) | ((with_reducible refine div_pos _ _ ?_ ?_) <;> decide) | ((with_reducible refine mod_pos _ _ ?_); decide) | rfl | (intro q; cases q))))
  | false =>
  refine nx16 4 _ _ c4 ?_
  cases c5 : eqV (.int (n.fmod 6)) (.int 5) with
  | true =>
    refine ⟨.str w.reverse, by simp [part]; omega, ?_⟩
    exact yes16 5 _ _ c5 (by (repeat (first | with_reducible (first | exact hr | apply e_lit | apply e_bor | apply e_var | apply o_none | apply s_nil | apply e_dict0 | apply xs_nil | apply i_nil | apply y_nil | apply e_bin | apply e_cmp | apply e_sub | apply e_slice | apply o_some | apply s_cons | apply e_call | apply e_bi | apply e_list | apply e_tuple | apply e_not | apply e_rev | apply e_met | apply e_ite | apply e_and | apply a_one | apply a_c | apply b_not | apply b_and | apply b_or | apply b_of | apply i_c | apply y_c | apply x_assign | apply x_ownL | apply x_setItem | apply x_append | apply x_ret | apply x_retOwn | apply x_ownCall | apply x_if | exact x_raise | apply xs_retE | apply xs_retO | apply xs_ifR | apply m_ret | apply xs_next | apply xs_ret | apply r_e | apply r_1 | apply r_zip | exact add_int _ _ | exact sub_int _ _ | exact sz0 | exact sz1 _ | exact sz2 _ _ | exact sz3 _ _ _ | exact sz4 _ _ _ _ | exact sz5 _ _ _ _ _ | exact sz6 _ _ _ _ _ _ | exact sz7 _ _ _ _ _ _ _ | exact sz8 _ _ _ _ _ _ _ _ | exact sz9 _ _ _ _ _ _ _ _ _ | apply q_eq | apply q_ne | apply d_str | apply q_len) | ((with_reducible refine c_tt ?_ ?_); · exact hr) | ((with_reducible refine c_ff ?_ ?_); · exact hr) | ((with_reducible refine c_tt ?_ ?_); · rfl) | ((with_reducible refine c_ff ?_ ?_); · rfl) | ((with_reducible refine div_pos _ _ ?_ ?_) <;> decide) | ((with_reducible refine mod_pos _ _ ?_); decide) | rfl | (intro q; cases q))))
  | false =>
  refine nx16 5 _ _ c5 ?_
  exact ⟨.str w, show w.length ≤ 1000 by omega, by (repeat (first | with_reducible (first | apply e_lit | apply e_bor | apply e_var | apply o_none | apply s_nil | apply e_dict0 | apply xs_nil | apply i_nil | apply y_nil | apply e_bin | apply e_cmp | apply e_sub | apply e_slice | apply o_some | apply s_cons | apply e_call | apply e_bi | apply e_list | apply e_tuple | apply e_not | apply e_rev | apply e_met | apply e_ite | apply e_and | apply a_one | apply a_c | apply b_not | apply b_and | apply b_or | apply b_of | apply i_c | apply y_c | apply x_assign | apply x_ownL | apply x_setItem | apply x_append | apply x_ret | apply x_retOwn | apply x_ownCall | apply x_if | exact x_raise | apply xs_retE | apply xs_retO | apply xs_ifR | apply m_ret | apply xs_next | apply xs_ret | apply r_e | apply r_1 | apply r_zip | exact add_int _ _ | exact sub_int _ _ | exact sz0 | exact sz1 _ | exact sz2 _ _ | exact sz3 _ _ _ | exact sz4 _ _ _ _ | exact sz5 _ _ _ _ _ | exact sz6 _ _ _ _ _ _ | exact sz7 _ _ _ _ _ _ _ | exact sz8 _ _ _ _ _ _ _ _ | exact sz9 _ _ _ _ _ _ _ _ _ | apply q_eq | apply q_ne | apply d_str | apply q_len) | ((with_reducible refine c_tt ?_ ?_); · rfl) | ((with_reducible refine c_ff ?_ ?_); · rfl) | ((with_reducible refine div_pos _ _ ?_ ?_) <;> decide) | ((with_reducible refine mod_pos _ _ ?_); decide) | rfl | (intro q; cases q)))⟩

end Mine.L01
end

noncomputable section
set_option maxRecDepth 100000
set_option linter.unusedSimpArgs false
set_option linter.unusedVariables false
namespace Mine.L01
open Mine.Pl
/-! texts -/
theorem el11 (cf : CallF) (sc : V) (fi at' : Int) (ts k m p o q r : Slot) (j : Nat) : ∃ y, (∃ c, low c = true ∧ y = .str [c]) ∧
    ev prog cf false f11b0 ⟨[.v sc, .v (.str abc), .v (.int fi), ts, .v (.int at'), k, m, p, o, q, r, .v (.int (0 + j))]⟩ = some (.ok y, ⟨[.v sc, .v (.str abc), .v (.int fi), ts, .v (.int at'), k, m, p, o, q, r, .v (.int (0 + j))]⟩) := by
  have hf := fmod_in (at' + (0 + j)) 26 (by decide)
  obtain ⟨c, hc, e⟩ := sub_memS (l := abc) hf.1 (by rw [abc_len]; exact hf.2) (by decide)
  refine ⟨_, ⟨c, low_abc hc, rfl⟩, ?_⟩
  simp only [f11b0]; (repeat (first | with_reducible (first | exact e | apply e_lit | apply e_bor | apply e_var | apply o_none | apply s_nil | apply e_dict0 | apply xs_nil | apply i_nil | apply y_nil | apply e_bin | apply e_cmp | apply e_sub | apply e_slice | apply o_some | apply s_cons | apply e_call | apply e_bi | apply e_list | apply e_tuple | apply e_not | apply e_rev | apply e_met | apply e_ite | apply e_and | apply a_one | apply a_c | apply b_not | apply b_and | apply b_or | apply b_of | apply i_c | apply y_c | apply x_assign | apply x_ownL | apply x_setItem | apply x_append | apply x_ret | apply x_retOwn | apply x_ownCall | apply x_if | exact x_raise | apply xs_retE | apply xs_retO | apply xs_ifR | apply m_ret | apply xs_next | apply xs_ret | apply r_e | apply r_1 | apply r_zip | exact add_int _ _ | exact sub_int _ _ | exact sz0 | exact sz1 _ | exact sz2 _ _ | exact sz3 _ _ _ | exact sz4 _ _ _ _ | exact sz5 _ _ _ _ _ | exact sz6 _ _ _ _ _ _ | exact sz7 _ _ _ _ _ _ _ | exact sz8 _ _ _ _ _ _ _ _ | exact sz9 _ _ _ _ _ _ _ _ _ | apply q_eq | apply q_ne | apply d_str | apply q_len) | ((with_reducible refine c_tt ?_ ?_); · exact e) | ((with_reducible refine c_ff ?_ ?_); · exact e) | ((with_reducible refine c_tt ?_ ?_); · rfl) | ((with_reducible refine c_ff ?_ ?_); · rfl) | ((with_reducible refine div_pos _ _ ?_ ?_) <;> decide) | ((with_reducible refine mod_pos _ _ ?_); decide) | rfl | (intro q; cases q)))
theorem step11 (d : Nat) (scr : List Int) (hs : scr.length ≤ 63) (fi at' : Int) (ts : List V) (hts : ts.length ≤ 5) (k : Int) (hk : k = 0 ∨ k = 1 ∨ k = 2) (m p o q r : Slot) :
    ∃ (t : List Nat) (mm : Int) (at'' : Int), t.length ≤ 5 ∧ exs prog (callN prog (d + 1)) false f11b1 ⟨[.v (.list (scr.map .int)), .v (.str abc), .v (.int fi), .ownL ts, .v (.int at'), .v (.int k), m, p, o, q, r, .unset]⟩ =
      some (.ok .next, ⟨[.v (.list (scr.map .int)), .v (.str abc), .v (.int fi), .ownL (ts ++ [.str t]), .v (.int at''), .v (.int k), .v (.int mm), p, o, q, r, .unset]⟩) := by
  have c1 : callN prog (d + 1) false 6 [.list (scr.map .int), .int 1] = some (.ok (.v (.int (cellAt scr 1)))) := call6 d false scr 1 (by decide) hs
  obtain ⟨dv, hd0, hd1, hsub⟩ : ∃ dv : Int, 0 < dv ∧ dv ≤ 1000000 ∧ subOp (.list [.int 1, .int 6, .int 36]) (.int k) = some (.int dv) := by
    rcases hk with rfl | rfl | rfl
    · exact ⟨1, by decide, by decide, rfl⟩
    · exact ⟨6, by decide, by decide, rfl⟩
    · exact ⟨36, by decide, by decide, rfl⟩
  have hm := fmod_in ((cellAt scr 1).fdiv dv) 6 (by decide)
  generalize hM : ((cellAt scr 1).fdiv dv).fmod 6 = mm at hm
  obtain ⟨ys, z, hl, hy, hcomp⟩ := compL_all (el := ev prog (callN prog (d + 1)) false f11b0) (k := 11) (Q := fun y => ∃ c, low c = true ∧ y = .str [c])
    (σ := ⟨[.v (.list (scr.map .int)), .v (.str abc), .v (.int fi), .ownL ts, .v (.int at'), .v (.int k), .v (.int mm), p, o, q, r, .unset]⟩) (rangeL 0 mm) .unset (fun x hx => by
    obtain ⟨j, h | h⟩ := range_mem hx
    · obtain ⟨rfl, _⟩ := h
      exact el11 (callN prog (d + 1)) (.list (scr.map .int)) fi at' (.ownL ts) (.v (.int k)) (.v (.int mm)) p o q r j
    · exact h.elim)
  obtain ⟨t, rfl, ht⟩ := chars_of hy
  have htl : t.length ≤ 5 := by rw [chars_len, range_len] at hl; omega
  have hsrc : evSrc prog (callN prog (d + 1)) false (.range [(.var 6)]) ⟨[.v (.list (scr.map .int)), .v (.str abc), .v (.int fi), .ownL ts, .v (.int at'), .v (.int k), .v (.int mm), p, o, q, r, .unset]⟩ = some (.ok (rangeL 0 mm), ⟨[.v (.list (scr.map .int)), .v (.str abc), .v (.int fi), .ownL ts, .v (.int at'), .v (.int k), .v (.int mm), p, o, q, r, .unset]⟩) := by
    have hr := range_in (show (0 : Int) ≤ 0 by decide) hm.1 (show mm ≤ 1000 by omega)
    (repeat (first | with_reducible (first | exact hr | apply e_lit | apply e_bor | apply e_var | apply o_none | apply s_nil | apply e_dict0 | apply xs_nil | apply i_nil | apply y_nil | apply e_bin | apply e_cmp | apply e_sub | apply e_slice | apply o_some | apply s_cons | apply e_call | apply e_bi | apply e_list | apply e_tuple | apply e_not | apply e_rev | apply e_met | apply e_ite | apply e_and | apply a_one | apply a_c | apply b_not | apply b_and | apply b_or | apply b_of | apply i_c | apply y_c | apply x_assign | apply x_ownL | apply x_setItem | apply x_append | apply x_ret | apply x_retOwn | apply x_ownCall | apply x_if | exact x_raise | apply xs_retE | apply xs_retO | apply xs_ifR | apply m_ret | apply xs_next | apply xs_ret | apply r_e | apply r_1 | apply r_zip | exact add_int _ _ | exact sub_int _ _ | exact sz0 | exact sz1 _ | exact sz2 _ _ | exact sz3 _ _ _ | exact sz4 _ _ _ _ | exact sz5 _ _ _ _ _ | exact sz6 _ _ _ _ _ _ | exact sz7 _ _ _ _ _ _ _ | exact sz8 _ _ _ _ _ _ _ _ | exact sz9 _ _ _ _ _ _ _ _ _ | apply q_eq | apply q_ne | apply d_str | apply q_len) | ((with_reducible refine c_tt ?_ ?_); · exact hr) | ((with_reducible refine c_ff ?_ ?_); · exact hr) | ((with_reducible refine c_tt ?_ ?_); · rfl) | ((with_reducible refine c_ff ?_ ?_); · rfl) | ((with_reducible refine div_pos _ _ ?_ ?_) <;> decide) | ((with_reducible refine mod_pos _ _ ?_); decide) | rfl | (intro q; cases q)))
  have hc := ev_comp (σ := ⟨[.v (.list (scr.map .int)), .v (.str abc), .v (.int fi), .ownL ts, .v (.int at'), .v (.int k), .v (.int mm), p, o, q, r, .unset]⟩) hsrc hcomp
  have hj : biOp prog false .join [.str [], .list (charsV t)] = some (.str t) := join_chars (by omega)
  have hlt : (ts.length < szLine) = True := eq_true (Nat.lt_of_lt_of_le (show ts.length < 1000 by omega) (sz_of (n := 1000) (by decide)))
  obtain ⟨bb, hand⟩ : ∃ bb, ev prog (callN prog (d + 1)) false (.and [(.cmp .eq (.bin .mod (.bin .div (.bor 2) (.lit (.int 26))) (.lit (.int 5))) (.bor 5)), (.cmp .gt (.bor 6) (.lit (.int 0)))]) ⟨[.v (.list (scr.map .int)), .v (.str abc), .v (.int fi), .ownL (ts ++ [.str t]), .v (.int at'), .v (.int k), .v (.int mm), p, o, q, r, .unset]⟩ = some (.ok (.bool bb), ⟨[.v (.list (scr.map .int)), .v (.str abc), .v (.int fi), .ownL (ts ++ [.str t]), .v (.int at'), .v (.int k), .v (.int mm), p, o, q, r, .unset]⟩) := by
    cases h : eqV (.int ((fi.fdiv 26).fmod 5)) (.int k) with
    | false => exact ⟨false, e_and (a_c (t := eqV (.int ((fi.fdiv 26).fmod 5)) (.int k)) (σ₁ := ⟨[.v (.list (scr.map .int)), .v (.str abc), .v (.int fi), .ownL (ts ++ [.str t]), .v (.int at'), .v (.int k), .v (.int mm), p, o, q, r, .unset]⟩) (by (repeat (first | with_reducible (first | apply e_lit | apply e_bor | apply e_var | apply o_none | apply s_nil | apply e_dict0 | apply xs_nil | apply i_nil | apply y_nil | apply e_bin | apply e_cmp | apply e_sub | apply e_slice | apply o_some | apply s_cons | apply e_call | apply e_bi | apply e_list | apply e_tuple | apply e_not | apply e_rev | apply e_met | apply e_ite | apply e_and | apply a_one | apply a_c | apply b_not | apply b_and | apply b_or | apply b_of | apply i_c | apply y_c | apply x_assign | apply x_ownL | apply x_setItem | apply x_append | apply x_ret | apply x_retOwn | apply x_ownCall | apply x_if | exact x_raise | apply xs_retE | apply xs_retO | apply xs_ifR | apply m_ret | apply xs_next | apply xs_ret | apply r_e | apply r_1 | apply r_zip | exact add_int _ _ | exact sub_int _ _ | exact sz0 | exact sz1 _ | exact sz2 _ _ | exact sz3 _ _ _ | exact sz4 _ _ _ _ | exact sz5 _ _ _ _ _ | exact sz6 _ _ _ _ _ _ | exact sz7 _ _ _ _ _ _ _ | exact sz8 _ _ _ _ _ _ _ _ | exact sz9 _ _ _ _ _ _ _ _ _ | apply q_eq | apply q_ne | apply d_str | apply q_len) | ((with_reducible refine c_tt ?_ ?_); · rfl) | ((with_reducible refine c_ff ?_ ?_); · rfl) | ((with_reducible refine div_pos _ _ ?_ ?_) <;> decide) | ((with_reducible refine mod_pos _ _ ?_); decide) | rfl | (intro q; cases q)))) (c_ff h rfl))⟩
    | true => exact ⟨decide (0 < mm), e_and (a_c (t := eqV (.int ((fi.fdiv 26).fmod 5)) (.int k)) (σ₁ := ⟨[.v (.list (scr.map .int)), .v (.str abc), .v (.int fi), .ownL (ts ++ [.str t]), .v (.int at'), .v (.int k), .v (.int mm), p, o, q, r, .unset]⟩) (by (repeat (first | with_reducible (first | apply e_lit | apply e_bor | apply e_var | apply o_none | apply s_nil | apply e_dict0 | apply xs_nil | apply i_nil | apply y_nil | apply e_bin | apply e_cmp | apply e_sub | apply e_slice | apply o_some | apply s_cons | apply e_call | apply e_bi | apply e_list | apply e_tuple | apply e_not | apply e_rev | apply e_met | apply e_ite | apply e_and | apply a_one | apply a_c | apply b_not | apply b_and | apply b_or | apply b_of | apply i_c | apply y_c | apply x_assign | apply x_ownL | apply x_setItem | apply x_append | apply x_ret | apply x_retOwn | apply x_ownCall | apply x_if | exact x_raise | apply xs_retE | apply xs_retO | apply xs_ifR | apply m_ret | apply xs_next | apply xs_ret | apply r_e | apply r_1 | apply r_zip | exact add_int _ _ | exact sub_int _ _ | exact sz0 | exact sz1 _ | exact sz2 _ _ | exact sz3 _ _ _ | exact sz4 _ _ _ _ | exact sz5 _ _ _ _ _ | exact sz6 _ _ _ _ _ _ | exact sz7 _ _ _ _ _ _ _ | exact sz8 _ _ _ _ _ _ _ _ | exact sz9 _ _ _ _ _ _ _ _ _ | apply q_eq | apply q_ne | apply d_str | apply q_len) | ((with_reducible refine c_tt ?_ ?_); · rfl) | ((with_reducible refine c_ff ?_ ?_); · rfl) | ((with_reducible refine div_pos _ _ ?_ ?_) <;> decide) | ((with_reducible refine mod_pos _ _ ?_); decide) | rfl | (intro q; cases q)))) (c_tt h (a_one (by (repeat (first | with_reducible (first | apply e_lit | apply e_bor | apply e_var | apply o_none | apply s_nil | apply e_dict0 | apply xs_nil | apply i_nil | apply y_nil | apply e_bin | apply e_cmp | apply e_sub | apply e_slice | apply o_some | apply s_cons | apply e_call | apply e_bi | apply e_list | apply e_tuple | apply e_not | apply e_rev | apply e_met | apply e_ite | apply e_and | apply a_one | apply a_c | apply b_not | apply b_and | apply b_or | apply b_of | apply i_c | apply y_c | apply x_assign | apply x_ownL | apply x_setItem | apply x_append | apply x_ret | apply x_retOwn | apply x_ownCall | apply x_if | exact x_raise | apply xs_retE | apply xs_retO | apply xs_ifR | apply m_ret | apply xs_next | apply xs_ret | apply r_e | apply r_1 | apply r_zip | exact add_int _ _ | exact sub_int _ _ | exact sz0 | exact sz1 _ | exact sz2 _ _ | exact sz3 _ _ _ | exact sz4 _ _ _ _ | exact sz5 _ _ _ _ _ | exact sz6 _ _ _ _ _ _ | exact sz7 _ _ _ _ _ _ _ | exact sz8 _ _ _ _ _ _ _ _ | exact sz9 _ _ _ _ _ _ _ _ _ | apply q_eq | apply q_ne | apply d_str | apply q_len) | ((with_reducible refine c_tt ?_ ?_); · rfl) | ((with_reducible refine c_ff ?_ ?_); · rfl) | ((with_reducible refine div_pos _ _ ?_ ?_) <;> decide) | ((with_reducible refine mod_pos _ _ ?_); decide) | rfl | (intro q; cases q)))))))⟩
  have hint : biOp prog false .intOf [.bool bb] = some (.int (if bb = true then 1 else 0)) := rfl
  refine ⟨t, mm, at' + mm - (if bb = true then 1 else 0), htl, ?_⟩
  simp only [f11b1]
  refine xs_next (σ₁ := ⟨[.v (.list (scr.map .int)), .v (.str abc), .v (.int fi), .ownL ts, .v (.int at'), .v (.int k), .v (.int mm), p, o, q, r, .unset]⟩) (by
    rw [← hM]
    (repeat (first | with_reducible (first | exact c1 | exact hsub | exact div_pos _ _ hd0 hd1 | apply e_lit | apply e_bor | apply e_var | apply o_none | apply s_nil | apply e_dict0 | apply xs_nil | apply i_nil | apply y_nil | apply e_bin | apply e_cmp | apply e_sub | apply e_slice | apply o_some | apply s_cons | apply e_call | apply e_bi | apply e_list | apply e_tuple | apply e_not | apply e_rev | apply e_met | apply e_ite | apply e_and | apply a_one | apply a_c | apply b_not | apply b_and | apply b_or | apply b_of | apply i_c | apply y_c | apply x_assign | apply x_ownL | apply x_setItem | apply x_append | apply x_ret | apply x_retOwn | apply x_ownCall | apply x_if | exact x_raise | apply xs_retE | apply xs_retO | apply xs_ifR | apply m_ret | apply xs_next | apply xs_ret | apply r_e | apply r_1 | apply r_zip | exact add_int _ _ | exact sub_int _ _ | exact sz0 | exact sz1 _ | exact sz2 _ _ | exact sz3 _ _ _ | exact sz4 _ _ _ _ | exact sz5 _ _ _ _ _ | exact sz6 _ _ _ _ _ _ | exact sz7 _ _ _ _ _ _ _ | exact sz8 _ _ _ _ _ _ _ _ | exact sz9 _ _ _ _ _ _ _ _ _ | apply q_eq | apply q_ne | apply d_str | apply q_len) | ((with_reducible refine c_tt ?_ ?_); · exact c1) | ((with_reducible refine c_ff ?_ ?_); · exact c1) | ((with_reducible refine c_tt ?_ ?_); · exact hsub) | ((with_reducible refine c_ff ?_ ?_); · exact hsub) | ((with_reducible refine c_tt ?_ ?_); · exact div_pos _ _ hd0 hd1) | ((with_reducible refine c_ff ?_ ?_); · exact div_pos _ _ hd0 hd1) | ((with_reducible refine c_tt ?_ ?_); · rfl) | ((with_reducible refine c_ff ?_ ?_); · rfl) | ((with_reducible refine div_pos _ _ ?_ ?_) <;> decide) | ((with_reducible refine mod_pos _ _ ?_); decide) | rfl | (intro q; cases q)))) ?_
  refine xs_next (σ₁ := ⟨[.v (.list (scr.map .int)), .v (.str abc), .v (.int fi), .ownL (ts ++ [.str t]), .v (.int at'), .v (.int k), .v (.int mm), p, o, q, r, .unset]⟩) (by (repeat (first | with_reducible (first | exact hc | exact hj | exact hlt | apply e_lit | apply e_bor | apply e_var | apply o_none | apply s_nil | apply e_dict0 | apply xs_nil | apply i_nil | apply y_nil | apply e_bin | apply e_cmp | apply e_sub | apply e_slice | apply o_some | apply s_cons | apply e_call | apply e_bi | apply e_list | apply e_tuple | apply e_not | apply e_rev | apply e_met | apply e_ite | apply e_and | apply a_one | apply a_c | apply b_not | apply b_and | apply b_or | apply b_of | apply i_c | apply y_c | apply x_assign | apply x_ownL | apply x_setItem | apply x_append | apply x_ret | apply x_retOwn | apply x_ownCall | apply x_if | exact x_raise | apply xs_retE | apply xs_retO | apply xs_ifR | apply m_ret | apply xs_next | apply xs_ret | apply r_e | apply r_1 | apply r_zip | exact add_int _ _ | exact sub_int _ _ | exact sz0 | exact sz1 _ | exact sz2 _ _ | exact sz3 _ _ _ | exact sz4 _ _ _ _ | exact sz5 _ _ _ _ _ | exact sz6 _ _ _ _ _ _ | exact sz7 _ _ _ _ _ _ _ | exact sz8 _ _ _ _ _ _ _ _ | exact sz9 _ _ _ _ _ _ _ _ _ | apply q_eq | apply q_ne | apply d_str | apply q_len) | ((with_reducible refine c_tt ?_ ?_); · exact hc) | ((with_reducible refine c_ff ?_ ?_); · exact hc) | ((with_reducible refine c_tt ?_ ?_); · exact hj) | ((with_reducible refine c_ff ?_ ?_); · exact hj) | ((with_reducible refine c_tt ?_ ?_); · exact hlt) | ((with_reducible refine c_ff ?_ ?_); · exact hlt) | ((with_reducible refine c_tt ?_ ?_); · rfl) | ((with_reducible refine c_ff ?_ ?_); · rfl) | ((with_reducible refine div_pos _ _ ?_ ?_) <;> decide) | ((with_reducible refine mod_pos _ _ ?_); decide) | rfl | (intro q; cases q)))) ?_
  (repeat (first | with_reducible (first | exact hand | exact hint | apply e_lit | apply e_bor | apply e_var | apply o_none | apply s_nil | apply e_dict0 | apply xs_nil | apply i_nil | apply y_nil | apply e_bin | apply e_cmp | apply e_sub | apply e_slice | apply o_some | apply s_cons | apply e_call | apply e_bi | apply e_list | apply e_tuple | apply e_not | apply e_rev | apply e_met | apply e_ite | apply e_and | apply a_one | apply a_c | apply b_not | apply b_and | apply b_or | apply b_of | apply i_c | apply y_c | apply x_assign | apply x_ownL | apply x_setItem | apply x_append | apply x_ret | apply x_retOwn | apply x_ownCall | apply x_if | exact x_raise | apply xs_retE | apply xs_retO | apply xs_ifR | apply m_ret | apply xs_next | apply xs_ret | apply r_e | apply r_1 | apply r_zip | exact add_int _ _ | exact sub_int _ _ | exact sz0 | exact sz1 _ | exact sz2 _ _ | exact sz3 _ _ _ | exact sz4 _ _ _ _ | exact sz5 _ _ _ _ _ | exact sz6 _ _ _ _ _ _ | exact sz7 _ _ _ _ _ _ _ | exact sz8 _ _ _ _ _ _ _ _ | exact sz9 _ _ _ _ _ _ _ _ _ | apply q_eq | apply q_ne | apply d_str | apply q_len) | ((with_reducible refine c_tt ?_ ?_); · exact hand) | ((with_reducible refine c_ff ?_ ?_); · exact hand) | ((with_reducible refine c_tt ?_ ?_); · exact hint) | ((with_reducible refine c_ff ?_ ?_); · exact hint) | ((with_reducible refine c_tt ?_ ?_); · rfl) | ((with_reducible refine c_ff ?_ ?_); · rfl) | ((with_reducible refine div_pos _ _ ?_ ?_) <;> decide) | ((with_reducible refine mod_pos _ _ ?_); decide) | rfl | (intro q; cases q)))
end Mine.L01
end

noncomputable section
set_option maxRecDepth 100000
set_option linter.unusedSimpArgs false
set_option linter.unusedVariables false
namespace Mine.L01
open Mine.Pl
noncomputable abbrev fr11 (sc : V) (fi : Int) (ts a k m p o q r : Slot) : St := ⟨[.v sc, .v (.str abc), .v (.int fi), ts, a, k, m, p, o, q, r, .unset]⟩
theorem cut_len (row : List Nat) (cut : Int) : (sliceL row none (some cut)).length + (sliceL row (some cut) none).length ≤ row.length := by
  show ((row.drop 0).take (min cut.toNat row.length - 0)).length + ((row.drop (min cut.toNat row.length)).take (row.length - min cut.toNat row.length)).length ≤ _
  rw [List.length_take, List.length_take, List.length_drop, List.length_drop]
  omega
theorem three_sub {t1 t2 t3 : List Nat} {pl : Int} (hpl : 0 ≤ pl ∧ pl < 3) (l1 : t1.length ≤ 5) (l2 : t2.length ≤ 5) (l3 : t3.length ≤ 5) : ∃ row : List Nat, row.length ≤ 5 ∧ subOp (.list [.str t1, .str t2, .str t3]) (.int pl) = some (.str row) := by
  have : pl = 0 ∨ pl = 1 ∨ pl = 2 := by omega
  rcases this with rfl | rfl | rfl
  · exact ⟨t1, l1, rfl⟩
  · exact ⟨t2, l2, rfl⟩
  · exact ⟨t3, l3, rfl⟩
theorem three_set {t1 t2 t3 y : V} {Q : V → Prop} {pl : Int} (hpl : 0 ≤ pl ∧ pl < 3) (l1 : Q t1) (l2 : Q t2) (l3 : Q t3) (ly : Q y) : ∃ a b c : V, Q a ∧ Q b ∧ Q c ∧ [t1, t2, t3].set pl.toNat y = [a, b, c] := by
  have : pl = 0 ∨ pl = 1 ∨ pl = 2 := by omega
  rcases this with rfl | rfl | rfl
  · exact ⟨y, t2, t3, ly, l2, l3, rfl⟩
  · exact ⟨t1, y, t3, l1, ly, l3, rfl⟩
  · exact ⟨t1, t2, y, l1, l2, ly, rfl⟩
theorem in3 {pl : Int} {a b c : V} (h : 0 ≤ pl ∧ pl < 3) : 0 ≤ pl ∧ pl < (([a, b, c].length : Nat) : Int) ∧ [a, b, c].length ≤ szLine := ⟨h.1, h.2, sz_of (n := 3) (by decide)⟩
noncomputable def text (x : V) : Prop := ∃ s : List Nat, x = .str s ∧ s.length ≤ 10
theorem tail11 (cf : CallF) (sc : V) (fi : Int) (t1 t2 t3 od : List Nat) (a3 k m : Slot) (l1 : t1.length ≤ 5) (l2 : t2.length ≤ 5) (l3 : t3.length ≤ 5) (lod : od.length ≤ 2) : ∃ (a b c : V) (G : List Slot), text a ∧ text b ∧ text c ∧
    exs prog cf false (f11.body.drop 7) (fr11 sc fi (.ownL [.str t1, .str t2, .str t3]) a3 k m (.v (.int ((fi.fdiv 130).fmod 3))) (.v (.str od)) .unset .unset) = some (.ok (.ret (.ownL [a, b, c])), ⟨G⟩) := by
  have hpl := fmod_in (fi.fdiv 130) 3 (by decide)
  have hcu := fmod_in (fi.fdiv 3510) 5 (by decide)
  have k1 : text (.str t1) := ⟨t1, rfl, by omega⟩
  have k2 : text (.str t2) := ⟨t2, rfl, by omega⟩
  have k3 : text (.str t3) := ⟨t3, rfl, by omega⟩
  generalize (fi.fdiv 130).fmod 3 = pl at hpl
  simp only [f11, List.drop]
  cases h3 : eqV (.int ((fi.fdiv 26).fmod 5)) (.int 3) with
  | false =>
    refine ⟨.str t1, .str t2, .str t3, _, k1, k2, k3, xs_next (x_if (t := eqV (.int ((fi.fdiv 26).fmod 5)) (.int 3)) (σ₁ := fr11 sc fi (.ownL [.str t1, .str t2, .str t3]) a3 k m (.v (.int pl)) (.v (.str od)) .unset .unset) ?_ (c_ff h3 xs_nil)) (xs_retO rfl (by intro q; cases q))⟩
    (repeat (first | with_reducible (first | apply e_lit | apply e_bor | apply e_var | apply o_none | apply s_nil | apply e_dict0 | apply xs_nil | apply i_nil | apply y_nil | apply e_bin | apply e_cmp | apply e_sub | apply e_slice | apply o_some | apply s_cons | apply e_call | apply e_bi | apply e_list | apply e_tuple | apply e_not | apply e_rev | apply e_met | apply e_ite | apply e_and | apply a_one | apply a_c | apply b_not | apply b_and | apply b_or | apply b_of | apply i_c | apply y_c | apply x_assign | apply x_ownL | apply x_setItem | apply x_append | apply x_ret | apply x_retOwn | apply x_ownCall | apply x_if | exact x_raise | apply xs_retE | apply xs_retO | apply xs_ifR | apply m_ret | apply xs_next | apply xs_ret | apply r_e | apply r_1 | apply r_zip | exact add_int _ _ | exact sub_int _ _ | exact sz0 | exact sz1 _ | exact sz2 _ _ | exact sz3 _ _ _ | exact sz4 _ _ _ _ | exact sz5 _ _ _ _ _ | exact sz6 _ _ _ _ _ _ | exact sz7 _ _ _ _ _ _ _ | exact sz8 _ _ _ _ _ _ _ _ | exact sz9 _ _ _ _ _ _ _ _ _ | apply q_eq | apply q_ne | apply d_str | apply q_len) | ((with_reducible refine c_tt ?_ ?_); · rfl) | ((with_reducible refine c_ff ?_ ?_); · rfl) | ((with_reducible refine div_pos _ _ ?_ ?_) <;> decide) | ((with_reducible refine mod_pos _ _ ?_); decide) | rfl | (intro q; cases q)))
  | true =>
    generalize hcut : (fi.fdiv 3510).fmod 5 = cut at hcu
    obtain ⟨row, lrow, erow⟩ := three_sub hpl l1 l2 l3
    have s1 : sliceOp (.str row) none (some (.int cut)) = some (.str (sliceL row none (some cut))) := slice_str (by omega) rfl (opt_int (by omega)) end_0
    have s2 : sliceOp (.str row) (some (.int cut)) none = some (.str (sliceL row (some cut) none)) := slice_str (by omega) (opt_int (by omega)) rfl end_n
    have kk := cut_len row cut
    have q1 : binOp .add (.str (sliceL row none (some cut))) (.str od) = some (.str (sliceL row none (some cut) ++ od)) := add_str (by omega)
    have q2 : binOp .add (.str (sliceL row none (some cut) ++ od)) (.str (sliceL row (some cut) none)) = some (.str (sliceL row none (some cut) ++ od ++ sliceL row (some cut) none)) := add_str (by simp; omega)
    have lN : text (.str (sliceL row none (some cut) ++ od ++ sliceL row (some cut) none)) := ⟨_, rfl, by simp; omega⟩
    obtain ⟨a, b, c, la, lb, lc, eset⟩ := three_set hpl k1 k2 k3 lN
    refine ⟨a, b, c, _, la, lb, lc, xs_next (σ₁ := fr11 sc fi (.ownL [a, b, c]) a3 k m (.v (.int pl)) (.v (.str od)) (.v (.int cut)) (.v (.str row))) (x_if (t := eqV (.int ((fi.fdiv 26).fmod 5)) (.int 3)) (σ₁ := fr11 sc fi (.ownL [.str t1, .str t2, .str t3]) a3 k m (.v (.int pl)) (.v (.str od)) .unset .unset) ?_ (c_tt h3 ?_)) (xs_retO rfl (by intro q; cases q))⟩
    · (repeat (first | with_reducible (first | apply e_lit | apply e_bor | apply e_var | apply o_none | apply s_nil | apply e_dict0 | apply xs_nil | apply i_nil | apply y_nil | apply e_bin | apply e_cmp | apply e_sub | apply e_slice | apply o_some | apply s_cons | apply e_call | apply e_bi | apply e_list | apply e_tuple | apply e_not | apply e_rev | apply e_met | apply e_ite | apply e_and | apply a_one | apply a_c | apply b_not | apply b_and | apply b_or | apply b_of | apply i_c | apply y_c | apply x_assign | apply x_ownL | apply x_setItem | apply x_append | apply x_ret | apply x_retOwn | apply x_ownCall | apply x_if | exact x_raise | apply xs_retE | apply xs_retO | apply xs_ifR | apply m_ret | apply xs_next | apply xs_ret | apply r_e | apply r_1 | apply r_zip | exact add_int _ _ | exact sub_int _ _ | exact sz0 | exact sz1 _ | exact sz2 _ _ | exact sz3 _ _ _ | exact sz4 _ _ _ _ | exact sz5 _ _ _ _ _ | exact sz6 _ _ _ _ _ _ | exact sz7 _ _ _ _ _ _ _ | exact sz8 _ _ _ _ _ _ _ _ | exact sz9 _ _ _ _ _ _ _ _ _ | apply q_eq | apply q_ne | apply d_str | apply q_len) | ((with_reducible refine c_tt ?_ ?_); · rfl) | ((with_reducible refine c_ff ?_ ?_); · rfl) | ((with_reducible refine div_pos _ _ ?_ ?_) <;> decide) | ((with_reducible refine mod_pos _ _ ?_); decide) | rfl | (intro q; cases q)))
    · refine xs_next (σ₁ := fr11 sc fi (.ownL [.str t1, .str t2, .str t3]) a3 k m (.v (.int pl)) (.v (.str od)) (.v (.int cut)) .unset) (by rw [← hcut]; (repeat (first | with_reducible (first | apply e_lit | apply e_bor | apply e_var | apply o_none | apply s_nil | apply e_dict0 | apply xs_nil | apply i_nil | apply y_nil | apply e_bin | apply e_cmp | apply e_sub | apply e_slice | apply o_some | apply s_cons | apply e_call | apply e_bi | apply e_list | apply e_tuple | apply e_not | apply e_rev | apply e_met | apply e_ite | apply e_and | apply a_one | apply a_c | apply b_not | apply b_and | apply b_or | apply b_of | apply i_c | apply y_c | apply x_assign | apply x_ownL | apply x_setItem | apply x_append | apply x_ret | apply x_retOwn | apply x_ownCall | apply x_if | exact x_raise | apply xs_retE | apply xs_retO | apply xs_ifR | apply m_ret | apply xs_next | apply xs_ret | apply r_e | apply r_1 | apply r_zip | exact add_int _ _ | exact sub_int _ _ | exact sz0 | exact sz1 _ | exact sz2 _ _ | exact sz3 _ _ _ | exact sz4 _ _ _ _ | exact sz5 _ _ _ _ _ | exact sz6 _ _ _ _ _ _ | exact sz7 _ _ _ _ _ _ _ | exact sz8 _ _ _ _ _ _ _ _ | exact sz9 _ _ _ _ _ _ _ _ _ | apply q_eq | apply q_ne | apply d_str | apply q_len) | ((with_reducible refine c_tt ?_ ?_); · rfl) | ((with_reducible refine c_ff ?_ ?_); · rfl) | ((with_reducible refine div_pos _ _ ?_ ?_) <;> decide) | ((with_reducible refine mod_pos _ _ ?_); decide) | rfl | (intro q; cases q)))) ?_
      refine xs_next (σ₁ := fr11 sc fi (.ownL [.str t1, .str t2, .str t3]) a3 k m (.v (.int pl)) (.v (.str od)) (.v (.int cut)) (.v (.str row))) (by (repeat (first | with_reducible (first | exact erow | apply e_lit | apply e_bor | apply e_var | apply o_none | apply s_nil | apply e_dict0 | apply xs_nil | apply i_nil | apply y_nil | apply e_bin | apply e_cmp | apply e_sub | apply e_slice | apply o_some | apply s_cons | apply e_call | apply e_bi | apply e_list | apply e_tuple | apply e_not | apply e_rev | apply e_met | apply e_ite | apply e_and | apply a_one | apply a_c | apply b_not | apply b_and | apply b_or | apply b_of | apply i_c | apply y_c | apply x_assign | apply x_ownL | apply x_setItem | apply x_append | apply x_ret | apply x_retOwn | apply x_ownCall | apply x_if | exact x_raise | apply xs_retE | apply xs_retO | apply xs_ifR | apply m_ret | apply xs_next | apply xs_ret | apply r_e | apply r_1 | apply r_zip | exact add_int _ _ | exact sub_int _ _ | exact sz0 | exact sz1 _ | exact sz2 _ _ | exact sz3 _ _ _ | exact sz4 _ _ _ _ | exact sz5 _ _ _ _ _ | exact sz6 _ _ _ _ _ _ | exact sz7 _ _ _ _ _ _ _ | exact sz8 _ _ _ _ _ _ _ _ | exact sz9 _ _ _ _ _ _ _ _ _ | apply q_eq | apply q_ne | apply d_str | apply q_len) | ((with_reducible refine c_tt ?_ ?_); · exact erow) | ((with_reducible refine c_ff ?_ ?_); · exact erow) | ((with_reducible refine c_tt ?_ ?_); · rfl) | ((with_reducible refine c_ff ?_ ?_); · rfl) | ((with_reducible refine div_pos _ _ ?_ ?_) <;> decide) | ((with_reducible refine mod_pos _ _ ?_); decide) | rfl | (intro q; cases q)))) ?_
      refine xs_next (x_setItem (σ₁ := fr11 sc fi (.ownL [.str t1, .str t2, .str t3]) a3 k m (.v (.int pl)) (.v (.str od)) (.v (.int cut)) (.v (.str row))) (σ₂ := fr11 sc fi (.ownL [.str t1, .str t2, .str t3]) a3 k m (.v (.int pl)) (.v (.str od)) (.v (.int cut)) (.v (.str row))) (by (repeat (first | with_reducible (first | exact s1 | exact s2 | exact q1 | exact q2 | apply e_lit | apply e_bor | apply e_var | apply o_none | apply s_nil | apply e_dict0 | apply xs_nil | apply i_nil | apply y_nil | apply e_bin | apply e_cmp | apply e_sub | apply e_slice | apply o_some | apply s_cons | apply e_call | apply e_bi | apply e_list | apply e_tuple | apply e_not | apply e_rev | apply e_met | apply e_ite | apply e_and | apply a_one | apply a_c | apply b_not | apply b_and | apply b_or | apply b_of | apply i_c | apply y_c | apply x_assign | apply x_ownL | apply x_setItem | apply x_append | apply x_ret | apply x_retOwn | apply x_ownCall | apply x_if | exact x_raise | apply xs_retE | apply xs_retO | apply xs_ifR | apply m_ret | apply xs_next | apply xs_ret | apply r_e | apply r_1 | apply r_zip | exact add_int _ _ | exact sub_int _ _ | exact sz0 | exact sz1 _ | exact sz2 _ _ | exact sz3 _ _ _ | exact sz4 _ _ _ _ | exact sz5 _ _ _ _ _ | exact sz6 _ _ _ _ _ _ | exact sz7 _ _ _ _ _ _ _ | exact sz8 _ _ _ _ _ _ _ _ | exact sz9 _ _ _ _ _ _ _ _ _ | apply q_eq | apply q_ne | apply d_str | apply q_len) | ((with_reducible refine c_tt ?_ ?_); · exact s1) | ((with_reducible refine c_ff ?_ ?_); · exact s1) | ((with_reducible refine c_tt ?_ ?_); · exact s2) | ((with_reducible refine c_ff ?_ ?_); · exact s2) | ((with_reducible refine c_tt ?_ ?_); · exact q1) | ((with_reducible refine c_ff ?_ ?_); · exact q1) | ((with_reducible refine c_tt ?_ ?_); · exact q2) | ((with_reducible refine c_ff ?_ ?_); · exact q2) | ((with_reducible refine c_tt ?_ ?_); · rfl) | ((with_reducible refine c_ff ?_ ?_); · rfl) | ((with_reducible refine div_pos _ _ ?_ ?_) <;> decide) | ((with_reducible refine mod_pos _ _ ?_); decide) | rfl | (intro q; cases q)))) rfl (by (repeat (first | with_reducible (first | apply e_lit | apply e_bor | apply e_var | apply o_none | apply s_nil | apply e_dict0 | apply xs_nil | apply i_nil | apply y_nil | apply e_bin | apply e_cmp | apply e_sub | apply e_slice | apply o_some | apply s_cons | apply e_call | apply e_bi | apply e_list | apply e_tuple | apply e_not | apply e_rev | apply e_met | apply e_ite | apply e_and | apply a_one | apply a_c | apply b_not | apply b_and | apply b_or | apply b_of | apply i_c | apply y_c | apply x_assign | apply x_ownL | apply x_setItem | apply x_append | apply x_ret | apply x_retOwn | apply x_ownCall | apply x_if | exact x_raise | apply xs_retE | apply xs_retO | apply xs_ifR | apply m_ret | apply xs_next | apply xs_ret | apply r_e | apply r_1 | apply r_zip | exact add_int _ _ | exact sub_int _ _ | exact sz0 | exact sz1 _ | exact sz2 _ _ | exact sz3 _ _ _ | exact sz4 _ _ _ _ | exact sz5 _ _ _ _ _ | exact sz6 _ _ _ _ _ _ | exact sz7 _ _ _ _ _ _ _ | exact sz8 _ _ _ _ _ _ _ _ | exact sz9 _ _ _ _ _ _ _ _ _ | apply q_eq | apply q_ne | apply d_str | apply q_len) | ((with_reducible refine c_tt ?_ ?_); · rfl) | ((with_reducible refine c_ff ?_ ?_); · rfl) | ((with_reducible refine div_pos _ _ ?_ ?_) <;> decide) | ((with_reducible refine mod_pos _ _ ?_); decide) | rfl | (intro q; cases q)))) rfl (in3 hpl) ?_) xs_nil
      rw [eset]; rfl
theorem odd9 {i : Int} (h0 : 0 ≤ i ∧ i < 9) : ∃ o : List Nat, o.length ≤ 2 ∧ subOp (.list [.str [65], .str [49], .str [32], .str [10], .str [45], .str [95], .str [97, 97], .str [97, 98], .str []]) (.int i) = some (.str o) := by
  obtain ⟨ov, hov, e⟩ := sub_mem (l := [.str [65], .str [49], .str [32], .str [10], .str [45], .str [95], .str [97, 97], .str [97, 98], .str []]) h0.1 h0.2 (by decide)
  have hh : ∀ x ∈ [V.str [65], .str [49], .str [32], .str [10], .str [45], .str [95], .str [97, 97], .str [97, 98], .str []], ∃ o : List Nat, o.length ≤ 2 ∧ x = .str o := List.forall_mem_cons.mpr ⟨⟨_, by decide, rfl⟩, List.forall_mem_cons.mpr ⟨⟨_, by decide, rfl⟩, List.forall_mem_cons.mpr ⟨⟨_, by decide, rfl⟩, List.forall_mem_cons.mpr ⟨⟨_, by decide, rfl⟩, List.forall_mem_cons.mpr ⟨⟨_, by decide, rfl⟩, List.forall_mem_cons.mpr ⟨⟨_, by decide, rfl⟩, List.forall_mem_cons.mpr ⟨⟨_, by decide, rfl⟩, List.forall_mem_cons.mpr ⟨⟨_, by decide, rfl⟩, List.forall_mem_cons.mpr ⟨⟨_, by decide, rfl⟩, fun _ h => nomatch h⟩⟩⟩⟩⟩⟩⟩⟩⟩
  obtain ⟨o, ho, rfl⟩ := hh ov hov
  exact ⟨o, ho, e⟩
theorem call11 (d : Nat) (scr : List Int) (hs : scr.length ≤ 63) : ∃ a b c : V, text a ∧ text b ∧ text c ∧ callN prog (d + 2) false 11 [.list (scr.map .int)] = some (.ok (.ownL [a, b, c])) := by
  have c0 : callN prog (d + 1) false 6 [.list (scr.map .int), .int 0] = some (.ok (.v (.int (cellAt scr 0)))) := call6 d false scr 0 (by decide) hs
  generalize cellAt scr 0 = fi at c0
  obtain ⟨t1, m1, a1, l1, e1⟩ := step11 d scr hs fi (fi.fmod 26) [] (by decide) 0 (.inl rfl) .unset .unset .unset .unset .unset
  obtain ⟨t2, m2, a2, l2, e2⟩ := step11 d scr hs fi a1 [.str t1] (by show 1 ≤ 5; decide) 1 (.inr (.inl rfl)) (.v (.int m1)) .unset .unset .unset .unset
  obtain ⟨t3, m3, a3, l3, e3⟩ := step11 d scr hs fi a2 [.str t1, .str t2] (by show 2 ≤ 5; decide) 2 (.inr (.inr rfl)) (.v (.int m2)) .unset .unset .unset .unset
  have lp : forL (M.noErr (exs prog (callN prog (d + 1)) false f11b1)) (.one 5) [.int 0, .int 1, .int 2] (fr11 (.list (scr.map .int)) fi (.ownL []) (.v (.int (fi.fmod 26))) .unset .unset .unset .unset .unset .unset) = some (.ok .next, fr11 (.list (scr.map .int)) fi (.ownL [.str t1, .str t2, .str t3]) (.v (.int a3)) (.v (.int 2)) (.v (.int m3)) .unset .unset .unset .unset) :=
    (forL_next rfl e1).trans ((forL_next rfl e2).trans ((forL_next rfl e3).trans rfl))
  obtain ⟨od, lod, eov⟩ := odd9 (fmod_in (fi.fdiv 390) 9 (by decide))
  obtain ⟨a, b, c, G, la, lb, lc, e⟩ := tail11 (callN prog (d + 1)) (.list (scr.map .int)) fi t1 t2 t3 od (.v (.int a3)) (.v (.int 2)) (.v (.int m3)) l1 l2 l3 lod
  refine ⟨a, b, c, la, lb, lc, fn_ret (fn := f11) (G := G) rfl rfl ?_⟩
  show exs prog (callN prog (d + 1)) false f11.body ⟨[.v (.list (scr.map .int)), .unset, .unset, .unset, .unset, .unset, .unset, .unset, .unset, .unset, .unset, .unset]⟩ = _
  simp only [f11, List.drop] at e ⊢
  refine xs_next (σ₁ := ⟨[.v (.list (scr.map .int)), .v (.str abc), .unset, .unset, .unset, .unset, .unset, .unset, .unset, .unset, .unset, .unset]⟩) (by (repeat (first | with_reducible (first | apply e_lit | apply e_bor | apply e_var | apply o_none | apply s_nil | apply e_dict0 | apply xs_nil | apply i_nil | apply y_nil | apply e_bin | apply e_cmp | apply e_sub | apply e_slice | apply o_some | apply s_cons | apply e_call | apply e_bi | apply e_list | apply e_tuple | apply e_not | apply e_rev | apply e_met | apply e_ite | apply e_and | apply a_one | apply a_c | apply b_not | apply b_and | apply b_or | apply b_of | apply i_c | apply y_c | apply x_assign | apply x_ownL | apply x_setItem | apply x_append | apply x_ret | apply x_retOwn | apply x_ownCall | apply x_if | exact x_raise | apply xs_retE | apply xs_retO | apply xs_ifR | apply m_ret | apply xs_next | apply xs_ret | apply r_e | apply r_1 | apply r_zip | exact add_int _ _ | exact sub_int _ _ | exact sz0 | exact sz1 _ | exact sz2 _ _ | exact sz3 _ _ _ | exact sz4 _ _ _ _ | exact sz5 _ _ _ _ _ | exact sz6 _ _ _ _ _ _ | exact sz7 _ _ _ _ _ _ _ | exact sz8 _ _ _ _ _ _ _ _ | exact sz9 _ _ _ _ _ _ _ _ _ | apply q_eq | apply q_ne | apply d_str | apply q_len) | ((with_reducible refine c_tt ?_ ?_); · rfl) | ((with_reducible refine c_ff ?_ ?_); · rfl) | ((with_reducible refine div_pos _ _ ?_ ?_) <;> decide) | ((with_reducible refine mod_pos _ _ ?_); decide) | rfl | (intro q; cases q)))) ?_
  refine xs_next (σ₁ := ⟨[.v (.list (scr.map .int)), .v (.str abc), .v (.int fi), .unset, .unset, .unset, .unset, .unset, .unset, .unset, .unset, .unset]⟩) (by (repeat (first | with_reducible (first | exact c0 | apply e_lit | apply e_bor | apply e_var | apply o_none | apply s_nil | apply e_dict0 | apply xs_nil | apply i_nil | apply y_nil | apply e_bin | apply e_cmp | apply e_sub | apply e_slice | apply o_some | apply s_cons | apply e_call | apply e_bi | apply e_list | apply e_tuple | apply e_not | apply e_rev | apply e_met | apply e_ite | apply e_and | apply a_one | apply a_c | apply b_not | apply b_and | apply b_or | apply b_of | apply i_c | apply y_c | apply x_assign | apply x_ownL | apply x_setItem | apply x_append | apply x_ret | apply x_retOwn | apply x_ownCall | apply x_if | exact x_raise | apply xs_retE | apply xs_retO | apply xs_ifR | apply m_ret | apply xs_next | apply xs_ret | apply r_e | apply r_1 | apply r_zip | exact add_int _ _ | exact sub_int _ _ | exact sz0 | exact sz1 _ | exact sz2 _ _ | exact sz3 _ _ _ | exact sz4 _ _ _ _ | exact sz5 _ _ _ _ _ | exact sz6 _ _ _ _ _ _ | exact sz7 _ _ _ _ _ _ _ | exact sz8 _ _ _ _ _ _ _ _ | exact sz9 _ _ _ _ _ _ _ _ _ | apply q_eq | apply q_ne | apply d_str | apply q_len) | ((with_reducible refine c_tt ?_ ?_); · exact c0) | ((with_reducible refine c_ff ?_ ?_); · exact c0) | ((with_reducible refine c_tt ?_ ?_); · rfl) | ((with_reducible refine c_ff ?_ ?_); · rfl) | ((with_reducible refine div_pos _ _ ?_ ?_) <;> decide) | ((with_reducible refine mod_pos _ _ ?_); decide) | rfl | (intro q; cases q)))) ?_
  refine xs_next (σ₁ := fr11 (.list (scr.map .int)) fi (.ownL []) .unset .unset .unset .unset .unset .unset .unset) (by (repeat (first | with_reducible (first | apply e_lit | apply e_bor | apply e_var | apply o_none | apply s_nil | apply e_dict0 | apply xs_nil | apply i_nil | apply y_nil | apply e_bin | apply e_cmp | apply e_sub | apply e_slice | apply o_some | apply s_cons | apply e_call | apply e_bi | apply e_list | apply e_tuple | apply e_not | apply e_rev | apply e_met | apply e_ite | apply e_and | apply a_one | apply a_c | apply b_not | apply b_and | apply b_or | apply b_of | apply i_c | apply y_c | apply x_assign | apply x_ownL | apply x_setItem | apply x_append | apply x_ret | apply x_retOwn | apply x_ownCall | apply x_if | exact x_raise | apply xs_retE | apply xs_retO | apply xs_ifR | apply m_ret | apply xs_next | apply xs_ret | apply r_e | apply r_1 | apply r_zip | exact add_int _ _ | exact sub_int _ _ | exact sz0 | exact sz1 _ | exact sz2 _ _ | exact sz3 _ _ _ | exact sz4 _ _ _ _ | exact sz5 _ _ _ _ _ | exact sz6 _ _ _ _ _ _ | exact sz7 _ _ _ _ _ _ _ | exact sz8 _ _ _ _ _ _ _ _ | exact sz9 _ _ _ _ _ _ _ _ _ | apply q_eq | apply q_ne | apply d_str | apply q_len) | ((with_reducible refine c_tt ?_ ?_); · rfl) | ((with_reducible refine c_ff ?_ ?_); · rfl) | ((with_reducible refine div_pos _ _ ?_ ?_) <;> decide) | ((with_reducible refine mod_pos _ _ ?_); decide) | rfl | (intro q; cases q)))) ?_
  refine xs_next (σ₁ := fr11 (.list (scr.map .int)) fi (.ownL []) (.v (.int (fi.fmod 26))) .unset .unset .unset .unset .unset .unset) (by (repeat (first | with_reducible (first | apply e_lit | apply e_bor | apply e_var | apply o_none | apply s_nil | apply e_dict0 | apply xs_nil | apply i_nil | apply y_nil | apply e_bin | apply e_cmp | apply e_sub | apply e_slice | apply o_some | apply s_cons | apply e_call | apply e_bi | apply e_list | apply e_tuple | apply e_not | apply e_rev | apply e_met | apply e_ite | apply e_and | apply a_one | apply a_c | apply b_not | apply b_and | apply b_or | apply b_of | apply i_c | apply y_c | apply x_assign | apply x_ownL | apply x_setItem | apply x_append | apply x_ret | apply x_retOwn | apply x_ownCall | apply x_if | exact x_raise | apply xs_retE | apply xs_retO | apply xs_ifR | apply m_ret | apply xs_next | apply xs_ret | apply r_e | apply r_1 | apply r_zip | exact add_int _ _ | exact sub_int _ _ | exact sz0 | exact sz1 _ | exact sz2 _ _ | exact sz3 _ _ _ | exact sz4 _ _ _ _ | exact sz5 _ _ _ _ _ | exact sz6 _ _ _ _ _ _ | exact sz7 _ _ _ _ _ _ _ | exact sz8 _ _ _ _ _ _ _ _ | exact sz9 _ _ _ _ _ _ _ _ _ | apply q_eq | apply q_ne | apply d_str | apply q_len) | ((with_reducible refine c_tt ?_ ?_); · rfl) | ((with_reducible refine c_ff ?_ ?_); · rfl) | ((with_reducible refine div_pos _ _ ?_ ?_) <;> decide) | ((with_reducible refine mod_pos _ _ ?_); decide) | rfl | (intro q; cases q)))) ?_
  refine xs_next (x_for (xs := [.int 0, .int 1, .int 2]) (σ₁ := fr11 (.list (scr.map .int)) fi (.ownL []) (.v (.int (fi.fmod 26))) .unset .unset .unset .unset .unset .unset) rfl lp) ?_
  refine xs_next (σ₁ := fr11 (.list (scr.map .int)) fi (.ownL [.str t1, .str t2, .str t3]) (.v (.int a3)) (.v (.int 2)) (.v (.int m3)) (.v (.int ((fi.fdiv 130).fmod 3))) .unset .unset .unset) (by (repeat (first | with_reducible (first | apply e_lit | apply e_bor | apply e_var | apply o_none | apply s_nil | apply e_dict0 | apply xs_nil | apply i_nil | apply y_nil | apply e_bin | apply e_cmp | apply e_sub | apply e_slice | apply o_some | apply s_cons | apply e_call | apply e_bi | apply e_list | apply e_tuple | apply e_not | apply e_rev | apply e_met | apply e_ite | apply e_and | apply a_one | apply a_c | apply b_not | apply b_and | apply b_or | apply b_of | apply i_c | apply y_c | apply x_assign | apply x_ownL | apply x_setItem | apply x_append | apply x_ret | apply x_retOwn | apply x_ownCall | apply x_if | exact x_raise | apply xs_retE | apply xs_retO | apply xs_ifR | apply m_ret | apply xs_next | apply xs_ret | apply r_e | apply r_1 | apply r_zip | exact add_int _ _ | exact sub_int _ _ | exact sz0 | exact sz1 _ | exact sz2 _ _ | exact sz3 _ _ _ | exact sz4 _ _ _ _ | exact sz5 _ _ _ _ _ | exact sz6 _ _ _ _ _ _ | exact sz7 _ _ _ _ _ _ _ | exact sz8 _ _ _ _ _ _ _ _ | exact sz9 _ _ _ _ _ _ _ _ _ | apply q_eq | apply q_ne | apply d_str | apply q_len) | ((with_reducible refine c_tt ?_ ?_); · rfl) | ((with_reducible refine c_ff ?_ ?_); · rfl) | ((with_reducible refine div_pos _ _ ?_ ?_) <;> decide) | ((with_reducible refine mod_pos _ _ ?_); decide) | rfl | (intro q; cases q)))) ?_
  refine xs_next (σ₁ := fr11 (.list (scr.map .int)) fi (.ownL [.str t1, .str t2, .str t3]) (.v (.int a3)) (.v (.int 2)) (.v (.int m3)) (.v (.int ((fi.fdiv 130).fmod 3))) (.v (.str od)) .unset .unset) (by (repeat (first | with_reducible (first | exact eov | apply e_lit | apply e_bor | apply e_var | apply o_none | apply s_nil | apply e_dict0 | apply xs_nil | apply i_nil | apply y_nil | apply e_bin | apply e_cmp | apply e_sub | apply e_slice | apply o_some | apply s_cons | apply e_call | apply e_bi | apply e_list | apply e_tuple | apply e_not | apply e_rev | apply e_met | apply e_ite | apply e_and | apply a_one | apply a_c | apply b_not | apply b_and | apply b_or | apply b_of | apply i_c | apply y_c | apply x_assign | apply x_ownL | apply x_setItem | apply x_append | apply x_ret | apply x_retOwn | apply x_ownCall | apply x_if | exact x_raise | apply xs_retE | apply xs_retO | apply xs_ifR | apply m_ret | apply xs_next | apply xs_ret | apply r_e | apply r_1 | apply r_zip | exact add_int _ _ | exact sub_int _ _ | exact sz0 | exact sz1 _ | exact sz2 _ _ | exact sz3 _ _ _ | exact sz4 _ _ _ _ | exact sz5 _ _ _ _ _ | exact sz6 _ _ _ _ _ _ | exact sz7 _ _ _ _ _ _ _ | exact sz8 _ _ _ _ _ _ _ _ | exact sz9 _ _ _ _ _ _ _ _ _ | apply q_eq | apply q_ne | apply d_str | apply q_len) | ((with_reducible refine c_tt ?_ ?_); · exact eov) | ((with_reducible refine c_ff ?_ ?_); · exact eov) | ((with_reducible refine c_tt ?_ ?_); · rfl) | ((with_reducible refine c_ff ?_ ?_); · rfl) | ((with_reducible refine div_pos _ _ ?_ ?_) <;> decide) | ((with_reducible refine mod_pos _ _ ?_); decide) | rfl | (intro q; cases q)))) e
theorem text_part {x : V} (h : text x) : part x := by
  obtain ⟨s, rfl, hl⟩ := h
  exact show s.length ≤ 1000 by omega
theorem thing_tuple {l : List V} (h1 : l.length ≤ 100) (h2 : ∀ y ∈ l, part y) : thing (.tuple l) := ⟨trivial, fun l' e => by cases e; exact ⟨h1, h2⟩⟩
theorem thing_other {x : V} (h1 : part x) (h2 : ∀ l, x ≠ .tuple l) : thing x := ⟨h1, fun l e => absurd e (h2 l)⟩
theorem parts3 {a b c : V} (pa : part a) (pb : part b) (pc : part c) : ∀ y ∈ [a, b, c], part y := List.forall_mem_cons.mpr ⟨pa, List.forall_mem_cons.mpr ⟨pb, List.forall_mem_cons.mpr ⟨pc, fun _ h => nomatch h⟩⟩⟩
theorem odd8 {a b c : V} (pa : part a) (pb : part b) (pc : part c) : ∀ y ∈ [.tuple [a, b], .tuple [a, b, c, .str []], .list [a, b, c], .str [97, 98, 99], .none, .int 7, .tuple [], .dict], thing y :=
  List.forall_mem_cons.mpr ⟨thing_tuple (show 2 ≤ 100 by decide) (List.forall_mem_cons.mpr ⟨pa, List.forall_mem_cons.mpr ⟨pb, fun _ h => nomatch h⟩⟩), List.forall_mem_cons.mpr ⟨thing_tuple (show 4 ≤ 100 by decide) (List.forall_mem_cons.mpr ⟨pa, List.forall_mem_cons.mpr ⟨pb, List.forall_mem_cons.mpr ⟨pc, List.forall_mem_cons.mpr ⟨Nat.zero_le _, fun _ h => nomatch h⟩⟩⟩⟩),
    List.forall_mem_cons.mpr ⟨thing_other trivial nofun, List.forall_mem_cons.mpr ⟨thing_other (show 3 ≤ 1000 by decide) nofun, List.forall_mem_cons.mpr ⟨thing_other trivial nofun, List.forall_mem_cons.mpr ⟨thing_other trivial nofun, List.forall_mem_cons.mpr ⟨thing_tuple (Nat.zero_le _) (fun _ h => nomatch h), List.forall_mem_cons.mpr ⟨thing_other trivial nofun, fun _ h => nomatch h⟩⟩⟩⟩⟩⟩⟩⟩
theorem odd6 : ∀ y ∈ [V.none, .int 5, .bool true, .list [.str [97]], .tuple [.str [97]], .dict], part y :=
  List.forall_mem_cons.mpr ⟨trivial, List.forall_mem_cons.mpr ⟨trivial, List.forall_mem_cons.mpr ⟨trivial, List.forall_mem_cons.mpr ⟨trivial, List.forall_mem_cons.mpr ⟨trivial, List.forall_mem_cons.mpr ⟨trivial, fun _ h => nomatch h⟩⟩⟩⟩⟩⟩
noncomputable abbrev fr13 (sc : V) (ts : Slot) (w p : Int) (o : Slot) : St := ⟨[.v sc, ts, .v (.int w), .v (.int p), o]⟩
theorem tail13 (cf : CallF) (sc : V) (a b c : V) (wy pl n3 : Int) (hp : 0 ≤ pl ∧ pl < 3) (pa : part a) (pb : part b) (pc : part c) (c3 : cf false 6 [sc, .int 3] = some (.ok (.v (.int n3)))) :
    ∃ (x : V) (G : List Slot), thing x ∧ exs prog cf false (f13.body.drop 3) (fr13 sc (.ownL [a, b, c]) wy pl .unset) = some (.ok (.ret (.v x)), ⟨G⟩) := by
  simp only [f13, List.drop]
  cases h0 : eqV (.int wy) (.int 0) with
  | true =>
    have hi := fmod_in n3 8 (by decide)
    obtain ⟨y, hy, ey⟩ := sub_mem (l := [.tuple [a, b], .tuple [a, b, c, .str []], .list [a, b, c], .str [97, 98, 99], .none, .int 7, .tuple [], .dict]) hi.1 hi.2 (by show 8 ≤ 1000; decide)
    have s1 : sliceOp (.list [a, b, c]) none (some (.int 2)) = some (.list [a, b]) := rfl
    have s2 : binOp .add (.list [a, b, c]) (.list [.str []]) = some (.list [a, b, c, .str []]) := rfl
    have s3 : biOp prog false .tupleOf [.list [a, b]] = some (.tuple [a, b]) := rfl
    have s4 : biOp prog false .tupleOf [.list [a, b, c, .str []]] = some (.tuple [a, b, c, .str []]) := rfl
    have s5 : biOp prog false .listOf [.list [a, b, c]] = some (.list [a, b, c]) := rfl
    refine ⟨y, _, odd8 pa pb pc y hy, xs_ret (x_if (t := eqV (.int wy) (.int 0)) (σ₁ := fr13 sc (.ownL [a, b, c]) wy pl .unset) ?_ (c_tt h0 (xs_next (σ₁ := fr13 sc (.ownL [a, b, c]) wy pl (.ownL [.tuple [a, b], .tuple [a, b, c, .str []], .list [a, b, c], .str [97, 98, 99], .none, .int 7, .tuple [], .dict])) ?_ (xs_retE (σ₁ := fr13 sc (.ownL [a, b, c]) wy pl (.ownL [.tuple [a, b], .tuple [a, b, c, .str []], .list [a, b, c], .str [97, 98, 99], .none, .int 7, .tuple [], .dict])) ?_))))⟩
    · (repeat (first | with_reducible (first | apply e_lit | apply e_bor | apply e_var | apply o_none | apply s_nil | apply e_dict0 | apply xs_nil | apply i_nil | apply y_nil | apply e_bin | apply e_cmp | apply e_sub | apply e_slice | apply o_some | apply s_cons | apply e_call | apply e_bi | apply e_list | apply e_tuple | apply e_not | apply e_rev | apply e_met | apply e_ite | apply e_and | apply a_one | apply a_c | apply b_not | apply b_and | apply b_or | apply b_of | apply i_c | apply y_c | apply x_assign | apply x_ownL | apply x_setItem | apply x_append | apply x_ret | apply x_retOwn | apply x_ownCall | apply x_if | exact x_raise | apply xs_retE | apply xs_retO | apply xs_ifR | apply m_ret | apply xs_next | apply xs_ret | apply r_e | apply r_1 | apply r_zip | exact add_int _ _ | exact sub_int _ _ | exact sz0 | exact sz1 _ | exact sz2 _ _ | exact sz3 _ _ _ | exact sz4 _ _ _ _ | exact sz5 _ _ _ _ _ | exact sz6 _ _ _ _ _ _ | exact sz7 _ _ _ _ _ _ _ | exact sz8 _ _ _ _ _ _ _ _ | exact sz9 _ _ _ _ _ _ _ _ _ | apply q_eq | apply q_ne | apply d_str | apply q_len) | ((with_reducible refine c_tt ?_ ?_); · rfl) | ((with_reducible refine c_ff ?_ ?_); · rfl) | ((with_reducible refine div_pos _ _ ?_ ?_) <;> decide) | ((with_reducible refine mod_pos _ _ ?_); decide) | rfl | (intro q; cases q)))
    · (repeat (first | with_reducible (first | exact s1 | exact s2 | exact s3 | exact s4 | exact s5 | apply e_lit | apply e_bor | apply e_var | apply o_none | apply s_nil | apply e_dict0 | apply xs_nil | apply i_nil | apply y_nil | apply e_bin | apply e_cmp | apply e_sub | apply e_slice | apply o_some | apply s_cons | apply e_call | apply e_bi | apply e_list | apply e_tuple | apply e_not | apply e_rev | apply e_met | apply e_ite | apply e_and | apply a_one | apply a_c | apply b_not | apply b_and | apply b_or | apply b_of | apply i_c | apply y_c | apply x_assign | apply x_ownL | apply x_setItem | apply x_append | apply x_ret | apply x_retOwn | apply x_ownCall | apply x_if | exact x_raise | apply xs_retE | apply xs_retO | apply xs_ifR | apply m_ret | apply xs_next | apply xs_ret | apply r_e | apply r_1 | apply r_zip | exact add_int _ _ | exact sub_int _ _ | exact sz0 | exact sz1 _ | exact sz2 _ _ | exact sz3 _ _ _ | exact sz4 _ _ _ _ | exact sz5 _ _ _ _ _ | exact sz6 _ _ _ _ _ _ | exact sz7 _ _ _ _ _ _ _ | exact sz8 _ _ _ _ _ _ _ _ | exact sz9 _ _ _ _ _ _ _ _ _ | apply q_eq | apply q_ne | apply d_str | apply q_len) | ((with_reducible refine c_tt ?_ ?_); · exact s1) | ((with_reducible refine c_ff ?_ ?_); · exact s1) | ((with_reducible refine c_tt ?_ ?_); · exact s2) | ((with_reducible refine c_ff ?_ ?_); · exact s2) | ((with_reducible refine c_tt ?_ ?_); · exact s3) | ((with_reducible refine c_ff ?_ ?_); · exact s3) | ((with_reducible refine c_tt ?_ ?_); · exact s4) | ((with_reducible refine c_ff ?_ ?_); · exact s4) | ((with_reducible refine c_tt ?_ ?_); · exact s5) | ((with_reducible refine c_ff ?_ ?_); · exact s5) | ((with_reducible refine c_tt ?_ ?_); · rfl) | ((with_reducible refine c_ff ?_ ?_); · rfl) | ((with_reducible refine div_pos _ _ ?_ ?_) <;> decide) | ((with_reducible refine mod_pos _ _ ?_); decide) | rfl | (intro q; cases q)))
    · (repeat (first | with_reducible (first | exact c3 | exact ey | apply e_lit | apply e_bor | apply e_var | apply o_none | apply s_nil | apply e_dict0 | apply xs_nil | apply i_nil | apply y_nil | apply e_bin | apply e_cmp | apply e_sub | apply e_slice | apply o_some | apply s_cons | apply e_call | apply e_bi | apply e_list | apply e_tuple | apply e_not | apply e_rev | apply e_met | apply e_ite | apply e_and | apply a_one | apply a_c | apply b_not | apply b_and | apply b_or | apply b_of | apply i_c | apply y_c | apply x_assign | apply x_ownL | apply x_setItem | apply x_append | apply x_ret | apply x_retOwn | apply x_ownCall | apply x_if | exact x_raise | apply xs_retE | apply xs_retO | apply xs_ifR | apply m_ret | apply xs_next | apply xs_ret | apply r_e | apply r_1 | apply r_zip | exact add_int _ _ | exact sub_int _ _ | exact sz0 | exact sz1 _ | exact sz2 _ _ | exact sz3 _ _ _ | exact sz4 _ _ _ _ | exact sz5 _ _ _ _ _ | exact sz6 _ _ _ _ _ _ | exact sz7 _ _ _ _ _ _ _ | exact sz8 _ _ _ _ _ _ _ _ | exact sz9 _ _ _ _ _ _ _ _ _ | apply q_eq | apply q_ne | apply d_str | apply q_len) | ((with_reducible refine c_tt ?_ ?_); · exact c3) | ((with_reducible refine c_ff ?_ ?_); · exact c3) | ((with_reducible refine c_tt ?_ ?_); · exact ey) | ((with_reducible refine c_ff ?_ ?_); · exact ey) | ((with_reducible refine c_tt ?_ ?_); · rfl) | ((with_reducible refine c_ff ?_ ?_); · rfl) | ((with_reducible refine div_pos _ _ ?_ ?_) <;> decide) | ((with_reducible refine mod_pos _ _ ?_); decide) | rfl | (intro q; cases q)))
  | false =>
  have T0 : ex prog cf false (.ite (.cmp .eq (.bor 2) (.lit (.int 0))) [.ownL 4 [(.bi .tupleOf [(.slice (.bor 1) none (some (.lit (.int 2))))]), (.bi .tupleOf [(.bin .add (.bor 1) (.list [(.lit (.str []))]))]), (.bi .listOf [(.bor 1)]), (.lit (.str [97, 98, 99])), (.lit .none), (.lit (.int 7)), (.tuple []), .dict0],
    .ret (.sub (.bor 4) (.bin .mod (.call 6 [(.var 0), (.lit (.int 3))]) (.lit (.int 8))))] []) (fr13 sc (.ownL [a, b, c]) wy pl .unset) = some (.ok .next, fr13 sc (.ownL [a, b, c]) wy pl .unset) := x_if (t := eqV (.int wy) (.int 0)) (σ₁ := fr13 sc (.ownL [a, b, c]) wy pl .unset) (by (repeat (first | with_reducible (first | apply e_lit | apply e_bor | apply e_var | apply o_none | apply s_nil | apply e_dict0 | apply xs_nil | apply i_nil | apply y_nil | apply e_bin | apply e_cmp | apply e_sub | apply e_slice | apply o_some | apply s_cons | apply e_call | apply e_bi | apply e_list | apply e_tuple | apply e_not | apply e_rev | apply e_met | apply e_ite | apply e_and | apply a_one | apply a_c | apply b_not | apply b_and | apply b_or | apply b_of | apply i_c | apply y_c | apply x_assign | apply x_ownL | apply x_setItem | apply x_append | apply x_ret | apply x_retOwn | apply x_ownCall | apply x_if | exact x_raise | apply xs_retE | apply xs_retO | apply xs_ifR | apply m_ret | apply xs_next | apply xs_ret | apply r_e | apply r_1 | apply r_zip | exact add_int _ _ | exact sub_int _ _ | exact sz0 | exact sz1 _ | exact sz2 _ _ | exact sz3 _ _ _ | exact sz4 _ _ _ _ | exact sz5 _ _ _ _ _ | exact sz6 _ _ _ _ _ _ | exact sz7 _ _ _ _ _ _ _ | exact sz8 _ _ _ _ _ _ _ _ | exact sz9 _ _ _ _ _ _ _ _ _ | apply q_eq | apply q_ne | apply d_str | apply q_len) | ((with_reducible refine c_tt ?_ ?_); · rfl) | ((with_reducible refine c_ff ?_ ?_); · rfl) | ((with_reducible refine div_pos _ _ ?_ ?_) <;> decide) | ((with_reducible refine mod_pos _ _ ?_); decide) | rfl | (intro q; cases q)))) (c_ff h0 xs_nil)
  cases h1 : eqV (.int wy) (.int 1) with
  | true =>
    have hi := fmod_in n3 6 (by decide)
    obtain ⟨y, hy, ey⟩ := sub_mem (l := [.none, .int 5, .bool true, .list [.str [97]], .tuple [.str [97]], .dict]) hi.1 hi.2 (by show 6 ≤ 1000; decide)
    obtain ⟨p, q, r, pp, pq, pr, eset⟩ := three_set hp pa pb pc (odd6 y hy)
    have s5 : biOp prog false .tupleOf [.list [p, q, r]] = some (.tuple [p, q, r]) := rfl
    refine ⟨.tuple [p, q, r], _, thing_tuple (show 3 ≤ 100 by decide) (parts3 pp pq pr), xs_next T0 (xs_next (σ₁ := fr13 sc (.ownL [p, q, r]) wy pl .unset) (x_if (t := eqV (.int wy) (.int 1)) (σ₁ := fr13 sc (.ownL [a, b, c]) wy pl .unset) ?_ (c_tt h1 (xs_next (x_setItem (x := y) (σ₁ := fr13 sc (.ownL [a, b, c]) wy pl .unset) (σ₂ := fr13 sc (.ownL [a, b, c]) wy pl .unset) ?_ rfl ?_ rfl (in3 hp) ?_) xs_nil))) (xs_retE (σ₁ := fr13 sc (.ownL [p, q, r]) wy pl .unset) ?_))⟩
    · (repeat (first | with_reducible (first | apply e_lit | apply e_bor | apply e_var | apply o_none | apply s_nil | apply e_dict0 | apply xs_nil | apply i_nil | apply y_nil | apply e_bin | apply e_cmp | apply e_sub | apply e_slice | apply o_some | apply s_cons | apply e_call | apply e_bi | apply e_list | apply e_tuple | apply e_not | apply e_rev | apply e_met | apply e_ite | apply e_and | apply a_one | apply a_c | apply b_not | apply b_and | apply b_or | apply b_of | apply i_c | apply y_c | apply x_assign | apply x_ownL | apply x_setItem | apply x_append | apply x_ret | apply x_retOwn | apply x_ownCall | apply x_if | exact x_raise | apply xs_retE | apply xs_retO | apply xs_ifR | apply m_ret | apply xs_next | apply xs_ret | apply r_e | apply r_1 | apply r_zip | exact add_int _ _ | exact sub_int _ _ | exact sz0 | exact sz1 _ | exact sz2 _ _ | exact sz3 _ _ _ | exact sz4 _ _ _ _ | exact sz5 _ _ _ _ _ | exact sz6 _ _ _ _ _ _ | exact sz7 _ _ _ _ _ _ _ | exact sz8 _ _ _ _ _ _ _ _ | exact sz9 _ _ _ _ _ _ _ _ _ | apply q_eq | apply q_ne | apply d_str | apply q_len) | ((with_reducible refine c_tt ?_ ?_); · rfl) | ((with_reducible refine c_ff ?_ ?_); · rfl) | ((with_reducible refine div_pos _ _ ?_ ?_) <;> decide) | ((with_reducible refine mod_pos _ _ ?_); decide) | rfl | (intro q; cases q)))
    · (repeat (first | with_reducible (first | exact c3 | exact ey | apply e_lit | apply e_bor | apply e_var | apply o_none | apply s_nil | apply e_dict0 | apply xs_nil | apply i_nil | apply y_nil | apply e_bin | apply e_cmp | apply e_sub | apply e_slice | apply o_some | apply s_cons | apply e_call | apply e_bi | apply e_list | apply e_tuple | apply e_not | apply e_rev | apply e_met | apply e_ite | apply e_and | apply a_one | apply a_c | apply b_not | apply b_and | apply b_or | apply b_of | apply i_c | apply y_c | apply x_assign | apply x_ownL | apply x_setItem | apply x_append | apply x_ret | apply x_retOwn | apply x_ownCall | apply x_if | exact x_raise | apply xs_retE | apply xs_retO | apply xs_ifR | apply m_ret | apply xs_next | apply xs_ret | apply r_e | apply r_1 | apply r_zip | exact add_int _ _ | exact sub_int _ _ | exact sz0 | exact sz1 _ | exact sz2 _ _ | exact sz3 _ _ _ | exact sz4 _ _ _ _ | exact sz5 _ _ _ _ _ | exact sz6 _ _ _ _ _ _ | exact sz7 _ _ _ _ _ _ _ | exact sz8 _ _ _ _ _ _ _ _ | exact sz9 _ _ _ _ _ _ _ _ _ | apply q_eq | apply q_ne | apply d_str | apply q_len) | ((with_reducible refine c_tt ?_ ?_); · exact c3) | ((with_reducible refine c_ff ?_ ?_); · exact c3) | ((with_reducible refine c_tt ?_ ?_); · exact ey) | ((with_reducible refine c_ff ?_ ?_); · exact ey) | ((with_reducible refine c_tt ?_ ?_); · rfl) | ((with_reducible refine c_ff ?_ ?_); · rfl) | ((with_reducible refine div_pos _ _ ?_ ?_) <;> decide) | ((with_reducible refine mod_pos _ _ ?_); decide) | rfl | (intro q; cases q)))
    · (repeat (first | with_reducible (first | apply e_lit | apply e_bor | apply e_var | apply o_none | apply s_nil | apply e_dict0 | apply xs_nil | apply i_nil | apply y_nil | apply e_bin | apply e_cmp | apply e_sub | apply e_slice | apply o_some | apply s_cons | apply e_call | apply e_bi | apply e_list | apply e_tuple | apply e_not | apply e_rev | apply e_met | apply e_ite | apply e_and | apply a_one | apply a_c | apply b_not | apply b_and | apply b_or | apply b_of | apply i_c | apply y_c | apply x_assign | apply x_ownL | apply x_setItem | apply x_append | apply x_ret | apply x_retOwn | apply x_ownCall | apply x_if | exact x_raise | apply xs_retE | apply xs_retO | apply xs_ifR | apply m_ret | apply xs_next | apply xs_ret | apply r_e | apply r_1 | apply r_zip | exact add_int _ _ | exact sub_int _ _ | exact sz0 | exact sz1 _ | exact sz2 _ _ | exact sz3 _ _ _ | exact sz4 _ _ _ _ | exact sz5 _ _ _ _ _ | exact sz6 _ _ _ _ _ _ | exact sz7 _ _ _ _ _ _ _ | exact sz8 _ _ _ _ _ _ _ _ | exact sz9 _ _ _ _ _ _ _ _ _ | apply q_eq | apply q_ne | apply d_str | apply q_len) | ((with_reducible refine c_tt ?_ ?_); · rfl) | ((with_reducible refine c_ff ?_ ?_); · rfl) | ((with_reducible refine div_pos _ _ ?_ ?_) <;> decide) | ((with_reducible refine mod_pos _ _ ?_); decide) | rfl | (intro q; cases q)))
    · rw [eset]; rfl
    · (repeat (first | with_reducible (first | exact s5 | apply e_lit | apply e_bor | apply e_var | apply o_none | apply s_nil | apply e_dict0 | apply xs_nil | apply i_nil | apply y_nil | apply e_bin | apply e_cmp | apply e_sub | apply e_slice | apply o_some | apply s_cons | apply e_call | apply e_bi | apply e_list | apply e_tuple | apply e_not | apply e_rev | apply e_met | apply e_ite | apply e_and | apply a_one | apply a_c | apply b_not | apply b_and | apply b_or | apply b_of | apply i_c | apply y_c | apply x_assign | apply x_ownL | apply x_setItem | apply x_append | apply x_ret | apply x_retOwn | apply x_ownCall | apply x_if | exact x_raise | apply xs_retE | apply xs_retO | apply xs_ifR | apply m_ret | apply xs_next | apply xs_ret | apply r_e | apply r_1 | apply r_zip | exact add_int _ _ | exact sub_int _ _ | exact sz0 | exact sz1 _ | exact sz2 _ _ | exact sz3 _ _ _ | exact sz4 _ _ _ _ | exact sz5 _ _ _ _ _ | exact sz6 _ _ _ _ _ _ | exact sz7 _ _ _ _ _ _ _ | exact sz8 _ _ _ _ _ _ _ _ | exact sz9 _ _ _ _ _ _ _ _ _ | apply q_eq | apply q_ne | apply d_str | apply q_len) | ((with_reducible refine c_tt ?_ ?_); · exact s5) | ((with_reducible refine c_ff ?_ ?_); · exact s5) | ((with_reducible refine c_tt ?_ ?_); · rfl) | ((with_reducible refine c_ff ?_ ?_); · rfl) | ((with_reducible refine div_pos _ _ ?_ ?_) <;> decide) | ((with_reducible refine mod_pos _ _ ?_); decide) | rfl | (intro q; cases q)))
  | false =>
    have s5 : biOp prog false .tupleOf [.list [a, b, c]] = some (.tuple [a, b, c]) := rfl
    refine ⟨.tuple [a, b, c], _, thing_tuple (show 3 ≤ 100 by decide) (parts3 pa pb pc), xs_next T0 (xs_next (x_if (t := eqV (.int wy) (.int 1)) (σ₁ := fr13 sc (.ownL [a, b, c]) wy pl .unset) ?_ (c_ff h1 xs_nil)) (xs_retE (σ₁ := fr13 sc (.ownL [a, b, c]) wy pl .unset) ?_))⟩
    · (repeat (first | with_reducible (first | apply e_lit | apply e_bor | apply e_var | apply o_none | apply s_nil | apply e_dict0 | apply xs_nil | apply i_nil | apply y_nil | apply e_bin | apply e_cmp | apply e_sub | apply e_slice | apply o_some | apply s_cons | apply e_call | apply e_bi | apply e_list | apply e_tuple | apply e_not | apply e_rev | apply e_met | apply e_ite | apply e_and | apply a_one | apply a_c | apply b_not | apply b_and | apply b_or | apply b_of | apply i_c | apply y_c | apply x_assign | apply x_ownL | apply x_setItem | apply x_append | apply x_ret | apply x_retOwn | apply x_ownCall | apply x_if | exact x_raise | apply xs_retE | apply xs_retO | apply xs_ifR | apply m_ret | apply xs_next | apply xs_ret | apply r_e | apply r_1 | apply r_zip | exact add_int _ _ | exact sub_int _ _ | exact sz0 | exact sz1 _ | exact sz2 _ _ | exact sz3 _ _ _ | exact sz4 _ _ _ _ | exact sz5 _ _ _ _ _ | exact sz6 _ _ _ _ _ _ | exact sz7 _ _ _ _ _ _ _ | exact sz8 _ _ _ _ _ _ _ _ | exact sz9 _ _ _ _ _ _ _ _ _ | apply q_eq | apply q_ne | apply d_str | apply q_len) | ((with_reducible refine c_tt ?_ ?_); · rfl) | ((with_reducible refine c_ff ?_ ?_); · rfl) | ((with_reducible refine div_pos _ _ ?_ ?_) <;> decide) | ((with_reducible refine mod_pos _ _ ?_); decide) | rfl | (intro q; cases q)))
    · (repeat (first | with_reducible (first | exact s5 | apply e_lit | apply e_bor | apply e_var | apply o_none | apply s_nil | apply e_dict0 | apply xs_nil | apply i_nil | apply y_nil | apply e_bin | apply e_cmp | apply e_sub | apply e_slice | apply o_some | apply s_cons | apply e_call | apply e_bi | apply e_list | apply e_tuple | apply e_not | apply e_rev | apply e_met | apply e_ite | apply e_and | apply a_one | apply a_c | apply b_not | apply b_and | apply b_or | apply b_of | apply i_c | apply y_c | apply x_assign | apply x_ownL | apply x_setItem | apply x_append | apply x_ret | apply x_retOwn | apply x_ownCall | apply x_if | exact x_raise | apply xs_retE | apply xs_retO | apply xs_ifR | apply m_ret | apply xs_next | apply xs_ret | apply r_e | apply r_1 | apply r_zip | exact add_int _ _ | exact sub_int _ _ | exact sz0 | exact sz1 _ | exact sz2 _ _ | exact sz3 _ _ _ | exact sz4 _ _ _ _ | exact sz5 _ _ _ _ _ | exact sz6 _ _ _ _ _ _ | exact sz7 _ _ _ _ _ _ _ | exact sz8 _ _ _ _ _ _ _ _ | exact sz9 _ _ _ _ _ _ _ _ _ | apply q_eq | apply q_ne | apply d_str | apply q_len) | ((with_reducible refine c_tt ?_ ?_); · exact s5) | ((with_reducible refine c_ff ?_ ?_); · exact s5) | ((with_reducible refine c_tt ?_ ?_); · rfl) | ((with_reducible refine c_ff ?_ ?_); · rfl) | ((with_reducible refine div_pos _ _ ?_ ?_) <;> decide) | ((with_reducible refine mod_pos _ _ ?_); decide) | rfl | (intro q; cases q)))
theorem call13 (d : Nat) (scr : List Int) (hs : scr.length ≤ 63) : ∃ x, thing x ∧ callN prog (d + 3) false 13 [.list (scr.map .int)] = some (.ok (.v x)) := by
  obtain ⟨a, b, c, la, lb, lc, h11⟩ := call11 d scr hs
  have c2 : callN prog (d + 2) false 6 [.list (scr.map .int), .int 2] = some (.ok (.v (.int (cellAt scr 2)))) := call6 (d + 1) false scr 2 (by decide) hs
  have c3 : callN prog (d + 2) false 6 [.list (scr.map .int), .int 3] = some (.ok (.v (.int (cellAt scr 3)))) := call6 (d + 1) false scr 3 (by decide) hs
  generalize cellAt scr 2 = n2 at c2
  obtain ⟨x, G, hx, e⟩ := tail13 (callN prog (d + 2)) (.list (scr.map .int)) a b c (n2.fmod 9) ((n2.fdiv 9).fmod 3) (cellAt scr 3) (fmod_in (n2.fdiv 9) 3 (by decide)) (text_part la) (text_part lb) (text_part lc) c3
  refine ⟨x, hx, fn_ret (fn := f13) (G := G) rfl rfl ?_⟩
  show exs prog (callN prog (d + 2)) false f13.body ⟨[.v (.list (scr.map .int)), .unset, .unset, .unset, .unset]⟩ = _
  simp only [f13, List.drop] at e ⊢
  refine xs_next (σ₁ := ⟨[.v (.list (scr.map .int)), .ownL [a, b, c], .unset, .unset, .unset]⟩) (by (repeat (first | with_reducible (first | exact h11 | apply e_lit | apply e_bor | apply e_var | apply o_none | apply s_nil | apply e_dict0 | apply xs_nil | apply i_nil | apply y_nil | apply e_bin | apply e_cmp | apply e_sub | apply e_slice | apply o_some | apply s_cons | apply e_call | apply e_bi | apply e_list | apply e_tuple | apply e_not | apply e_rev | apply e_met | apply e_ite | apply e_and | apply a_one | apply a_c | apply b_not | apply b_and | apply b_or | apply b_of | apply i_c | apply y_c | apply x_assign | apply x_ownL | apply x_setItem | apply x_append | apply x_ret | apply x_retOwn | apply x_ownCall | apply x_if | exact x_raise | apply xs_retE | apply xs_retO | apply xs_ifR | apply m_ret | apply xs_next | apply xs_ret | apply r_e | apply r_1 | apply r_zip | exact add_int _ _ | exact sub_int _ _ | exact sz0 | exact sz1 _ | exact sz2 _ _ | exact sz3 _ _ _ | exact sz4 _ _ _ _ | exact sz5 _ _ _ _ _ | exact sz6 _ _ _ _ _ _ | exact sz7 _ _ _ _ _ _ _ | exact sz8 _ _ _ _ _ _ _ _ | exact sz9 _ _ _ _ _ _ _ _ _ | apply q_eq | apply q_ne | apply d_str | apply q_len) | ((with_reducible refine c_tt ?_ ?_); · exact h11) | ((with_reducible refine c_ff ?_ ?_); · exact h11) | ((with_reducible refine c_tt ?_ ?_); · rfl) | ((with_reducible refine c_ff ?_ ?_); · rfl) | ((with_reducible refine div_pos _ _ ?_ ?_) <;> decide) | ((with_reducible refine mod_pos _ _ ?_); decide) | rfl | (intro q; cases q)))) ?_
  refine xs_next (σ₁ := ⟨[.v (.list (scr.map .int)), .ownL [a, b, c], .v (.int (n2.fmod 9)), .unset, .unset]⟩) (by (repeat (first | with_reducible (first | exact c2 | apply e_lit | apply e_bor | apply e_var | apply o_none | apply s_nil | apply e_dict0 | apply xs_nil | apply i_nil | apply y_nil | apply e_bin | apply e_cmp | apply e_sub | apply e_slice | apply o_some | apply s_cons | apply e_call | apply e_bi | apply e_list | apply e_tuple | apply e_not | apply e_rev | apply e_met | apply e_ite | apply e_and | apply a_one | apply a_c | apply b_not | apply b_and | apply b_or | apply b_of | apply i_c | apply y_c | apply x_assign | apply x_ownL | apply x_setItem | apply x_append | apply x_ret | apply x_retOwn | apply x_ownCall | apply x_if | exact x_raise | apply xs_retE | apply xs_retO | apply xs_ifR | apply m_ret | apply xs_next | apply xs_ret | apply r_e | apply r_1 | apply r_zip | exact add_int _ _ | exact sub_int _ _ | exact sz0 | exact sz1 _ | exact sz2 _ _ | exact sz3 _ _ _ | exact sz4 _ _ _ _ | exact sz5 _ _ _ _ _ | exact sz6 _ _ _ _ _ _ | exact sz7 _ _ _ _ _ _ _ | exact sz8 _ _ _ _ _ _ _ _ | exact sz9 _ _ _ _ _ _ _ _ _ | apply q_eq | apply q_ne | apply d_str | apply q_len) | ((with_reducible refine c_tt ?_ ?_); · exact c2) | ((with_reducible refine c_ff ?_ ?_); · exact c2) | ((with_reducible refine c_tt ?_ ?_); · rfl) | ((with_reducible refine c_ff ?_ ?_); · rfl) | ((with_reducible refine div_pos _ _ ?_ ?_) <;> decide) | ((with_reducible refine mod_pos _ _ ?_); decide) | rfl | (intro q; cases q)))) ?_
  exact xs_next (σ₁ := fr13 (.list (scr.map .int)) (.ownL [a, b, c]) (n2.fmod 9) ((n2.fdiv 9).fmod 3) .unset) (by (repeat (first | with_reducible (first | exact c2 | apply e_lit | apply e_bor | apply e_var | apply o_none | apply s_nil | apply e_dict0 | apply xs_nil | apply i_nil | apply y_nil | apply e_bin | apply e_cmp | apply e_sub | apply e_slice | apply o_some | apply s_cons | apply e_call | apply e_bi | apply e_list | apply e_tuple | apply e_not | apply e_rev | apply e_met | apply e_ite | apply e_and | apply a_one | apply a_c | apply b_not | apply b_and | apply b_or | apply b_of | apply i_c | apply y_c | apply x_assign | apply x_ownL | apply x_setItem | apply x_append | apply x_ret | apply x_retOwn | apply x_ownCall | apply x_if | exact x_raise | apply xs_retE | apply xs_retO | apply xs_ifR | apply m_ret | apply xs_next | apply xs_ret | apply r_e | apply r_1 | apply r_zip | exact add_int _ _ | exact sub_int _ _ | exact sz0 | exact sz1 _ | exact sz2 _ _ | exact sz3 _ _ _ | exact sz4 _ _ _ _ | exact sz5 _ _ _ _ _ | exact sz6 _ _ _ _ _ _ | exact sz7 _ _ _ _ _ _ _ | exact sz8 _ _ _ _ _ _ _ _ | exact sz9 _ _ _ _ _ _ _ _ _ | apply q_eq | apply q_ne | apply d_str | apply q_len) | ((with_reducible refine c_tt ?_ ?_); · exact c2) | ((with_reducible refine c_ff ?_ ?_); · exact c2) | ((with_reducible refine c_tt ?_ ?_); · rfl) | ((with_reducible refine c_ff ?_ ?_); · rfl) | ((with_reducible refine div_pos _ _ ?_ ?_) <;> decide) | ((with_reducible refine mod_pos _ _ ?_); decide) | rfl | (intro q; cases q)))) e
end Mine.L01
end

noncomputable section
set_option maxRecDepth 100000
set_option linter.unusedSimpArgs false
set_option linter.unusedVariables false
namespace Mine.L01
open Mine.Pl
theorem due_ok (b : Bool) : okEq (due b) = true := by cases b <;> rfl
theorem due_eq (b : Bool) : (!eqV (due b) (due b)) = false := by cases b <;> rfl
theorem ev_due {cf : CallF} {e : E} {b : Bool} {σ σ' : St} (h : evB prog cf false e (ev prog cf false e) σ = some (.ok b, σ')) : ev prog cf false (.ite e (.lit (.bool true)) (.tuple [(.lit (.str kRef)), (.lit (.bool true))])) σ = some (.ok (due b), σ') := by
  cases b with
  | true => exact e_ite h (c_tt rfl e_lit)
  | false => exact e_ite h (c_ff rfl rfl)
theorem ne_due {cf : CallF} {e : E} {b : Bool} {k : Nat} {σ : St} (h : ev prog cf false e σ = some (.ok (due b), σ)) (hg : borVar k σ = some (.ok (due b), σ)) :
    exs prog cf false [.ite (.cmp .ne e (.bor k)) [.ret (.lit (.bool false))] []] σ = some (.ok .next, σ) :=
  xs_next (x_if (b_of rfl (e_cmp h (e_bor hg) (q_ne (due_ok b) (due_ok b)))) (c_ff (due_eq b) xs_nil)) xs_nil
noncomputable abbrev fr17 (sc t k dd sn q5 q6 q7 q8 q9 : Slot) : St := ⟨[sc, t, k, dd, sn, q5, q6, q7, q8, q9, .unset, .unset]⟩
theorem turn1 (d : Nat) (x : V) (hx : thing x) (sc k dd q4 q5 q6 q7 q8 q9 : Slot) : exs prog (callN prog (d + 4)) false f17b0 (fr17 sc (.v x) k dd q4 q5 q6 q7 q8 q9) = some (.ok .next, fr17 sc (.v x) k (.v (due (goodV x))) q4 q5 q6 q7 q8 q9) := by
  have h12 := call12 (d + 3) x hx
  have h14 := call14a d x (.str []) hx
  simp only [f17b0]
  refine xs_next (x_assign (ev_due (b := goodV x) (σ' := fr17 sc (.v x) k dd q4 q5 q6 q7 q8 q9) ?_) rfl) (ne_due (b := goodV x) ?_ rfl)
  · (repeat (first | with_reducible (first | exact h12 | apply e_lit | apply e_bor | apply e_var | apply o_none | apply s_nil | apply e_dict0 | apply xs_nil | apply i_nil | apply y_nil | apply e_bin | apply e_cmp | apply e_sub | apply e_slice | apply o_some | apply s_cons | apply e_call | apply e_bi | apply e_list | apply e_tuple | apply e_not | apply e_rev | apply e_met | apply e_ite | apply e_and | apply a_one | apply a_c | apply b_not | apply b_and | apply b_or | apply b_of | apply i_c | apply y_c | apply x_assign | apply x_ownL | apply x_setItem | apply x_append | apply x_ret | apply x_retOwn | apply x_ownCall | apply x_if | exact x_raise | apply xs_retE | apply xs_retO | apply xs_ifR | apply m_ret | apply xs_next | apply xs_ret | apply r_e | apply r_1 | apply r_zip | exact add_int _ _ | exact sub_int _ _ | exact sz0 | exact sz1 _ | exact sz2 _ _ | exact sz3 _ _ _ | exact sz4 _ _ _ _ | exact sz5 _ _ _ _ _ | exact sz6 _ _ _ _ _ _ | exact sz7 _ _ _ _ _ _ _ | exact sz8 _ _ _ _ _ _ _ _ | exact sz9 _ _ _ _ _ _ _ _ _ | apply q_eq | apply q_ne | apply d_str | apply q_len) | ((with_reducible refine c_tt ?_ ?_); · exact h12) | ((with_reducible refine c_ff ?_ ?_); · exact h12) | ((with_reducible refine c_tt ?_ ?_); · rfl) | ((with_reducible refine c_ff ?_ ?_); · rfl) | ((with_reducible refine div_pos _ _ ?_ ?_) <;> decide) | ((with_reducible refine mod_pos _ _ ?_); decide) | rfl | (intro q; cases q)))
  · show ev prog (callN prog (d + 4)) false _ (fr17 sc (.v x) k (.v (due (goodV x))) q4 q5 q6 q7 q8 q9) = _
    (repeat (first | with_reducible (first | exact h14 | apply e_lit | apply e_bor | apply e_var | apply o_none | apply s_nil | apply e_dict0 | apply xs_nil | apply i_nil | apply y_nil | apply e_bin | apply e_cmp | apply e_sub | apply e_slice | apply o_some | apply s_cons | apply e_call | apply e_bi | apply e_list | apply e_tuple | apply e_not | apply e_rev | apply e_met | apply e_ite | apply e_and | apply a_one | apply a_c | apply b_not | apply b_and | apply b_or | apply b_of | apply i_c | apply y_c | apply x_assign | apply x_ownL | apply x_setItem | apply x_append | apply x_ret | apply x_retOwn | apply x_ownCall | apply x_if | exact x_raise | apply xs_retE | apply xs_retO | apply xs_ifR | apply m_ret | apply xs_next | apply xs_ret | apply r_e | apply r_1 | apply r_zip | exact add_int _ _ | exact sub_int _ _ | exact sz0 | exact sz1 _ | exact sz2 _ _ | exact sz3 _ _ _ | exact sz4 _ _ _ _ | exact sz5 _ _ _ _ _ | exact sz6 _ _ _ _ _ _ | exact sz7 _ _ _ _ _ _ _ | exact sz8 _ _ _ _ _ _ _ _ | exact sz9 _ _ _ _ _ _ _ _ _ | apply q_eq | apply q_ne | apply d_str | apply q_len) | ((with_reducible refine c_tt ?_ ?_); · exact h14) | ((with_reducible refine c_ff ?_ ?_); · exact h14) | ((with_reducible refine c_tt ?_ ?_); · rfl) | ((with_reducible refine c_ff ?_ ?_); · rfl) | ((with_reducible refine div_pos _ _ ?_ ?_) <;> decide) | ((with_reducible refine mod_pos _ _ ?_); decide) | rfl | (intro q; cases q)))
theorem turn2 (d : Nat) (a b c : List Nat) (x : V) (hx : part x) (sc t k dd q5 q7 q8 q9 : Slot) : exs prog (callN prog (d + 4)) false f17b2 (fr17 sc t k dd (.v (sg a b c)) q5 (.v x) q7 q8 q9) = some (.ok .next, fr17 sc t k (.v (due (isWord a b c x))) (.v (sg a b c)) q5 (.v x) q7 q8 q9) := by
  have h15 := call15 (d + 3) a b c x hx
  have h14 := call14b d a b c x hx
  simp only [f17b2]
  refine xs_next (x_assign (ev_due (b := isWord a b c x) (σ' := fr17 sc t k dd (.v (sg a b c)) q5 (.v x) q7 q8 q9) ?_) rfl) (ne_due (b := isWord a b c x) ?_ rfl)
  · (repeat (first | with_reducible (first | exact h15 | apply e_lit | apply e_bor | apply e_var | apply o_none | apply s_nil | apply e_dict0 | apply xs_nil | apply i_nil | apply y_nil | apply e_bin | apply e_cmp | apply e_sub | apply e_slice | apply o_some | apply s_cons | apply e_call | apply e_bi | apply e_list | apply e_tuple | apply e_not | apply e_rev | apply e_met | apply e_ite | apply e_and | apply a_one | apply a_c | apply b_not | apply b_and | apply b_or | apply b_of | apply i_c | apply y_c | apply x_assign | apply x_ownL | apply x_setItem | apply x_append | apply x_ret | apply x_retOwn | apply x_ownCall | apply x_if | exact x_raise | apply xs_retE | apply xs_retO | apply xs_ifR | apply m_ret | apply xs_next | apply xs_ret | apply r_e | apply r_1 | apply r_zip | exact add_int _ _ | exact sub_int _ _ | exact sz0 | exact sz1 _ | exact sz2 _ _ | exact sz3 _ _ _ | exact sz4 _ _ _ _ | exact sz5 _ _ _ _ _ | exact sz6 _ _ _ _ _ _ | exact sz7 _ _ _ _ _ _ _ | exact sz8 _ _ _ _ _ _ _ _ | exact sz9 _ _ _ _ _ _ _ _ _ | apply q_eq | apply q_ne | apply d_str | apply q_len) | ((with_reducible refine c_tt ?_ ?_); · exact h15) | ((with_reducible refine c_ff ?_ ?_); · exact h15) | ((with_reducible refine c_tt ?_ ?_); · rfl) | ((with_reducible refine c_ff ?_ ?_); · rfl) | ((with_reducible refine div_pos _ _ ?_ ?_) <;> decide) | ((with_reducible refine mod_pos _ _ ?_); decide) | rfl | (intro q; cases q)))
  · show ev prog (callN prog (d + 4)) false _ (fr17 sc t k (.v (due (isWord a b c x))) (.v (sg a b c)) q5 (.v x) q7 q8 q9) = _
    (repeat (first | with_reducible (first | exact h14 | apply e_lit | apply e_bor | apply e_var | apply o_none | apply s_nil | apply e_dict0 | apply xs_nil | apply i_nil | apply y_nil | apply e_bin | apply e_cmp | apply e_sub | apply e_slice | apply o_some | apply s_cons | apply e_call | apply e_bi | apply e_list | apply e_tuple | apply e_not | apply e_rev | apply e_met | apply e_ite | apply e_and | apply a_one | apply a_c | apply b_not | apply b_and | apply b_or | apply b_of | apply i_c | apply y_c | apply x_assign | apply x_ownL | apply x_setItem | apply x_append | apply x_ret | apply x_retOwn | apply x_ownCall | apply x_if | exact x_raise | apply xs_retE | apply xs_retO | apply xs_ifR | apply m_ret | apply xs_next | apply xs_ret | apply r_e | apply r_1 | apply r_zip | exact add_int _ _ | exact sub_int _ _ | exact sz0 | exact sz1 _ | exact sz2 _ _ | exact sz3 _ _ _ | exact sz4 _ _ _ _ | exact sz5 _ _ _ _ _ | exact sz6 _ _ _ _ _ _ | exact sz7 _ _ _ _ _ _ _ | exact sz8 _ _ _ _ _ _ _ _ | exact sz9 _ _ _ _ _ _ _ _ _ | apply q_eq | apply q_ne | apply d_str | apply q_len) | ((with_reducible refine c_tt ?_ ?_); · exact h14) | ((with_reducible refine c_ff ?_ ?_); · exact h14) | ((with_reducible refine c_tt ?_ ?_); · rfl) | ((with_reducible refine c_ff ?_ ?_); · rfl) | ((with_reducible refine div_pos _ _ ?_ ?_) <;> decide) | ((with_reducible refine mod_pos _ _ ?_); decide) | rfl | (intro q; cases q)))
noncomputable def kin (x : Nat) (a k : List Nat) (ys : List V) : List V := if a.elem x = true then .str k :: ys else ys
noncomputable def kinds (a b c : List Nat) (x : Nat) : List V := kin x a kOpen (kin x b kClose (kin x c kOn []))
theorem kin_len (x : Nat) (a k : List Nat) (ys : List V) : (kin x a k ys).length ≤ ys.length + 1 := by
  unfold kin
  cases a.elem x with
  | true => exact Nat.le_refl _
  | false => exact Nat.le_succ _
theorem kinds_len (a b c : List Nat) (x : Nat) : (kinds a b c x).length ≤ 3 := Nat.le_trans (kin_len ..) (Nat.succ_le_succ (Nat.le_trans (kin_len ..) (Nat.succ_le_succ (kin_len ..))))
theorem kinds_0 (a b c : List Nat) (x : Nat) : (kinds a b c x ++ [V.str []])[0]? = some (.str (kindV a b c (.str [x]))) := by
  rw [kind1]
  unfold kinds kin
  cases a.elem x with
  | true => rfl
  | false => cases b.elem x with
    | true => rfl
    | false => cases c.elem x <;> rfl
theorem kind_ok (a b c : List Nat) (x : Nat) : okEq (.str (kindV a b c (.str [x]))) = true := by
  rw [kind1]
  cases a.elem x with
  | true => rfl
  | false => cases b.elem x with
    | true => rfl
    | false => cases c.elem x <;> rfl
theorem str_eq (s : List Nat) : (!eqV (.str s) (.str s)) = false := by
  show (!(s == s)) = false
  rw [beq_self_eq_true]; rfl
theorem compL_c {el : M V} {tst : M Bool} {t : Tgt} {x : V} {xs : List V} {σ σ₁ σ₂ : St} {ok : Bool} {r : Option (Except Nat (List V) × St)} (h : storeTgt t x σ = some (.ok (), σ₁)) (h2 : tst σ₁ = some (.ok ok, σ₂)) (h3 : (if ok = true then M.bind el (fun y => M.bind (compL el tst t xs) fun ys => M.pure (y :: ys)) else compL el tst t xs) σ₂ = r) : compL el tst t (x :: xs) σ = r :=
  show M.bind (storeTgt t x) (fun _ => M.bind tst fun ok => if ok = true then M.bind el fun y => M.bind (compL el tst t xs) fun ys => M.pure (y :: ys) else compL el tst t xs) σ = _ from bind_ok h (bind_ok h2 h3)
theorem ev_compM {cf : CallF} {el : E} {t : Tgt} {src : Src} {ifs : List E} {σ σ₁ σ₂ σ₃ : St} {xs ys : List V} (h1 : evSrc prog cf false src σ = some (.ok xs, σ₁)) (h2 : compL (M.noErr (ev prog cf false el)) (M.noErr (evIfs prog cf false ifs)) t xs σ₁ = some (.ok ys, σ₂)) (h3 : clearSlots t.slots σ₂ = some (.ok (), σ₃)) : ev prog cf false (.comp el t src ifs) σ = some (.ok (.list ys), σ₃) :=
  show M.bind (evSrc prog cf false src) (fun xs => M.bind (compL (M.noErr (ev prog cf false el)) (M.noErr (evIfs prog cf false ifs)) t xs) fun ys => M.bind (clearSlots t.slots) fun _ => M.pure (V.list ys)) σ = _ from bind_ok h1 (bind_ok h2 (bind_ok h3 rfl))
theorem comp1 {cf : CallF} {x : Nat} {sc t k dd sn q5 q6 q8 q9 u v : Slot} {kd a : List Nat} {r ys : List V} {τ : St}
    (h : compL (M.noErr (ev prog cf false f17b3)) (M.noErr (evIfs prog cf false [(.cmp .inn (.bor 7) (.bor 11))])) (.many [10, 11]) r ⟨[sc, t, k, dd, sn, q5, q6, .v (.str [x]), q8, q9, .v (.str kd), .v (.str a)]⟩ = some (.ok ys, τ)) :
    compL (M.noErr (ev prog cf false f17b3)) (M.noErr (evIfs prog cf false [(.cmp .inn (.bor 7) (.bor 11))])) (.many [10, 11]) (.tuple [.str kd, .str a] :: r) ⟨[sc, t, k, dd, sn, q5, q6, .v (.str [x]), q8, q9, u, v]⟩ = some (.ok (kin x a kd ys), τ) := by
  have e0 : evIfs prog cf false [(.cmp .inn (.bor 7) (.bor 11))] ⟨[sc, t, k, dd, sn, q5, q6, .v (.str [x]), q8, q9, .v (.str kd), .v (.str a)]⟩ = some (.ok (a.elem x && true), ⟨[sc, t, k, dd, sn, q5, q6, .v (.str [x]), q8, q9, .v (.str kd), .v (.str a)]⟩) := i_and (by (repeat (first | with_reducible (first | apply e_lit | apply e_bor | apply e_var | apply o_none | apply s_nil | apply e_dict0 | apply xs_nil | apply i_nil | apply y_nil | apply e_bin | apply e_cmp | apply e_sub | apply e_slice | apply o_some | apply s_cons | apply e_call | apply e_bi | apply e_list | apply e_tuple | apply e_not | apply e_rev | apply e_met | apply e_ite | apply e_and | apply a_one | apply a_c | apply b_not | apply b_and | apply b_or | apply b_of | apply i_c | apply y_c | apply x_assign | apply x_ownL | apply x_setItem | apply x_append | apply x_ret | apply x_retOwn | apply x_ownCall | apply x_if | exact x_raise | apply xs_retE | apply xs_retO | apply xs_ifR | apply m_ret | apply xs_next | apply xs_ret | apply r_e | apply r_1 | apply r_zip | exact add_int _ _ | exact sub_int _ _ | exact sz0 | exact sz1 _ | exact sz2 _ _ | exact sz3 _ _ _ | exact sz4 _ _ _ _ | exact sz5 _ _ _ _ _ | exact sz6 _ _ _ _ _ _ | exact sz7 _ _ _ _ _ _ _ | exact sz8 _ _ _ _ _ _ _ _ | exact sz9 _ _ _ _ _ _ _ _ _ | apply q_eq | apply q_ne | apply d_str | apply q_len) | ((with_reducible refine c_tt ?_ ?_); · rfl) | ((with_reducible refine c_ff ?_ ?_); · rfl) | ((with_reducible refine div_pos _ _ ?_ ?_) <;> decide) | ((with_reducible refine mod_pos _ _ ?_); decide) | rfl | (intro q; cases q)))) i_nil
  refine compL_c (σ₁ := ⟨[sc, t, k, dd, sn, q5, q6, .v (.str [x]), q8, q9, .v (.str kd), .v (.str a)]⟩) rfl (no_err e0) ?_
  unfold kin
  cases a.elem x with
  | true => exact show M.bind (M.noErr (ev prog cf false f17b3)) (fun y => M.bind (compL (M.noErr (ev prog cf false f17b3)) (M.noErr (evIfs prog cf false [(.cmp .inn (.bor 7) (.bor 11))])) (.many [10, 11]) r) fun ys => M.pure (y :: ys)) ⟨[sc, t, k, dd, sn, q5, q6, .v (.str [x]), q8, q9, .v (.str kd), .v (.str a)]⟩ = _ from bind_ok (u := V.str kd) rfl (bind_ok h rfl)
  | false => exact h
theorem turn3 (d : Nat) (a b c : List Nat) (x : Nat) (sc t k dd q5 q6 q8 q9 : Slot) : exs prog (callN prog (d + 1)) false f17b4 (fr17 sc t k dd (.v (sg a b c)) q5 q6 (.v (.str [x])) q8 q9) =
    some (.ok .next, fr17 sc t k dd (.v (sg a b c)) q5 q6 (.v (.str [x])) (.v (.list (kinds a b c x ++ [.str []]))) q9) := by
  have h3 := call3 d a b c (.str [x]) (show 1 ≤ 1000 by decide)
  have hc : ev prog (callN prog (d + 1)) false (.comp f17b3 (.many [10, 11]) (.zip [(.tuple [(.lit (.str kOpen)), (.lit (.str kClose)), (.lit (.str kOn))]), (.var 4)]) [(.cmp .inn (.bor 7) (.bor 11))]) (fr17 sc t k dd (.v (sg a b c)) q5 q6 (.v (.str [x])) q8 q9) =
      some (.ok (.list (kinds a b c x)), fr17 sc t k dd (.v (sg a b c)) q5 q6 (.v (.str [x])) q8 q9) :=
    ev_compM (xs := [.tuple [.str kOpen, .str a], .tuple [.str kClose, .str b], .tuple [.str kOn, .str c]]) (σ₁ := fr17 sc t k dd (.v (sg a b c)) q5 q6 (.v (.str [x])) q8 q9) rfl (comp1 (comp1 (comp1 rfl))) rfl
  have hl := kinds_len a b c x
  have had : binOp .add (.list (kinds a b c x)) (.list [.str []]) = some (.list (kinds a b c x ++ [.str []])) := add_list (by simp; omega)
  have hsb : subOp (.list (kinds a b c x ++ [.str []])) (.int 0) = some (.str (kindV a b c (.str [x]))) := sub_list (k := 0) (by decide) (kinds_0 a b c x)
  have hkd := kind_ok a b c x
  simp only [f17b4]
  refine xs_next (σ₁ := fr17 sc t k dd (.v (sg a b c)) q5 q6 (.v (.str [x])) (.v (.list (kinds a b c x ++ [.str []]))) q9) (by (repeat (first | with_reducible (first | exact hc | exact had | apply e_lit | apply e_bor | apply e_var | apply o_none | apply s_nil | apply e_dict0 | apply xs_nil | apply i_nil | apply y_nil | apply e_bin | apply e_cmp | apply e_sub | apply e_slice | apply o_some | apply s_cons | apply e_call | apply e_bi | apply e_list | apply e_tuple | apply e_not | apply e_rev | apply e_met | apply e_ite | apply e_and | apply a_one | apply a_c | apply b_not | apply b_and | apply b_or | apply b_of | apply i_c | apply y_c | apply x_assign | apply x_ownL | apply x_setItem | apply x_append | apply x_ret | apply x_retOwn | apply x_ownCall | apply x_if | exact x_raise | apply xs_retE | apply xs_retO | apply xs_ifR | apply m_ret | apply xs_next | apply xs_ret | apply r_e | apply r_1 | apply r_zip | exact add_int _ _ | exact sub_int _ _ | exact sz0 | exact sz1 _ | exact sz2 _ _ | exact sz3 _ _ _ | exact sz4 _ _ _ _ | exact sz5 _ _ _ _ _ | exact sz6 _ _ _ _ _ _ | exact sz7 _ _ _ _ _ _ _ | exact sz8 _ _ _ _ _ _ _ _ | exact sz9 _ _ _ _ _ _ _ _ _ | apply q_eq | apply q_ne | apply d_str | apply q_len) | ((with_reducible refine c_tt ?_ ?_); · exact hc) | ((with_reducible refine c_ff ?_ ?_); · exact hc) | ((with_reducible refine c_tt ?_ ?_); · exact had) | ((with_reducible refine c_ff ?_ ?_); · exact had) | ((with_reducible refine c_tt ?_ ?_); · rfl) | ((with_reducible refine c_ff ?_ ?_); · rfl) | ((with_reducible refine div_pos _ _ ?_ ?_) <;> decide) | ((with_reducible refine mod_pos _ _ ?_); decide) | rfl | (intro q; cases q)))) ?_
  (repeat (first | with_reducible (first | exact h3 | exact hsb | exact hkd | exact str_eq _ | apply e_lit | apply e_bor | apply e_var | apply o_none | apply s_nil | apply e_dict0 | apply xs_nil | apply i_nil | apply y_nil | apply e_bin | apply e_cmp | apply e_sub | apply e_slice | apply o_some | apply s_cons | apply e_call | apply e_bi | apply e_list | apply e_tuple | apply e_not | apply e_rev | apply e_met | apply e_ite | apply e_and | apply a_one | apply a_c | apply b_not | apply b_and | apply b_or | apply b_of | apply i_c | apply y_c | apply x_assign | apply x_ownL | apply x_setItem | apply x_append | apply x_ret | apply x_retOwn | apply x_ownCall | apply x_if | exact x_raise | apply xs_retE | apply xs_retO | apply xs_ifR | apply m_ret | apply xs_next | apply xs_ret | apply r_e | apply r_1 | apply r_zip | exact add_int _ _ | exact sub_int _ _ | exact sz0 | exact sz1 _ | exact sz2 _ _ | exact sz3 _ _ _ | exact sz4 _ _ _ _ | exact sz5 _ _ _ _ _ | exact sz6 _ _ _ _ _ _ | exact sz7 _ _ _ _ _ _ _ | exact sz8 _ _ _ _ _ _ _ _ | exact sz9 _ _ _ _ _ _ _ _ _ | apply q_eq | apply q_ne | apply d_str | apply q_len) | ((with_reducible refine c_tt ?_ ?_); · exact h3) | ((with_reducible refine c_ff ?_ ?_); · exact h3) | ((with_reducible refine c_tt ?_ ?_); · exact hsb) | ((with_reducible refine c_ff ?_ ?_); · exact hsb) | ((with_reducible refine c_tt ?_ ?_); · exact hkd) | ((with_reducible refine c_ff ?_ ?_); · exact hkd) | ((with_reducible refine c_tt ?_ ?_); · exact str_eq _) | ((with_reducible refine c_ff ?_ ?_); · exact str_eq _) | ((with_reducible refine c_tt ?_ ?_); · rfl) | ((with_reducible refine c_ff ?_ ?_); · rfl) | ((with_reducible refine div_pos _ _ ?_ ?_) <;> decide) | ((with_reducible refine mod_pos _ _ ?_); decide) | rfl | (intro q; cases q)))
theorem loop17 (d : Nat) (a b c : List Nat) (sc t k dd q5 q6 q9 : Slot) : ∀ (l : List Nat) (q7 q8 : Slot), ∃ q7' q8', forL (M.noErr (exs prog (callN prog (d + 1)) false f17b4)) (.one 7) (charsV l) (fr17 sc t k dd (.v (sg a b c)) q5 q6 q7 q8 q9) =
    some (.ok .next, fr17 sc t k dd (.v (sg a b c)) q5 q6 q7' q8' q9)
  | [], q7, q8 => ⟨q7, q8, rfl⟩
  | x :: l, q7, q8 => by
    obtain ⟨q7', q8', e⟩ := loop17 d a b c sc t k dd q5 q6 q9 l (.v (.str [x])) (.v (.list (kinds a b c x ++ [.str []])))
    exact ⟨q7', q8', (forL_next rfl (turn3 d a b c x sc t k dd q5 q6 q8 q9)).trans e⟩
theorem kind_long {a b c s : List Nat} (h : 2 ≤ s.length) : kindV a b c (.str s) = [] := by
  match s, h with
  | x :: y :: r, _ => rfl
theorem not_low {l : List Nat} {x : Nat} (hx : low x = false) (hl : ∀ y ∈ l, low y = true) : l.elem x = false := by
  cases e : l.elem x with
  | false => rfl
  | true => rw [hl x (List.mem_of_elem_eq_true e)] at hx; cases hx
theorem kind_odd {a b c : List Nat} (sn : Sgn a b c) {x : Nat} (hx : low x = false) : kindV a b c (.str [x]) = [] := by
  rw [kind1, not_low hx sn.ha, not_low hx sn.hb, not_low hx sn.hc]; rfl
theorem odd17 {a b c : List Nat} (sn : Sgn a b c) : ∀ y ∈ [V.str [], .str [65], .str [32], .none, .int 5, .bool true, .list [.str [97]], .str (a ++ b ++ c ++ [97, 97])], part y ∧ kindV a b c y = [] :=
  List.forall_mem_cons.mpr ⟨⟨Nat.zero_le _, rfl⟩, List.forall_mem_cons.mpr ⟨⟨show 1 ≤ 1000 by decide, kind_odd sn (by decide)⟩, List.forall_mem_cons.mpr ⟨⟨show 1 ≤ 1000 by decide, kind_odd sn (by decide)⟩, List.forall_mem_cons.mpr ⟨⟨trivial, rfl⟩, List.forall_mem_cons.mpr ⟨⟨trivial, rfl⟩, List.forall_mem_cons.mpr ⟨⟨trivial, rfl⟩, List.forall_mem_cons.mpr ⟨⟨trivial, rfl⟩,
    List.forall_mem_cons.mpr ⟨⟨show (a ++ b ++ c ++ [97, 97]).length ≤ 1000 by have := sn.la; have := sn.lb; have := sn.lc; simp; omega, kind_long (by simp; omega)⟩, fun _ h => nomatch h⟩⟩⟩⟩⟩⟩⟩⟩
theorem tail17 (d : Nat) {a b c : List Nat} (sn : Sgn a b c) (sc : V) (n : Int) (c5 : callN prog (d + 4) false 6 [sc, .int 5] = some (.ok (.v (.int n)))) (t k dd q5 q6 q7 q8 : Slot) : ∃ G, exs prog (callN prog (d + 4)) false (f17.body.drop 7) (fr17 (.v sc) t k dd (.v (sg a b c)) q5 q6 q7 q8 .unset) = some (.ok (.ret (.v (.bool true))), ⟨G⟩) := by
  have hi := fmod_in n 8 (by decide)
  have la := sn.la
  have lb := sn.lb
  have lc := sn.lc
  have ea1 : binOp .add (.str a) (.str b) = some (.str (a ++ b)) := add_str (by omega)
  have ea2 : binOp .add (.str (a ++ b)) (.str c) = some (.str (a ++ b ++ c)) := add_str (by simp; omega)
  have ea3 : binOp .add (.str (a ++ b ++ c)) (.str [97, 97]) = some (.str (a ++ b ++ c ++ [97, 97])) := add_str (by simp; omega)
  obtain ⟨od, hod, eod⟩ := sub_mem (l := [.str [], .str [65], .str [32], .none, .int 5, .bool true, .list [.str [97]], .str (a ++ b ++ c ++ [97, 97])]) hi.1 hi.2 (by show 8 ≤ 1000; decide)
  have pod := odd17 sn od hod
  have h3 := call3 (d + 3) a b c od pod.1
  rw [pod.2] at h3
  simp only [f17, List.drop]
  refine ⟨_, xs_next (σ₁ := fr17 (.v sc) t k dd (.v (sg a b c)) q5 q6 q7 q8 (.v od)) (by (repeat (first | with_reducible (first | exact g0 a b c | exact g1 a b c | exact g2 a b c | exact ea1 | exact ea2 | exact ea3 | exact c5 | exact eod | apply e_lit | apply e_bor | apply e_var | apply o_none | apply s_nil | apply e_dict0 | apply xs_nil | apply i_nil | apply y_nil | apply e_bin | apply e_cmp | apply e_sub | apply e_slice | apply o_some | apply s_cons | apply e_call | apply e_bi | apply e_list | apply e_tuple | apply e_not | apply e_rev | apply e_met | apply e_ite | apply e_and | apply a_one | apply a_c | apply b_not | apply b_and | apply b_or | apply b_of | apply i_c | apply y_c | apply x_assign | apply x_ownL | apply x_setItem | apply x_append | apply x_ret | apply x_retOwn | apply x_ownCall | apply x_if | exact x_raise | apply xs_retE | apply xs_retO | apply xs_ifR | apply m_ret | apply xs_next | apply xs_ret | apply r_e | apply r_1 | apply r_zip | exact add_int _ _ | exact sub_int _ _ | exact sz0 | exact sz1 _ | exact sz2 _ _ | exact sz3 _ _ _ | exact sz4 _ _ _ _ | exact sz5 _ _ _ _ _ | exact sz6 _ _ _ _ _ _ | exact sz7 _ _ _ _ _ _ _ | exact sz8 _ _ _ _ _ _ _ _ | exact sz9 _ _ _ _ _ _ _ _ _ | apply q_eq | apply q_ne | apply d_str | apply q_len) | ((with_reducible refine c_tt ?_ ?_); · exact g0 a b c) | ((with_reducible refine c_ff ?_ ?_); · exact g0 a b c) | ((with_reducible refine c_tt ?_ ?_); · exact g1 a b c) | ((with_reducible refine c_ff ?_ ?_); · exact g1 a b c) | ((with_reducible refine c_tt ?_ ?_); · exact g2 a b c) | ((with_reducible refine c_ff ?_ ?_); · exact g2 a b c) | ((with_reducible refine c_tt ?_ ?_); · exact ea1) | ((with_reducible refine c_ff ?_ ?_); · exact ea1) | ((with_reducible refine c_tt ?_ ?_); · exact ea2) | ((with_reducible refine c_ff ?_ ?_); · exact ea2) | ((with_reducible refine c_tt ?_ ?_); · exact ea3) | ((with_reducible refine c_ff ?_ ?_); · exact ea3) | ((with_reducible refine c_tt ?_ ?_); · exact c5) | ((with_reducible refine c_ff ?_ ?_); · exact c5) | ((with_reducible refine c_tt ?_ ?_); · exact eod) | ((with_reducible refine c_ff ?_ ?_); · exact eod) | ((with_reducible refine c_tt ?_ ?_); · rfl) | ((with_reducible refine c_ff ?_ ?_); · rfl) | ((with_reducible refine div_pos _ _ ?_ ?_) <;> decide) | ((with_reducible refine mod_pos _ _ ?_); decide) | rfl | (intro q; cases q)))) (xs_retE (σ₁ := fr17 (.v sc) t k dd (.v (sg a b c)) q5 q6 q7 q8 (.v od)) ?_)⟩
  (repeat (first | with_reducible (first | exact h3 | apply e_lit | apply e_bor | apply e_var | apply o_none | apply s_nil | apply e_dict0 | apply xs_nil | apply i_nil | apply y_nil | apply e_bin | apply e_cmp | apply e_sub | apply e_slice | apply o_some | apply s_cons | apply e_call | apply e_bi | apply e_list | apply e_tuple | apply e_not | apply e_rev | apply e_met | apply e_ite | apply e_and | apply a_one | apply a_c | apply b_not | apply b_and | apply b_or | apply b_of | apply i_c | apply y_c | apply x_assign | apply x_ownL | apply x_setItem | apply x_append | apply x_ret | apply x_retOwn | apply x_ownCall | apply x_if | exact x_raise | apply xs_retE | apply xs_retO | apply xs_ifR | apply m_ret | apply xs_next | apply xs_ret | apply r_e | apply r_1 | apply r_zip | exact add_int _ _ | exact sub_int _ _ | exact sz0 | exact sz1 _ | exact sz2 _ _ | exact sz3 _ _ _ | exact sz4 _ _ _ _ | exact sz5 _ _ _ _ _ | exact sz6 _ _ _ _ _ _ | exact sz7 _ _ _ _ _ _ _ | exact sz8 _ _ _ _ _ _ _ _ | exact sz9 _ _ _ _ _ _ _ _ _ | apply q_eq | apply q_ne | apply d_str | apply q_len) | ((with_reducible refine c_tt ?_ ?_); · exact h3) | ((with_reducible refine c_ff ?_ ?_); · exact h3) | ((with_reducible refine c_tt ?_ ?_); · rfl) | ((with_reducible refine c_ff ?_ ?_); · rfl) | ((with_reducible refine div_pos _ _ ?_ ?_) <;> decide) | ((with_reducible refine mod_pos _ _ ?_); decide) | rfl | (intro q; cases q)))
theorem slice_ints {scr : List Int} (hs : scr.length ≤ 63) : sliceOp (.list (scr.map .int)) (some (.int 6)) (some (.int 46)) = some (.list ((sliceL scr (some 6) (some 46)).map .int)) := by
  refine (if_pos ⟨sz_of (by rw [List.length_map]; omega), end_le (by decide)⟩).trans (congrArg (fun x => some (V.list x)) ?_)
  unfold sliceL
  rw [List.length_map, List.map_take, List.map_drop]
theorem call17 (d : Nat) (scr : List Int) (hs : scr.length ≤ 63) : callN prog (d + 5) false 17 [.list (scr.map .int)] = some (.ok (.v (.bool true))) := by
  obtain ⟨tg, htg, h13⟩ := call13 (d + 1) scr hs
  have c4 : callN prog (d + 4) false 6 [.list (scr.map .int), .int 4] = some (.ok (.v (.int (cellAt scr 4)))) := call6 (d + 3) false scr 4 (by decide) hs
  have c5 : callN prog (d + 4) false 6 [.list (scr.map .int), .int 5] = some (.ok (.v (.int (cellAt scr 5)))) := call6 (d + 3) false scr 5 (by decide) hs
  obtain ⟨a, b, c, sn, h9⟩ := call9 (d + 3) (cellAt scr 4)
  have hsl := slice_ints hs
  have hsll : (sliceL scr (some 6) (some 46)).length ≤ 63 := Nat.le_trans (slice_len scr (some 6) (some 46)) hs
  generalize sliceL scr (some 6) (some 46) = sl at hsl hsll
  have hsq : seqV (.list (sl.map .int)) = some (sl.map .int) := seq_list (by rw [List.length_map]; omega)
  obtain ⟨ys, z, hyl, hy, hcomp⟩ := compL_all (el := ev prog (callN prog (d + 4)) false f17b1) (k := 10) (Q := fun y => ∃ n, y = .int n)
    (σ := fr17 (.v (.list (scr.map .int))) (.v tg) (.v (.int 1)) (.v (due (goodV tg))) (.v (sg a b c)) .unset .unset .unset .unset .unset) (sl.map .int) .unset (fun x hx => by
      obtain ⟨n, _, rfl⟩ := List.mem_map.mp hx
      have h7 : callN prog (d + 4) false 7 [.int n, .int 3] = _ := call7 (d + 3) false n 3
      refine ⟨.int ((n * 48271 + 7919 * ((3 : Nat) : Int)).fmod 1000003), ⟨_, rfl⟩, ?_⟩
      show ev prog (callN prog (d + 4)) false f17b1 ⟨[.v (.list (scr.map .int)), .v tg, .v (.int 1), .v (due (goodV tg)), .v (sg a b c), .unset, .unset, .unset, .unset, .unset, .v (.int n), .unset]⟩ = some (_, ⟨[.v (.list (scr.map .int)), .v tg, .v (.int 1), .v (due (goodV tg)), .v (sg a b c), .unset, .unset, .unset, .unset, .unset, .v (.int n), .unset]⟩)
      simp only [f17b1]
      (repeat (first | with_reducible (first | exact h7 | apply e_lit | apply e_bor | apply e_var | apply o_none | apply s_nil | apply e_dict0 | apply xs_nil | apply i_nil | apply y_nil | apply e_bin | apply e_cmp | apply e_sub | apply e_slice | apply o_some | apply s_cons | apply e_call | apply e_bi | apply e_list | apply e_tuple | apply e_not | apply e_rev | apply e_met | apply e_ite | apply e_and | apply a_one | apply a_c | apply b_not | apply b_and | apply b_or | apply b_of | apply i_c | apply y_c | apply x_assign | apply x_ownL | apply x_setItem | apply x_append | apply x_ret | apply x_retOwn | apply x_ownCall | apply x_if | exact x_raise | apply xs_retE | apply xs_retO | apply xs_ifR | apply m_ret | apply xs_next | apply xs_ret | apply r_e | apply r_1 | apply r_zip | exact add_int _ _ | exact sub_int _ _ | exact sz0 | exact sz1 _ | exact sz2 _ _ | exact sz3 _ _ _ | exact sz4 _ _ _ _ | exact sz5 _ _ _ _ _ | exact sz6 _ _ _ _ _ _ | exact sz7 _ _ _ _ _ _ _ | exact sz8 _ _ _ _ _ _ _ _ | exact sz9 _ _ _ _ _ _ _ _ _ | apply q_eq | apply q_ne | apply d_str | apply q_len) | ((with_reducible refine c_tt ?_ ?_); · exact h7) | ((with_reducible refine c_ff ?_ ?_); · exact h7) | ((with_reducible refine c_tt ?_ ?_); · rfl) | ((with_reducible refine c_ff ?_ ?_); · rfl) | ((with_reducible refine div_pos _ _ ?_ ?_) <;> decide) | ((with_reducible refine mod_pos _ _ ?_); decide) | rfl | (intro q; cases q))))
  obtain ⟨cells, rfl⟩ := ints_of hy
  have hcl : cells.length ≤ 63 := by rw [List.length_map, List.length_map] at hyl; omega
  have hc := ev_comp (P := prog) (cf := callN prog (d + 4)) (src := .e (.slice (.bor 0) (some (.lit (.int 6))) (some (.lit (.int 46))))) (σ := fr17 (.v (.list (scr.map .int))) (.v tg) (.v (.int 1)) (.v (due (goodV tg))) (.v (sg a b c)) .unset .unset .unset .unset .unset) (by (repeat (first | with_reducible (first | exact hsl | exact hsq | apply e_lit | apply e_bor | apply e_var | apply o_none | apply s_nil | apply e_dict0 | apply xs_nil | apply i_nil | apply y_nil | apply e_bin | apply e_cmp | apply e_sub | apply e_slice | apply o_some | apply s_cons | apply e_call | apply e_bi | apply e_list | apply e_tuple | apply e_not | apply e_rev | apply e_met | apply e_ite | apply e_and | apply a_one | apply a_c | apply b_not | apply b_and | apply b_or | apply b_of | apply i_c | apply y_c | apply x_assign | apply x_ownL | apply x_setItem | apply x_append | apply x_ret | apply x_retOwn | apply x_ownCall | apply x_if | exact x_raise | apply xs_retE | apply xs_retO | apply xs_ifR | apply m_ret | apply xs_next | apply xs_ret | apply r_e | apply r_1 | apply r_zip | exact add_int _ _ | exact sub_int _ _ | exact sz0 | exact sz1 _ | exact sz2 _ _ | exact sz3 _ _ _ | exact sz4 _ _ _ _ | exact sz5 _ _ _ _ _ | exact sz6 _ _ _ _ _ _ | exact sz7 _ _ _ _ _ _ _ | exact sz8 _ _ _ _ _ _ _ _ | exact sz9 _ _ _ _ _ _ _ _ _ | apply q_eq | apply q_ne | apply d_str | apply q_len) | ((with_reducible refine c_tt ?_ ?_); · exact hsl) | ((with_reducible refine c_ff ?_ ?_); · exact hsl) | ((with_reducible refine c_tt ?_ ?_); · exact hsq) | ((with_reducible refine c_ff ?_ ?_); · exact hsq) | ((with_reducible refine c_tt ?_ ?_); · rfl) | ((with_reducible refine c_ff ?_ ?_); · rfl) | ((with_reducible refine div_pos _ _ ?_ ?_) <;> decide) | ((with_reducible refine mod_pos _ _ ?_); decide) | rfl | (intro q; cases q)))) hcomp
  obtain ⟨w, hw, h10⟩ := call10 (d + 3) sn cells hcl
  have h7 : callN prog (d + 4) false 7 [.int (cellAt scr 5), .int 1] = _ := call7 (d + 3) false (cellAt scr 5) 1
  generalize ((cellAt scr 5) * 48271 + 7919 * ((1 : Nat) : Int)).fmod 1000003 = mx at h7
  obtain ⟨wd, hwd, h16⟩ := call16 (d + 3) sn w hw mx
  obtain ⟨q7, q8, h17⟩ := loop17 (d + 3) a b c (.v (.list (scr.map .int))) (.v tg) (.v (.int 1)) (.v (due (isWord a b c wd))) (.v (.list (cells.map .int))) (.v wd) .unset abc .unset .unset
  obtain ⟨G, e⟩ := tail17 d sn (.list (scr.map .int)) (cellAt scr 5) c5 (.v tg) (.v (.int 1)) (.v (due (isWord a b c wd))) (.v (.list (cells.map .int))) (.v wd) q7 q8
  have habc := seq_str (show abc.length ≤ 1000 by decide)
  refine fn_ret (fn := f17) (G := G) rfl rfl ?_
  show exs prog (callN prog (d + 4)) false f17.body (fr17 (.v (.list (scr.map .int))) .unset .unset .unset .unset .unset .unset .unset .unset .unset) = _
  simp only [f17, List.drop] at e ⊢
  refine xs_next (σ₁ := fr17 (.v (.list (scr.map .int))) (.v tg) .unset .unset .unset .unset .unset .unset .unset .unset) (by (repeat (first | with_reducible (first | exact h13 | apply e_lit | apply e_bor | apply e_var | apply o_none | apply s_nil | apply e_dict0 | apply xs_nil | apply i_nil | apply y_nil | apply e_bin | apply e_cmp | apply e_sub | apply e_slice | apply o_some | apply s_cons | apply e_call | apply e_bi | apply e_list | apply e_tuple | apply e_not | apply e_rev | apply e_met | apply e_ite | apply e_and | apply a_one | apply a_c | apply b_not | apply b_and | apply b_or | apply b_of | apply i_c | apply y_c | apply x_assign | apply x_ownL | apply x_setItem | apply x_append | apply x_ret | apply x_retOwn | apply x_ownCall | apply x_if | exact x_raise | apply xs_retE | apply xs_retO | apply xs_ifR | apply m_ret | apply xs_next | apply xs_ret | apply r_e | apply r_1 | apply r_zip | exact add_int _ _ | exact sub_int _ _ | exact sz0 | exact sz1 _ | exact sz2 _ _ | exact sz3 _ _ _ | exact sz4 _ _ _ _ | exact sz5 _ _ _ _ _ | exact sz6 _ _ _ _ _ _ | exact sz7 _ _ _ _ _ _ _ | exact sz8 _ _ _ _ _ _ _ _ | exact sz9 _ _ _ _ _ _ _ _ _ | apply q_eq | apply q_ne | apply d_str | apply q_len) | ((with_reducible refine c_tt ?_ ?_); · exact h13) | ((with_reducible refine c_ff ?_ ?_); · exact h13) | ((with_reducible refine c_tt ?_ ?_); · rfl) | ((with_reducible refine c_ff ?_ ?_); · rfl) | ((with_reducible refine div_pos _ _ ?_ ?_) <;> decide) | ((with_reducible refine mod_pos _ _ ?_); decide) | rfl | (intro q; cases q)))) ?_
  refine xs_next (x_for (xs := [.int 0, .int 1]) (σ₁ := fr17 (.v (.list (scr.map .int))) (.v tg) .unset .unset .unset .unset .unset .unset .unset .unset) rfl ((forL_next rfl (turn1 d tg htg _ _ _ _ _ _ _ _ _)).trans ((forL_next rfl (turn1 d tg htg _ _ _ _ _ _ _ _ _)).trans rfl))) ?_
  refine xs_next (σ₁ := fr17 (.v (.list (scr.map .int))) (.v tg) (.v (.int 1)) (.v (due (goodV tg))) (.v (sg a b c)) .unset .unset .unset .unset .unset) (by (repeat (first | with_reducible (first | exact c4 | exact h9 | apply e_lit | apply e_bor | apply e_var | apply o_none | apply s_nil | apply e_dict0 | apply xs_nil | apply i_nil | apply y_nil | apply e_bin | apply e_cmp | apply e_sub | apply e_slice | apply o_some | apply s_cons | apply e_call | apply e_bi | apply e_list | apply e_tuple | apply e_not | apply e_rev | apply e_met | apply e_ite | apply e_and | apply a_one | apply a_c | apply b_not | apply b_and | apply b_or | apply b_of | apply i_c | apply y_c | apply x_assign | apply x_ownL | apply x_setItem | apply x_append | apply x_ret | apply x_retOwn | apply x_ownCall | apply x_if | exact x_raise | apply xs_retE | apply xs_retO | apply xs_ifR | apply m_ret | apply xs_next | apply xs_ret | apply r_e | apply r_1 | apply r_zip | exact add_int _ _ | exact sub_int _ _ | exact sz0 | exact sz1 _ | exact sz2 _ _ | exact sz3 _ _ _ | exact sz4 _ _ _ _ | exact sz5 _ _ _ _ _ | exact sz6 _ _ _ _ _ _ | exact sz7 _ _ _ _ _ _ _ | exact sz8 _ _ _ _ _ _ _ _ | exact sz9 _ _ _ _ _ _ _ _ _ | apply q_eq | apply q_ne | apply d_str | apply q_len) | ((with_reducible refine c_tt ?_ ?_); · exact c4) | ((with_reducible refine c_ff ?_ ?_); · exact c4) | ((with_reducible refine c_tt ?_ ?_); · exact h9) | ((with_reducible refine c_ff ?_ ?_); · exact h9) | ((with_reducible refine c_tt ?_ ?_); · rfl) | ((with_reducible refine c_ff ?_ ?_); · rfl) | ((with_reducible refine div_pos _ _ ?_ ?_) <;> decide) | ((with_reducible refine mod_pos _ _ ?_); decide) | rfl | (intro q; cases q)))) ?_
  refine xs_next (σ₁ := fr17 (.v (.list (scr.map .int))) (.v tg) (.v (.int 1)) (.v (due (goodV tg))) (.v (sg a b c)) (.v (.list (cells.map .int))) .unset .unset .unset .unset) (x_assign hc rfl) ?_
  refine xs_next (σ₁ := fr17 (.v (.list (scr.map .int))) (.v tg) (.v (.int 1)) (.v (due (goodV tg))) (.v (sg a b c)) (.v (.list (cells.map .int))) (.v wd) .unset .unset .unset) (by (repeat (first | with_reducible (first | exact h10 | exact c5 | exact h7 | exact h16 | apply e_lit | apply e_bor | apply e_var | apply o_none | apply s_nil | apply e_dict0 | apply xs_nil | apply i_nil | apply y_nil | apply e_bin | apply e_cmp | apply e_sub | apply e_slice | apply o_some | apply s_cons | apply e_call | apply e_bi | apply e_list | apply e_tuple | apply e_not | apply e_rev | apply e_met | apply e_ite | apply e_and | apply a_one | apply a_c | apply b_not | apply b_and | apply b_or | apply b_of | apply i_c | apply y_c | apply x_assign | apply x_ownL | apply x_setItem | apply x_append | apply x_ret | apply x_retOwn | apply x_ownCall | apply x_if | exact x_raise | apply xs_retE | apply xs_retO | apply xs_ifR | apply m_ret | apply xs_next | apply xs_ret | apply r_e | apply r_1 | apply r_zip | exact add_int _ _ | exact sub_int _ _ | exact sz0 | exact sz1 _ | exact sz2 _ _ | exact sz3 _ _ _ | exact sz4 _ _ _ _ | exact sz5 _ _ _ _ _ | exact sz6 _ _ _ _ _ _ | exact sz7 _ _ _ _ _ _ _ | exact sz8 _ _ _ _ _ _ _ _ | exact sz9 _ _ _ _ _ _ _ _ _ | apply q_eq | apply q_ne | apply d_str | apply q_len) | ((with_reducible refine c_tt ?_ ?_); · exact h10) | ((with_reducible refine c_ff ?_ ?_); · exact h10) | ((with_reducible refine c_tt ?_ ?_); · exact c5) | ((with_reducible refine c_ff ?_ ?_); · exact c5) | ((with_reducible refine c_tt ?_ ?_); · exact h7) | ((with_reducible refine c_ff ?_ ?_); · exact h7) | ((with_reducible refine c_tt ?_ ?_); · exact h16) | ((with_reducible refine c_ff ?_ ?_); · exact h16) | ((with_reducible refine c_tt ?_ ?_); · rfl) | ((with_reducible refine c_ff ?_ ?_); · rfl) | ((with_reducible refine div_pos _ _ ?_ ?_) <;> decide) | ((with_reducible refine mod_pos _ _ ?_); decide) | rfl | (intro q; cases q)))) ?_
  refine xs_next (x_for (xs := [.int 0, .int 1]) (σ₁ := fr17 (.v (.list (scr.map .int))) (.v tg) (.v (.int 1)) (.v (due (goodV tg))) (.v (sg a b c)) (.v (.list (cells.map .int))) (.v wd) .unset .unset .unset) rfl ((forL_next rfl (turn2 d a b c wd hwd _ _ _ _ _ _ _ _)).trans ((forL_next rfl (turn2 d a b c wd hwd _ _ _ _ _ _ _ _)).trans rfl))) ?_
  exact xs_next (x_for (xs := charsV abc) (σ₁ := fr17 (.v (.list (scr.map .int))) (.v tg) (.v (.int 1)) (.v (due (isWord a b c wd))) (.v (sg a b c)) (.v (.list (cells.map .int))) (.v wd) .unset .unset .unset) (by (repeat (first | with_reducible (first | exact habc | apply e_lit | apply e_bor | apply e_var | apply o_none | apply s_nil | apply e_dict0 | apply xs_nil | apply i_nil | apply y_nil | apply e_bin | apply e_cmp | apply e_sub | apply e_slice | apply o_some | apply s_cons | apply e_call | apply e_bi | apply e_list | apply e_tuple | apply e_not | apply e_rev | apply e_met | apply e_ite | apply e_and | apply a_one | apply a_c | apply b_not | apply b_and | apply b_or | apply b_of | apply i_c | apply y_c | apply x_assign | apply x_ownL | apply x_setItem | apply x_append | apply x_ret | apply x_retOwn | apply x_ownCall | apply x_if | exact x_raise | apply xs_retE | apply xs_retO | apply xs_ifR | apply m_ret | apply xs_next | apply xs_ret | apply r_e | apply r_1 | apply r_zip | exact add_int _ _ | exact sub_int _ _ | exact sz0 | exact sz1 _ | exact sz2 _ _ | exact sz3 _ _ _ | exact sz4 _ _ _ _ | exact sz5 _ _ _ _ _ | exact sz6 _ _ _ _ _ _ | exact sz7 _ _ _ _ _ _ _ | exact sz8 _ _ _ _ _ _ _ _ | exact sz9 _ _ _ _ _ _ _ _ _ | apply q_eq | apply q_ne | apply d_str | apply q_len) | ((with_reducible refine c_tt ?_ ?_); · exact habc) | ((with_reducible refine c_ff ?_ ?_); · exact habc) | ((with_reducible refine c_tt ?_ ?_); · rfl) | ((with_reducible refine c_ff ?_ ?_); · rfl) | ((with_reducible refine div_pos _ _ ?_ ?_) <;> decide) | ((with_reducible refine mod_pos _ _ ?_); decide) | rfl | (intro q; cases q)))) h17) e
end Mine.L01
end

noncomputable section
set_option maxRecDepth 100000
set_option maxHeartbeats 4000000
namespace Mine.L01
open PySem PySem.Calls PyProof.Rows PySem.W
/-! what is asked of the heap behind the text's top -/
noncomputable def Δ : Dl := ⟨fnN, clsN, conN⟩
noncomputable def fnA : List Addr := [118, 125, 132, 139, 146, 153, 160, 167, 174, 179, 186, 191, 198, 205, 212, 219, 226, 231]
noncomputable def clsA : List Addr := [24, 37, 49, 61, 73, 85, 97, 109]
noncomputable def adrs : List Addr := [3, 24, 37, 49, 61, 73, 85, 97, 109, 23, 36, 48, 60, 72, 84, 96, 108, 118, 125, 132, 139, 146, 153, 160, 167, 174, 179, 186, 191, 198, 205, 212, 219, 226, 231, 117, 124, 131, 138, 145, 152, 159, 166, 173, 178, 185, 190, 197, 204, 211, 218, 225, 230]
noncomputable def nms : List (List Str) := [n0, n1, n2, n3, n4, n5, n6, n7, n8, n9, n10, n11, n12, n13, n14, n15, n16, n17]
noncomputable def fnsChk (K : Frag) : List Fn → List (List Str) → List Addr → Bool
  | [], _, _ => true
  | fn :: r, n :: m, a :: b => fnChk K ⟨Δ, prog⟩ a fn n && fnsChk K r m b
  | _, _, _ => false
noncomputable def clssChk (K : Frag) : Nat → Bool
  | 0 => true
  | c + 1 => clsChk K prog (fun c => clsA.getD c 0) c && clssChk K c
noncomputable def conChk (K : Frag) (p : Str × V) : Bool := match nsIn K mainGlobals p.1 with | some (some u) => constChk u p.2 | _ => false
noncomputable def chk (K : Frag) : Bool :=
  specialIn K (.builtin "object.__class__") "__get__" == some (some (.builtin "getset_descriptor.__get__")) && (takesIn K (.builtin "object.__class__") == some true && (fnsChk K prog.fns nms fnA && (clssChk K 8 &&
  (Δ.fns.all (fun p => nsIn K mainGlobals p.1 == some (some (.ref (fnA.getD p.2 0)))) && (Δ.cls.all (fun p => nsIn K mainGlobals p.1 == some (some (.ref (clsA.getD p.2 0)))) && (Δ.cons.all (conChk K) && bltNames.all (fun p => nsIn K mainGlobals p.1 == some none)))))))
noncomputable def fragOf (h : Heap) : List Addr → Frag
  | [] => []
  | a :: r => match h.get? a with
    | some o => (a, o) :: fragOf h r
    | none => fragOf h r
theorem fragOf_in (h : Heap) : ∀ as : List Addr, Frag.In (fragOf h as) h
  | [], a, o, e => nomatch e
  | b :: r, a, o, e => by
    unfold fragOf at e
    cases hb : h.get? b with
    | none => rw [hb] at e; exact fragOf_in h r a o e
    | some p =>
      rw [hb] at e
      by_cases q : a = b
      · subst q
        have : List.lookup a ((a, p) :: fragOf h r) = some p := List.lookup_cons_self
        rw [hb]; exact this.symm.trans e
      · have : List.lookup a ((b, p) :: fragOf h r) = List.lookup a (fragOf h r) := by rw [List.lookup_cons, beq_false_of_ne q]
        exact fragOf_in h r a o (this.symm.trans e)
noncomputable def hook : Hook := ⟨Bool, fun s => chk (fragOf s.heap adrs), fun _ => true, fun _ h => ∃ K : Frag, K.In h ∧ chk K = true, fun _ s e => ⟨fragOf s.heap adrs, fragOf_in _ _, e⟩, fun _ _ _ y k => y.elim fun K x => ⟨K, fun a o e => k a o (x.1 a o e), x.2⟩⟩
theorem fns_of {K : Frag} : ∀ {fns : List Fn} {n : List (List Str)} {A : List Addr}, fnsChk K fns n A = true → ∀ {f : Nat} {fn : Fn}, fns[f]? = some fn → ∃ m, fnChk K ⟨Δ, prog⟩ (A.getD f 0) fn m = true
  | [], _, _, _, _, _, h => nomatch h
  | _ :: _, [], _, e, _, _, _ => nomatch e
  | _ :: _, _ :: _, [], e, _, _, _ => nomatch e
  | fn :: r, n :: m, a :: b, e, 0, _, h => by cases h; exact ⟨n, (and_true_of e).1⟩
  | fn :: r, n :: m, a :: b, e, f + 1, _, h => fns_of (and_true_of e).2 (f := f) h
theorem clss_of {K : Frag} : ∀ {n : Nat}, clssChk K n = true → ∀ {c : Nat}, c < n → clsChk K prog (fun c => clsA.getD c 0) c = true
  | n + 1, e, c, h => by
    by_cases q : c = n
    · subst q; exact (and_true_of e).1
    · exact clss_of (and_true_of e).2 (by omega)
noncomputable def ownOk (p : Program) (x : Str) : Bool := (ownsOf p).any fun o => o.name == x && (o.bm == [.type "ValueError", .type "Exception", .type "BaseException", .type "object"] && o.newId == "ValueError.__new__")
theorem raise_of {g : Gl} {p : Program} {x : Str} {c : Nat} (own : ∀ o ∈ ownsOf p, ∃ C, OwnClsQ o.name C o.bm o.newId g.mg g.h0) (hx : ownOk p x = true) (hc : g.mg x = some (.ref (g.cls c))) : RaiseOk g c := by
  obtain ⟨o, ho, hq⟩ := List.any_eq_true.mp hx
  have h1 := eq_of_beq (and_true_of hq).1
  have h2 := eq_of_beq (and_true_of (and_true_of hq).2).1
  have h3 := eq_of_beq (and_true_of (and_true_of hq).2).2
  obtain ⟨C, O⟩ := own o ho
  have hb := O.bound
  rw [h1, hc] at hb
  cases hb
  obtain ⟨bm, N, nm, q, bs, hdct, sn, sub, ab, col, dd, k0, k1, k2, k3, k5, mN, hC, hN, hqn, T⟩ := O.obj
  rw [h3] at hC
  rw [h2] at T
  exact ⟨nm, q, N, bs, bm, _, hdct, sn, sub, ab, col, dd, k0, k1, k2, k3, k5, "ValueError", "ValueError.__new__", _, mN, PySem.F.excBase_ValueError, T.tail.hasType PySem.F.excBase_ValueError.hasBase, hqn _ (.head _), hC, hN, T.tail⟩
theorem owns_of {g : Gl} {q : Program} (own : ∀ o ∈ ownsOf q, ∃ C, OwnClsQ o.name C o.bm o.newId g.mg g.h0) (hq : clsN.all (fun p => ownOk q p.1) = true) (gr : ∀ x c, clsN.lookup x = some c → g.mg x = some (.ref (g.cls c))) : ∀ c, c < prog.clss.length → RaiseOk g c := fun c hc => by
  have key : ∀ x, (x, c) ∈ clsN → clsN.lookup x = some c → RaiseOk g c := fun x hx hl => raise_of own (List.all_eq_true.mp hq _ hx) (gr x c hl)
  have hl : c < 8 := hc
  match c, hl, key with
  | 0, _, key => exact key "NestError" (by decide) rfl
  | 1, _, key => exact key "BadSigns" (by decide) rfl
  | 2, _, key => exact key "BadWord" (by decide) rfl
  | 3, _, key => exact key "BadMachine" (by decide) rfl
  | 4, _, key => exact key "TooMany" (by decide) rfl
  | 5, _, key => exact key "NotPlain" (by decide) rfl
  | 6, _, key => exact key "Unlike" (by decide) rfl
  | 7, _, key => exact key "NoNote" (by decide) rfl
theorem cx_of {g : Gl} {q : Program} {K : Frag} (KX : K.In g.h0) (e : chk K = true) (hf : g.fn = fun f => fnA.getD f 0) (hc : g.cls = fun c => clsA.getD c 0) (hm : g.h0.Ns mainGlobals g.mg) (hb : g.h0.Ns builtinsNs g.mb) (hl : g.h0.NoLimit) (hbt : ∀ x : Str, x ≠ "__name__" → g.mb x = bootBuiltins x)
    (own : ∀ o ∈ ownsOf q, ∃ C, OwnClsQ o.name C o.bm o.newId g.mg g.h0) (hq : clsN.all (fun p => ownOk q p.1) = true) : Cx g prog Δ ∧ ∀ f fn, prog.fns[f]? = some fn → FnOk g ⟨Δ, prog⟩ f fn := by
  have e1 := and_true_of e
  have e2 := and_true_of e1.2
  have e3 := and_true_of e2.2
  have e4 := and_true_of e3.2
  have e5 := and_true_of e4.2
  have e6 := and_true_of e5.2
  have e7 := and_true_of e6.2
  have gr : Mine.Ground g Δ := ground_of KX hm hb hl hbt (by rw [hf]; exact e5.1) (by rw [hc]; exact e6.1) e7.1 e7.2
  have hfn : ∀ f fn, prog.fns[f]? = some fn → FnOk g ⟨Δ, prog⟩ f fn := fun f fn h => (fns_of e3.1 h).elim fun m h => fnOk_of KX (by rw [hf]; exact h)
  refine ⟨⟨gr, ex_of KX (eq_of_beq e1.1) (eq_of_beq e2.1) (fun c h => by rw [hc]; exact clss_of e4.1 h) (owns_of own hq gr.cls), fun f h => ?_⟩, hfn⟩
  obtain ⟨fn, hfn'⟩ : ∃ fn, prog.fns[f]? = some fn := ⟨_, List.getElem?_eq_getElem h⟩
  obtain ⟨o, fd, _, _, h1, h2, _⟩ := (hfn f fn hfn').it
  exact ⟨o, fd, h1, h2⟩
end Mine.L01
end

noncomputable section
open PySem PySem.W PyProof.Rows
set_option maxRecDepth 100000
set_option maxHeartbeats 8000000
namespace Mine.L01
theorem said : PySem.Challenge.rw_uf010006_01.wellSaid = true := by kernel_rfl
theorem law01 : PySem.Challenge.rw_uf010006_01.Holds := by
  w_on
  refine holds_law said fun said => ?_
  o_head hook
  case hw => w_witness2
  intro w s₀ s₁ mg mb G Y fa o pm cd doc dV kV ho hd hcd hD hmg hg args vals as hpre hlay hrd hwl hlo
  obtain ⟨K, KX, e⟩ := Y
  have c := cx_of (g := ⟨PySem.Challenge.rw_uf010006_01.row.prog, w, s₁.heap, mg, mb, fun f => fnA.getD f 0, fun c => clsA.getD c 0, s₁.os⟩) KX e rfl rfl G.T.g G.T.b G.T.nolimit G.T.builtins (fun o ho => let ⟨C, O, _⟩ := G.T.own o ho; ⟨C, O⟩) (by decide +kernel)
  have hm : some (Value.ref fa) = some (Value.ref 231) := hmg.symm.trans (c.1.G.fns "law" 17 rfl)
  cases hm
  exact law_ends (l := PySem.Challenge.rw_uf010006_01) rfl rfl c.1 c.2 rfl rfl rfl hg (d := 5) (f := 17) (by decide) hpre hwl (fun scr hs => call17 0 scr hs)
end Mine.L01
theorem PySem.Challenge.cw_uf010006_01_holds : PySem.Challenge.rw_uf010006_01.Holds :=
  Mine.L01.law01
end

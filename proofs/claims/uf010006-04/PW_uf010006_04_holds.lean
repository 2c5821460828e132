import PyProof.Rows.All
import PySem.SetTable
import PyProof.MinMaxWalk
import PyProof.CollectWalk
import PyProof.TupleKey
import PyProof.DictRoadsH
import PyProof.DictWalks
import PyProof.IsRules
import PyProof.EqKinds
import PyProof.ListNew
import PyProof.Rows.DictLoopRows2
import PyProof.SetKind
import PyProof.SetRoads
import PyProof.SetNew
import PyProof.Rows.SetFrom
import OpenK.KDescr
import OpenK.KCls
import Open.Line
import OpenK.KWalk
import OpenK.KMore
import Wide.FinOn
import Wide.All
import Lean
import PySem.Challenge.RW_uf010006_04
set_option Elab.async false
set_option linter.all false
set_option genSizeOf false
noncomputable section
set_option genSizeOf false
set_option genSizeOfSpec false
set_option genInjectivity false
namespace Mine
open PySem

noncomputable abbrev V := PyData
noncomputable abbrev Sc := Int ⊕ Str
inductive Slot where
  | unset
  | v (x : V)
  | ownL (l : List V)
  | ownD (l : List (List Sc × Int))
  | ownI (l : List V)
noncomputable abbrev Gs := List Slot
inductive Op where
  | lit (x : V)
  | var (k : Nat)
  | own (k : Nat)
  | bin (o : Operator)
  | cmp (o : CmpOp)
  | chain
  | and | or | not | neg | ite
  | tuple | list | sub
  | slice (lo hi : Bool)
  | call (f : Nat)
  | meth (f : Nat)
  | attr (j : Nat)
  | isinst (t : Nat)
  | len | listOf | sorted | sortedSet | lenSet | max2 | maxD
  | join | count
  | lenL (k : Nat)
  | getD (k : Nat)
  | lenD (k : Nat)
  | valsD (k : Nat)
  | comp (k : Nat)
  | range | zip
inductive E where
  | nd (o : Op) (es : List E)
inductive SOp where
  | assign (k : Nat)
  | assignM (ks : List Nat)
  | ownL (k : Nat)
  | ownD (k : Nat)
  | append (k : Nat)
  | setD (k : Nat)
  | setAttr (k j : Nat)
  | call
  | ret
  | ite
  | forS (k : Nat)
  | forM (ks : List Nat)
  | freeze (k : Nat)
  | raise
inductive S where
  | mk (o : SOp) (es : List E) (a b : List S)

section
variable {α : Type}
noncomputable def szLine : Nat := 2 ^ 20
noncomputable def fitL (l : List α) (z : β) : Option β := if l.length ≤ szLine then some z else none
noncomputable def text (l : List Nat) : V := .str ⟨l.toArray⟩
noncomputable def okEq (v : V) : Bool := v.canLay0 && decide (v.depth ≤ 64)
noncomputable def boolO (x : V) (f : Bool → Option α) : Option α := match x with
  | .bool b => f b
  | _ => none
noncomputable def intO (x : V) (f : Int → Option α) : Option α := match x with
  | .int i => f i
  | _ => none
noncomputable def strO (x : V) (f : List Nat → Option α) : Option α := match x with
  | .str s => f s.cps.toList
  | _ => none
noncomputable def listO (x : V) (f : List V → Option α) : Option α := match x with
  | .list l => f l
  | _ => none
noncomputable def tupO (x : V) (f : List V → Option α) : Option α := match x with
  | .tuple l => f l
  | _ => none
noncomputable def int2 (x y : V) (f : Int → Int → Option α) : Option α := intO x fun a => intO y (f a)
end
noncomputable def addO (x y : V) : Option V := match x with
  | .int a => intO y fun b => some (.int (a + b))
  | .str a => strO y fun b => fitL (a.cps.toList ++ b) (text (a.cps.toList ++ b))
  | .list a => listO y fun b => fitL (a ++ b) (.list (a ++ b))
  | .tuple a => tupO y fun b => fitL (a ++ b) (.tuple (a ++ b))
  | _ => none
noncomputable def binOp (o : Operator) (x y : V) : Option V := match o with
  | .Add => addO x y
  | .Sub => int2 x y fun a b => some (.int (a - b))
  | .Mult => int2 x y fun a b => if b.natAbs ≤ 1000000 ∨ a.natAbs ≤ 1000000 then some (.int (a * b)) else none
  | .FloorDiv => int2 x y fun a b => if b = 0 ∨ 1000000 < b.natAbs then none else some (.int (a.fdiv b))
  | .Mod => int2 x y fun a b => if b = 0 then none else some (.int (a.fmod b))
  | _ => none
noncomputable def eqO (a b : V) : Option Bool := if (okEq a && okEq b) = true then some (PyData.eqv a b) else none
noncomputable def isNone : V → Bool
  | .none => true
  | _ => false
noncomputable def inO (a b : V) : Option Bool := match b with
  | .str t => strO a fun s => match s with | [c] => some (t.cps.toList.elem c) | _ => none
  | .list l => if (okEq a && okEq (.list l)) = true then some (l.any fun x => PyData.eqv x a) else none
  | _ => none
noncomputable def cmpOp (o : CmpOp) (x y : V) : Option Bool := match o with
  | .Eq => eqO x y
  | .NotEq => (eqO x y).map (!·)
  | .Lt => int2 x y fun a b => some (decide (a < b))
  | .LtE => int2 x y fun a b => some (decide (a ≤ b))
  | .Gt => int2 x y fun a b => some (decide (b < a))
  | .IsNot => if isNone y = true then some (!isNone x) else none
  | .In => inO x y
  | .NotIn => (inO x y).map (!·)
  | _ => none
noncomputable def charsV (s : List Nat) : List V := s.map fun c => text [c]
noncomputable def rangeL (a b : Int) : List V := (List.range (b - a).toNat).map fun (i : Nat) => .int (a + i)
noncomputable def rOk (i : Int) : Bool := Nat.ble i.natAbs 4611686018427387903
noncomputable def rangeO (a b : Int) : Option V := if rOk a = true ∧ rOk b = true then fitL (rangeL a b) (.list (rangeL a b)) else none
noncomputable def itemO (l : List α) (f : α → V) (y : V) : Option V := intO y fun i => if l.length ≤ szLine then (if 0 ≤ i then l[i.toNat]? else if 0 ≤ i + l.length then l[(i + l.length).toNat]? else none).map f else none
noncomputable def subOp (x y : V) : Option V := match x with
  | .list l => itemO l id y
  | .tuple l => itemO l id y
  | .str s => itemO s.cps.toList (fun c => text [c]) y
  | _ => none
noncomputable def endO (d n : Nat) (y : Option V) : Option Nat := match y with
  | none => some d
  | some x => intO x fun i => some (if 0 ≤ i then min i.toNat n else (i + n).toNat)
noncomputable def cutO (f : List α → V) (l : List α) (lo hi : Option V) : Option V :=
  if l.length ≤ szLine then (endO 0 l.length lo).bind fun i => (endO l.length l.length hi).bind fun j => if i ≤ j then some (f ((l.drop i).take (j - i))) else none else none
noncomputable def sliceOp (a : V) (lo hi : Option V) : Option V := match a with
  | .list l => cutO .list l lo hi
  | .tuple l => cutO .tuple l lo hi
  | .str s => cutO text s.cps.toList lo hi
  | _ => none
noncomputable def tyNames : List String := ["str", "tuple", "list", "int", "bool"]
noncomputable def isT (x : V) (t : Nat) : Option Bool := match x with
  | .none => some false
  | .bool _ => some (t == 4 || t == 3)
  | .int _ => some (t == 3)
  | .str _ => some (t == 0)
  | .list _ => some (t == 2)
  | .tuple _ => some (t == 1)
  | .dict _ => none
noncomputable def seqV (x : V) : Option (List V) := match x with
  | .list l => fitL l l
  | .tuple l => fitL l l
  | .str s => fitL s.cps.toList (charsV s.cps.toList)
  | _ => none
noncomputable def strsL (l : List V) : Option (List (List Nat)) := l.mapM fun x => strO x some
noncomputable def intsL (l : List V) : Option (List Int) := l.mapM fun x => intO x some
noncomputable def joinL (sep : List Nat) : List (List Nat) → List Nat
  | [] => []
  | [x] => x
  | x :: r => x ++ sep ++ joinL sep r
end Mine
end

noncomputable section
namespace Mine
open PySem

/-! what a text does, told by what must hold behind it -/
noncomputable def okK {α : Type} (o : Option α) (K : α → Prop) : Prop := match o with
  | some z => K z
  | none => False
noncomputable abbrev D := Gs → (V → Prop) → Prop
noncomputable abbrev B := Gs → (Option V → Gs → Prop) → Prop
noncomputable abbrev CallF := Nat → List V → (V → Prop) → Prop
noncomputable def getSlot (G : Gs) (k : Nat) : Slot := G.getD k .unset
noncomputable def varO (G : Gs) (k : Nat) : Option V := match getSlot G k with
  | .v x => some x
  | _ => none
noncomputable def ownLO (G : Gs) (k : Nat) : Option (List V) := match getSlot G k with
  | .ownL l => some l
  | _ => none
noncomputable def ownDO (G : Gs) (k : Nat) : Option (List (List Sc × Int)) := match getSlot G k with
  | .ownD l => some l
  | _ => none
noncomputable def ownIO (G : Gs) (k : Nat) : Option (List V) := match getSlot G k with
  | .ownI l => some l
  | _ => none
noncomputable def manyD (ds : List D) (G : Gs) : (List V → Prop) → Prop :=
  List.rec (motive := fun _ => (List V → Prop) → Prop) (fun f => f []) (fun d _ ih f => d G fun x => ih fun xs => f (x :: xs)) ds
noncomputable def oneD (ds : List D) (G : Gs) (f : V → Prop) : Prop := match ds with
  | [d] => d G f
  | _ => False
noncomputable def boolsD (b : Bool) (ds : List D) (G : Gs) : (Bool → Prop) → Prop :=
  List.rec (motive := fun _ => (Bool → Prop) → Prop) (fun f => f b) (fun d _ ih f => d G fun x => okK (boolO x some) fun c => if c = b then ih f else f c) ds
noncomputable def iteD (ds : List D) (G : Gs) (K : V → Prop) : Prop := match ds with
  | [c, a, b] => c G fun x => okK (boolO x some) fun t => if t = true then a G K else b G K
  | _ => False
noncomputable def chainD (ds : List D) (G : Gs) (K : V → Prop) : Prop := match ds with
  | [a, b, c] => a G fun x => b G fun y => okK (int2 x y fun i j => some (decide (i ≤ j))) fun t => if t = true then c G fun z => okK (int2 y z fun i j => some (decide (i < j))) fun u => K (.bool u) else K (.bool false)
  | _ => False
noncomputable def compL (e : D) (ts : List D) (k : Nat) (G : Gs) (xs : List V) : (List V → Prop) → Prop :=
  List.rec (motive := fun _ => (List V → Prop) → Prop) (fun f => f [])
    (fun x _ ih f => boolsD true ts (G.set k (.v x)) fun c => if c = true then e (G.set k (.v x)) fun y => ih fun ys => f (y :: ys) else ih f) xs
noncomputable def compD (k : Nat) (ds : List D) (G : Gs) (K : V → Prop) : Prop := match ds with
  | s :: e :: ts => s G fun x => okK (seqV x) fun xs => compL e ts k G xs fun ys => K (.list ys)
  | _ => False
noncomputable def one {α : Type} (xs : List V) (f : V → Option α) : Option α := match xs with
  | [x] => f x
  | _ => none
noncomputable def two {α : Type} (xs : List V) (f : V → V → Option α) : Option α := match xs with
  | [x, y] => f x y
  | _ => none
noncomputable def sliceN (lo hi : Bool) (xs : List V) : Option V := match xs, lo, hi with
  | [x], false, false => sliceOp x none none
  | [x, y], true, false => sliceOp x (some y) none
  | [x, y], false, true => sliceOp x none (some y)
  | [x, y, z], true, true => sliceOp x (some y) (some z)
  | _, _, _ => none
noncomputable def zipL (l r : List V) : List V := List.zipWith (fun a b => .tuple [a, b]) l r
noncomputable def pairO (x : V) : Option (List V) := match x with
  | .list l => fitL l l
  | .tuple l => fitL l l
  | _ => none
noncomputable def lookD (l : List (List Sc × Int)) (x : List Sc) : Option Int := (l.find? fun p => decide (p.1 = x)).map (·.2)
noncomputable def putD (l : List (List Sc × Int)) (x : List Sc) (y : Int) : List (List Sc × Int) := if (lookD l x).isSome = true then l.map (fun p => if p.1 = x then (p.1, y) else p) else l ++ [(x, y)]
noncomputable def scalar (x : V) : Bool := match x with
  | .int _ => true
  | .str s => PyData.strOk s
  | _ => false
noncomputable def flatV (x : V) : Bool := match x with
  | .tuple l => l.all scalar && decide (l.length ≤ szLine)
  | _ => false
noncomputable def kOf (x : V) : Sc := match x with
  | .int i => .inl i
  | .str t => .inr t
  | _ => .inl 0
noncomputable def wayV (x : V) : Bool := match x with
  | .tuple (.str s :: l) => (scalar (.str s) && l.all scalar)
  | _ => false
noncomputable def keysOf (x : V) : List Sc := match x with
  | .tuple l => l.map kOf
  | _ => []
noncomputable def ltK : List Sc → List Sc → Bool
  | k :: ks, m :: ms => if k = m then ltK ks ms else k.isLeft == m.isLeft
  | _, _ => true
noncomputable def setLen (x : V) : Option Nat := match x with
  | .str s => if s.cps.toList.Nodup ∧ s.cps.size < 4000 then some s.cps.size else none
  | .list l => (intsL l).bind fun is => if is.Nodup ∧ is.length < 4000 then some is.length else none
  | _ => none
noncomputable def opN (o : Op) (xs : List V) : Option V := match o with
  | .bin o => two xs (binOp o)
  | .neg => one xs fun x => intO x fun i => some (.int (-i))
  | .tuple => fitL xs (.tuple xs)
  | .list => fitL xs (.list xs)
  | .sub => two xs subOp
  | .slice lo hi => sliceN lo hi xs
  | .attr j => one xs fun x => match x with | .dict kvs => (kvs[j]?).map (·.2) | _ => none
  | .isinst t => one xs fun x => (isT x t).map .bool
  | .len => one xs fun x => (seqV x).map fun l => .int l.length
  | .listOf => one xs fun x => (pairO x).map .list
  | .lenSet => one xs fun x => (setLen x).map fun (n : Nat) => PyData.int n
  | .max2 => two xs fun x y => int2 x y fun a b => some (.int (max a b))
  | .join => two xs fun x y => strO x fun sep => listO y fun l => (strsL l).bind fun ss => if (ss.map List.length).sum + ss.length * sep.length ≤ szLine then some (text (joinL sep ss)) else none
  | .count => two xs fun x y => listO x fun l => if (okEq y && okEq (.list l)) = true then some (.int (l.countP fun z => PyData.eqv z y)) else none
  | .range => match xs with
    | [x] => intO x fun b => rangeO 0 b
    | [x, y] => int2 x y rangeO
    | _ => none
  | .zip => two xs fun x y => (pairO x).bind fun l => (pairO y).map fun r => .list (zipL l r)
  | _ => none
noncomputable def isStr (x : V) : Bool := match x with
  | .str _ => true
  | _ => false
noncomputable def isList (x : V) : Bool := match x with
  | .list _ => true
  | _ => false
noncomputable def metD (ok : V → Bool) (ds : List D) (G : Gs) (f : V → V → Prop) : Prop := match ds with
  | [a, b] => a G fun x => ok x = true ∧ b G fun y => f x y
  | _ => False
noncomputable def instV (l : List V) : V := .dict (l.map fun x => (.none, x))
noncomputable def isInst (x : V) : Bool := match x with
  | .dict _ => true
  | _ => false
noncomputable def evOp (cf : CallF) (o : Op) (ds : List D) (G : Gs) (K : V → Prop) : Prop := match o with
  | .lit x => K x
  | .var k => okK (varO G k) K
  | .own k => okK (ownLO G k) fun l => K (.list l)
  | .cmp o => manyD ds G fun xs => okK (two xs (cmpOp o)) fun b => K (.bool b)
  | .not => oneD ds G fun x => okK (boolO x some) fun b => K (.bool (!b))
  | .chain => chainD ds G K
  | .and => boolsD true ds G fun b => K (.bool b)
  | .or => boolsD false ds G fun b => K (.bool b)
  | .ite => iteD ds G K
  | .call f => manyD ds G fun xs => cf f xs K
  | .meth f => oneD ds G fun x => isInst x = true ∧ cf f [x] K
  | .sorted => oneD ds G fun x => okK (listO x intsL) fun is => is.length < 64 ∧ ∀ r : List Int, r.Perm is → K (.list (r.map .int))
  | .sortedSet => oneD ds G fun x => okK (listO x some) fun l => (l.all wayV && decide (l.length < 128)) = true ∧ (∀ x ∈ l, ∀ y ∈ l, ltK (keysOf x) (keysOf y) = true) ∧ ∀ r : List V, r.Nodup → (∀ y, y ∈ r ↔ y ∈ l) → K (.list r)
  | .maxD => oneD ds G fun x => okK (listO x intsL) fun is => is.length ≤ szLine ∧ ∀ m : Int, (is = [] → m = 1) → (is ≠ [] → m ∈ is ∧ ∀ x ∈ is, x ≤ m) → K (.int m)
  | .lenL k => okK (ownLO G k) fun l => okK (fitL l (.int l.length)) K
  | .getD k => okK (ownDO G k) fun l => manyD ds G fun xs => okK (two xs fun x y => if flatV x = true then intO y fun i => some (.int ((lookD l (keysOf x)).getD i)) else none) K
  | .lenD k => okK (ownDO G k) fun l => l.length ≤ szLine ∧ K (.int l.length)
  | .valsD k => okK (ownDO G k) fun l => l.length ≤ szLine ∧ K (.list (l.map fun p => .int p.2))
  | .comp k => compD k ds G K
  | .join => metD isStr ds G fun x y => okK (opN .join [x, y]) K
  | .count => metD isList ds G fun x y => okK (opN .count [x, y]) K
  | o => manyD ds G fun xs => okK (opN o xs) K
noncomputable def ev (cf : CallF) (e : E) : D :=
  E.rec (motive_1 := fun _ => D) (motive_2 := fun _ => List D) (fun o _ ih => evOp cf o ih) [] (fun _ _ i is => i :: is) e
noncomputable def forL (b : Gs → V → Option Gs) (A : B) (xs : List V) : B :=
  List.rec (motive := fun _ => B) (fun G K => K none G)
    (fun x _ ih G K => okK (b G x) fun G' => A G' fun fl G'' => match fl with | none => ih G'' K | some y => K (some y) G'') xs
noncomputable def setMany (ks : List Nat) (G : Gs) (x : V) : Option Gs := match x with
  | .tuple xs => if xs.length = ks.length then some ((ks.zip xs).foldl (fun G p => G.set p.1 (.v p.2)) G) else none
  | _ => none
noncomputable def exOp (cf : CallF) (o : SOp) (ds : List D) (X Y : B) (G : Gs) (K : Option V → Gs → Prop) : Prop := match o with
  | .assign k => oneD ds G fun x => K none (G.set k (.v x))
  | .assignM ks => oneD ds G fun x => okK (setMany ks G x) (K none)
  | .ownL k => manyD ds G fun xs => xs.length ≤ szLine ∧ K none (G.set k (.ownL xs))
  | .ownD k => K none (G.set k (.ownD []))
  | .append k => okK (ownLO G k) fun l => oneD ds G fun x => l.length < szLine ∧ K none (G.set k (.ownL (l ++ [x])))
  | .setD k => okK (ownDO G k) fun l => manyD ds G fun xs => okK (two xs fun y x => if (flatV x && decide (l.length < szLine)) = true then intO y fun i => some (putD l (keysOf x) i) else none) fun l' => K none (G.set k (.ownD l'))
  | .setAttr k j => oneD ds G fun x => okK (ownIO G k) fun l => l.length = j ∧ K none (G.set k (.ownI (l ++ [x])))
  | .call => oneD ds G fun x => isNone x = true ∧ K none G
  | .ret => oneD ds G fun x => K (some x) G
  | .ite => oneD ds G fun x => okK (boolO x some) fun t => if t = true then X G K else Y G K
  | .forS k => oneD ds G fun x => okK (seqV x) fun xs => forL (fun G x => some (G.set k (.v x))) X xs G K
  | .forM ks => oneD ds G fun x => okK (seqV x) fun xs => forL (setMany ks) X xs G K
  | .freeze k => okK (ownLO G k) fun l => K none (G.set k (.v (.list l)))
  | .raise => False
noncomputable def ex (cf : CallF) (s : S) : B :=
  S.rec (motive_1 := fun _ => B) (motive_2 := fun _ => B) (fun o es _ _ x y => exOp cf o (es.map (ev cf)) x y) (fun G K => K none G)
    (fun _ _ i is G K => i G fun fl G' => match fl with | none => is G' K | some x => K (some x) G') s
noncomputable def exs (cf : CallF) (l : List S) : B :=
  List.rec (motive := fun _ => B) (fun G K => K none G) (fun s _ is G K => ex cf s G fun fl G' => match fl with | none => is G' K | some x => K (some x) G') l
structure Fn where
  npar : Nat
  nslots : Nat
  init : Bool
  body : List S
noncomputable abbrev Prog := List Fn
noncomputable def frame0 (fn : Fn) (args : List V) : Gs := (if fn.init = true then [.ownI []] else []) ++ args.map .v ++ List.replicate (fn.nslots - fn.npar) .unset
noncomputable def callN (P : Prog) (d : Nat) : CallF :=
  Nat.rec (motive := fun _ => CallF) (fun _ _ _ => False)
    (fun _ cf f args K => okK (P[f]?) fun fn => args.length + (if fn.init = true then 1 else 0) = fn.npar ∧ exs cf fn.body (frame0 fn args) fun fl G =>
      if fn.init = true then fl = none ∧ okK (ownIO G 0) fun l => l.length = 5 ∧ K (instV l) else K (fl.getD .none)) d
end Mine
end

noncomputable section
set_option maxRecDepth 100000
set_option genSizeOf false
set_option genSizeOfSpec false
set_option genInjectivity false
namespace Mine
open PySem PySem.Calls PyProof.Rows PySem.W

noncomputable def Keeps (h h' : Heap) : Prop := ∀ b o, h.get? b = some o → h'.get? b = some o
noncomputable def Live (h : Heap) (a : Addr) : Prop := ∃ o, h.get? a = some o
theorem Keeps.refl (h : Heap) : Keeps h h := fun _ _ e => e
theorem Keeps.trans {h₁ h₂ h₃ : Heap} (x : Keeps h₁ h₂) (y : Keeps h₂ h₃) : Keeps h₁ h₃ := fun b o e => y b o (x b o e)
theorem Keeps.live {h h' : Heap} (x : Keeps h h') {a : Addr} : Live h a → Live h' a := fun ⟨o, e⟩ => ⟨o, x a o e⟩
theorem size_none (h : Heap) : h.get? h.objs.size = none := by
  cases e : h.get? h.objs.size with
  | none => rfl
  | some o => exact absurd (Heap.lt_size e) (Nat.lt_irrefl _)
theorem none_of {h h' : Heap} {a : Addr} (l : Live h a → Live h' a) (e : h'.get? a = none) : h.get? a = none := by
  cases q : h.get? a with
  | none => rfl
  | some o => obtain ⟨o', e'⟩ := l ⟨o, q⟩; rw [e] at e'; cases e'
theorem keeps_push (h : Heap) (o : Obj) : Keeps h (h.push o) := fun _ _ e => Heap.get?_push_of_some _ e

structure Gl where
  prog : Program
  w : World
  h0 : Heap
  mg : Str → Option Value
  mb : Str → Option Value
  fn : Nat → Addr
  C : Addr
  K : Frag
  flds : List Str
  os : OsState
  P : Prog
  fns : List (Str × Nat)
  cons : List (Str × V)
structure Base (g : Gl) (s : Shared) : Prop where
  stays : Keeps g.h0 s.heap
  os : s.os = g.os
  gens : s.gens = #[]
noncomputable def FldObj (g : Gl) (o : Obj) (ws : List Value) : Prop := o.ExactDict ∧ ∃ es n, o.data = .dict es n ∧ es.toList.map (·.val) = ws ∧ ∀ (j : Nat) e, es[j]? = some e → ∃ x t, g.flds[j]? = some x ∧ e.key = .str x t

mutual
inductive Rp (g : Gl) (bad : Addr → Prop) (h : Heap) : Value → V → Prop
  | none : Rp g bad h .none .none
  | bool (b : Bool) : Rp g bad h (.bool b) (.bool b)
  | int (i : Int) (t : Tok) : Rp g bad h (.int i t) (.int i)
  | str (x : Str) (t : Tok) : Rp g bad h (.str x t) (.str x)
  | list {a : Addr} {o : Obj} {vs : Array Value} {n : Nat} {l : List V} : ¬ bad a → h.get? a = some o → o.cls = .type "list" ∧ o.dict = none → o.data = .seq vs n → RpAll g bad h vs.toList l → Rp g bad h (.ref a) (.list l)
  | tuple {a : Addr} {o : Obj} {vs : Array Value} {n : Nat} {l : List V} : ¬ bad a → h.get? a = some o → o.cls = .type "tuple" → o.data = .seq vs n → RpAll g bad h vs.toList l → Rp g bad h (.ref a) (.tuple l)
  | inst {a d : Addr} {o : Obj} {ws : List Value} {kvs : List (V × V)} {l : List V} : ¬ bad a → ¬ bad d → h.get? a = some (instObj g.C d) → h.get? d = some o → FldObj g o ws → kvs.map (·.2) = l → RpAll g bad h ws l → Rp g bad h (.ref a) (.dict kvs)
inductive RpAll (g : Gl) (bad : Addr → Prop) (h : Heap) : List Value → List V → Prop
  | nil : RpAll g bad h [] []
  | cons {v : Value} {vs : List Value} {x : V} {l : List V} : Rp g bad h v x → RpAll g bad h vs l → RpAll g bad h (v :: vs) (x :: l)
end

section
variable {g : Gl} {bad bad' : Addr → Prop} {h h' : Heap} {v : Value} {x : V} {vs ws : List Value} {l m : List V}
noncomputable def MapK (bad bad' : Addr → Prop) (h h' : Heap) : Prop := ∀ a o, h.get? a = some o → ¬ bad a → ¬ bad' a ∧ h'.get? a = some o
theorem Rp.ind {C : Value → V → Prop} {D : List Value → List V → Prop} (none : C .none .none) (bool : ∀ b, C (.bool b) (.bool b)) (int : ∀ i t, C (.int i t) (.int i)) (str : ∀ x t, C (.str x t) (.str x))
    (list : ∀ a (o : Obj) vs n l, ¬ bad a → h.get? a = some o → o.cls = .type "list" ∧ o.dict = .none → o.data = .seq vs n → RpAll g bad h vs.toList l → D vs.toList l → C (.ref a) (.list l))
    (tuple : ∀ a (o : Obj) vs n l, ¬ bad a → h.get? a = some o → o.cls = .type "tuple" → o.data = .seq vs n → RpAll g bad h vs.toList l → D vs.toList l → C (.ref a) (.tuple l))
    (inst : ∀ a d o ws kvs, ¬ bad a → ¬ bad d → h.get? a = some (instObj g.C d) → h.get? d = some o → FldObj g o ws → RpAll g bad h ws (kvs.map (·.2)) → D ws (kvs.map (·.2)) → C (.ref a) (.dict kvs))
    (nil : D [] []) (cons : ∀ v vs x l, Rp g bad h v x → RpAll g bad h vs l → C v x → D vs l → D (v :: vs) (x :: l)) : (Rp g bad h v x → C v x) ∧ (RpAll g bad h vs l → D vs l) := by
  constructor
  · exact fun r => Rp.rec (motive_1 := fun v x _ => C v x) (motive_2 := fun vs l _ => D vs l) none bool int str (fun a b c d e i => list _ _ _ _ _ a b c d e i) (fun a b c d e i => tuple _ _ _ _ _ a b c d e i) (fun a b c d e f r i => by subst f; exact inst _ _ _ _ _ a b c d e r i) nil (fun a b c d => cons _ _ _ _ a b c d) r
  · exact fun r => RpAll.rec (motive_1 := fun v x _ => C v x) (motive_2 := fun vs l _ => D vs l) none bool int str (fun a b c d e i => list _ _ _ _ _ a b c d e i) (fun a b c d e i => tuple _ _ _ _ _ a b c d e i) (fun a b c d e f r i => by subst f; exact inst _ _ _ _ _ a b c d e r i) nil (fun a b c d => cons _ _ _ _ a b c d) r
theorem rp_map (k : MapK bad bad' h h') : (Rp g bad h v x → Rp g bad' h' v x) ∧ (RpAll g bad h vs l → RpAll g bad' h' vs l) :=
  Rp.ind .none .bool .int .str (fun a o vs n l hb ha hc hd _ ih => .list (k a o ha hb).1 (k a o ha hb).2 hc hd ih) (fun a o vs n l hb ha hc hd _ ih => .tuple (k a o ha hb).1 (k a o ha hb).2 hc hd ih)
    (fun a d o ws kvs hb hb' ha hd hf _ ih => .inst (k _ _ ha hb).1 (k _ _ hd hb').1 (k _ _ ha hb).2 (k _ _ hd hb').2 hf rfl ih) .nil fun _ _ _ _ _ _ i j => .cons i j
theorem Rp.map (r : Rp g bad h v x) (k : MapK bad bad' h h') : Rp g bad' h' v x := (rp_map (vs := []) (l := []) k).1 r
theorem RpAll.map (r : RpAll g bad h vs l) (k : MapK bad bad' h h') : RpAll g bad' h' vs l := (rp_map (v := .none) (x := .none) k).2 r
theorem Keeps.mapK (k : Keeps h h') : MapK bad bad h h' := fun a o e n => ⟨n, k a o e⟩
theorem Rp.keep (r : Rp g bad h v x) (k : Keeps h h') : Rp g bad h' v x := r.map k.mapK
theorem RpAll.keep (r : RpAll g bad h vs l) (k : Keeps h h') : RpAll g bad h' vs l := r.map k.mapK
theorem RpAll.ind {D : List Value → List V → Prop} (r : RpAll g bad h vs l) (n : D [] []) (c : ∀ v vs x l, Rp g bad h v x → RpAll g bad h vs l → D vs l → D (v :: vs) (x :: l)) : D vs l :=
  (Rp.ind (v := .none) (x := .none) (C := fun _ _ => True) trivial (fun _ => trivial) (fun _ _ => trivial) (fun _ _ => trivial) (fun _ _ _ _ _ _ _ _ _ _ _ => trivial) (fun _ _ _ _ _ _ _ _ _ _ _ => trivial) (fun _ _ _ _ _ _ _ _ _ _ _ _ => trivial) n fun v vs x l r rs _ i => c v vs x l r rs i).2 r
theorem RpAll.length (r : RpAll g bad h vs l) : vs.length = l.length := r.ind (D := fun vs l => vs.length = l.length) rfl fun _ _ _ _ _ _ i => congrArg (· + 1) i
theorem RpAll.get {i : Nat} {x : V} (r : RpAll g bad h vs l) : l[i]? = some x → ∃ v, vs[i]? = some v ∧ Rp g bad h v x := by
  refine r.ind (D := fun vs l => ∀ i, l[i]? = some x → ∃ v, vs[i]? = some v ∧ Rp g bad h v x) (fun i e => absurd (List.getElem?_nil (i := i) ▸ e) nofun) (fun v vs y l r _ ih i e => ?_) i
  cases i with
  | zero => cases e; exact ⟨_, rfl, r⟩
  | succ i => exact ih i e
theorem RpAll.append (r : RpAll g bad h vs l) (q : RpAll g bad h ws m) : RpAll g bad h (vs ++ ws) (l ++ m) := r.ind (D := fun vs l => RpAll g bad h (vs ++ ws) (l ++ m)) q fun _ _ _ _ r _ i => .cons r i
theorem RpAll.take (n : Nat) (r : RpAll g bad h vs l) : RpAll g bad h (vs.take n) (l.take n) := by
  refine r.ind (D := fun vs l => ∀ n, RpAll g bad h (vs.take n) (l.take n)) (fun n => ?_) (fun v vs x l r _ ih n => ?_) n
  · rw [List.take_nil, List.take_nil]; exact .nil
  · cases n with
    | zero => exact .nil
    | succ n => exact .cons r (ih n)
theorem RpAll.drop (n : Nat) (r : RpAll g bad h vs l) : RpAll g bad h (vs.drop n) (l.drop n) := by
  refine r.ind (D := fun vs l => ∀ n, RpAll g bad h (vs.drop n) (l.drop n)) (fun n => ?_) (fun v vs x l r rs ih n => ?_) n
  · rw [List.drop_nil, List.drop_nil]; exact .nil
  · cases n with
    | zero => exact .cons r rs
    | succ n => exact ih n
theorem rp_reads : (Rp g bad h v x → x.canLay0 = true → ∃ as, Reads h v x as) ∧ (RpAll g bad h vs l → PyData.canLayAll0 l = true → ∃ as, ReadsAll h vs l as) :=
  Rp.ind (C := fun v x => x.canLay0 = true → ∃ as, Reads h v x as) (D := fun vs l => PyData.canLayAll0 l = true → ∃ as, ReadsAll h vs l as) (fun _ => ⟨_, .none⟩) (fun b _ => ⟨_, .bool b⟩) (fun i t _ => ⟨_, .int i t⟩) (fun x t _ => ⟨_, .str x t⟩)
    (fun a o vs n l hb ha hc hd _ ih q => (ih q).elim fun _ r => ⟨_, .list ha hc.1 hd r⟩) (fun a o vs n l hb ha hc hd _ ih q => (ih q).elim fun _ r => ⟨_, .tuple ha hc hd r⟩) (fun _ _ _ _ _ _ _ _ _ _ _ _ q => nomatch q) (fun _ => ⟨_, .nil⟩)
    fun v vs x l _ _ i j q => by
      have q := (Bool.and_eq_true _ _).mp q
      obtain ⟨as, r⟩ := i q.1
      obtain ⟨bs, rs⟩ := j q.2
      exact ⟨_, .cons r rs⟩
theorem Rp.reads (r : Rp g bad h v x) (q : x.canLay0 = true) : ∃ as, Reads h v x as := (rp_reads (vs := []) (l := [])).1 r q
/-! what a value is, by what it stands for -/
@[elab_as_elim] theorem Rp.none_elim {C : Value → Prop} (r : Rp g bad h v .none) (k : C .none) : C v := by cases r; exact k
@[elab_as_elim] theorem Rp.bool_elim {C : Value → Prop} {b : Bool} (r : Rp g bad h v (.bool b)) (k : C (.bool b)) : C v := by cases r; exact k
@[elab_as_elim] theorem Rp.int_elim {C : Value → Prop} {i : Int} (r : Rp g bad h v (.int i)) (k : ∀ t, C (.int i t)) : C v := by cases r; exact k _
@[elab_as_elim] theorem Rp.str_elim {C : Value → Prop} {x : Str} (r : Rp g bad h v (.str x)) (k : ∀ t, C (.str x t)) : C v := by cases r with | str _ t => exact k t
@[elab_as_elim] theorem Rp.list_elim {C : Value → Prop} (r : Rp g bad h v (.list l)) (k : ∀ a (o : Obj) vs n, ¬ bad a → h.get? a = some o → o.cls = .type "list" ∧ o.dict = Option.none → o.data = .seq vs n → RpAll g bad h vs.toList l → C (.ref a)) : C v := by
  cases r with | list hb ha hc hd hl => exact k _ _ _ _ hb ha hc hd hl
@[elab_as_elim] theorem Rp.tuple_elim {C : Value → Prop} (r : Rp g bad h v (.tuple l)) (k : ∀ a (o : Obj) vs n, ¬ bad a → h.get? a = some o → o.cls = .type "tuple" → o.data = .seq vs n → RpAll g bad h vs.toList l → C (.ref a)) : C v := by
  cases r with | tuple hb ha hc hd hl => exact k _ _ _ _ hb ha hc hd hl
@[elab_as_elim] theorem Rp.inst_elim {C : Value → Prop} {kvs : List (V × V)} (r : Rp g bad h v (.dict kvs)) (k : ∀ a d o ws, ¬ bad a → ¬ bad d → h.get? a = some (instObj g.C d) → h.get? d = some o → FldObj g o ws → RpAll g bad h ws (kvs.map (·.2)) → C (.ref a)) : C v := by
  cases r with | inst hb hb' ha hd hf e hl => subst e; exact k _ _ _ _ hb hb' ha hd hf hl
end
end Mine
end

noncomputable section
set_option maxRecDepth 100000
set_option linter.unusedVariables false
namespace Mine
open PySem

noncomputable def scIs : Sc → Value → Bool
  | .inl i, v => Value.isInt i v
  | .inr x, v => Value.isStrOf x v
theorem scIs_elim {k : Sc} {v : Value} {C : Sc → Value → Prop} (h : scIs k v = true) (hi : ∀ i t, C (.inl i) (.int i t)) (hs : ∀ x t, C (.inr x) (.str x t)) : C k v := by
  cases k with
  | inl i => obtain ⟨t, rfl⟩ := Value.isInt_shape h; exact hi i t
  | inr x => obtain ⟨t, rfl⟩ := Value.isStrOf_shape h; exact hs x t
noncomputable def scKind (prog : Program) (w : World) : KeyKind prog w Sc where
  is := scIs
  hash := fun k => match k with | .inl i => hashInt i | .inr x => hashStr w x
  inj := fun v a b ha hb => scIs_elim (C := fun a v => scIs b v = true → a = b) ha (fun i t hb => by cases b with | inl j => exact congrArg _ (Value.isInt_inj (.int i t) i j (by simp [Value.isInt]) hb) | inr y => cases hb)
    (fun x t hb => by cases b with | inl j => cases hb | inr y => exact congrArg _ (Value.isStrOf_inj (.str x t) x y (by simp [Value.isStrOf]) hb)) hb
  byValue := fun k v h => scIs_elim (C := fun _ v => carriedByValue v = true) h (fun _ _ => rfl) fun _ _ => rfl
  pyHash := fun {A E s k v Q} h hq => scIs_elim (C := fun k v => Q (match k with | .inl i => hashInt i | .inr x => hashStr w x) { s with toks := s.toks + 1 } → wpAny (model prog w) A (PySem.pyHash v) Q E s) h (fun _ _ hq => wpAny_pyHash_int hq) (fun _ _ hq => wpAny_pyHash_str hq) hq
  eqBool := fun {A E s a b u v Q} hu hv hq => scIs_elim (C := fun a u => Q (decide (a = b)) s → wpAny (model prog w) A (PySem.eqBool u v) Q E s) hu
    (fun i t hq => scIs_elim (C := fun b v => Q (decide (Sum.inl i = b)) s → wpAny (model prog w) A (PySem.eqBool (.int i t) v) Q E s) hv (fun j u hq => wpAny_eqBool_int (by rw [show (i == j) = decide ((Sum.inl i : Sc) = .inl j) by by_cases e : i = j <;> simp [e]]; exact hq)) (fun y u hq => SeqAt.EqAt.int_str i t y u _ _ _ _ (by simpa using hq)) hq)
    (fun x t hq => scIs_elim (C := fun b v => Q (decide (Sum.inr x = b)) s → wpAny (model prog w) A (PySem.eqBool (.str x t) v) Q E s) hv (fun j u hq => SeqAt.EqAt.str_int x t j u _ _ _ _ (by simpa using hq)) (fun y u hq => wpAny_eqBool_str (by rw [show decide (x = y) = decide ((Sum.inr x : Sc) = .inr y) by by_cases e : x = y <;> simp [e]]; exact hq)) hq) hq
  «strs» := fun k x t v h => by
    cases k with
    | inl i => cases h
    | inr y => exact (strKind prog w).«strs» y x t v h

end Mine
end

noncomputable section
set_option maxRecDepth 100000
set_option genSizeOf false
set_option genSizeOfSpec false
set_option genInjectivity false
set_option linter.unusedVariables false
namespace Mine
open PySem PySem.Calls PyProof.Rows PySem.W

inductive Pl where
  | ns (a : Addr) (x : Str)
  | cell (c : Addr)
  | off
noncomputable def Pl.addr : Pl → Option Addr
  | .ns a _ => some a
  | .cell c => some c
  | .off => none
noncomputable def PlRead (h : Heap) : Pl → Option Value → Prop
  | .ns a x, v => ∃ m, h.Ns a m ∧ m x = v
  | .cell c, v => h.IsCell c v
  | .off, v => v = none
structure Fx where
  g : Gl
  A : Around
  env : Env
  ρ : List (Str × Nat)
  pl : Nat → Pl
  Mo : Addr → Prop
  nf : Nat
  ns : Nat
  d : Nat
structure Ct where
  fx : Fx
  oa : Nat → Option Addr
  G : Gs
noncomputable def Ct.own (Φ : Ct) (a : Addr) : Prop := (∃ k, (Φ.fx.pl k).addr = some a) ∨ ∃ k, Φ.oa k = some a
noncomputable def Ct.bad (Φ : Ct) (a : Addr) : Prop := Φ.fx.Mo a ∨ Φ.own a
noncomputable def DObj (g : Gl) (bad : Addr → Prop) (h : Heap) (a : Addr) (l : List (List Sc × Int)) : Prop := ∃ xs, h.DictOfH (tupleKind (scKind g.prog g.w)) a xs ∧ (∀ x ∈ xs, ¬ bad x.2.1 ∧ ∃ n t, x.2.2 = .int n t) ∧ l = xs.map fun x => (x.1, numOf x.2.2)
noncomputable def OwnAt (g : Gl) (bad : Addr → Prop) (h : Heap) (a : Addr) (u : Value) : Slot → Prop
  | .ownL l => u = .ref a ∧ ∃ o vs n, h.get? a = some o ∧ (o.cls = .type "list" ∧ o.dict = none) ∧ o.data = .seq vs n ∧ RpAll g bad h vs.toList l
  | .ownD l => u = .ref a ∧ DObj g bad h a l
  | .ownI l => ∃ b o ws, u = .ref b ∧ ¬ bad b ∧ h.get? b = some (instObj g.C a) ∧ h.get? a = some o ∧ FldObj g o ws ∧ RpAll g bad h ws l
  | _ => False
noncomputable def SlotOk (g : Gl) (bad : Addr → Prop) (h : Heap) (oak : Option Addr) (v : Option Value) : Slot → Prop
  | .unset => oak = none ∧ v = none
  | .v x => oak = none ∧ ∃ u, v = some u ∧ Rp g bad h u x
  | sl => ∃ a u, oak = some a ∧ v = some u ∧ OwnAt g bad h a u sl

noncomputable def CallOk (g : Gl) (cf : CallF) (d : Nat) : Prop := ∀ f args K A s bad vals E, cf f args K → A.handled = none → A.depth + 2 * d < 990 → A.units + 4 * d + 100 < cLine → Base g s → (∀ a, bad a → Live s.heap a) → RpAll g bad s.heap vals args →
  wpAny (model g.prog g.w) A (call (.ref (g.fn f)) vals) (fun v s' => Base g s' ∧ Keeps s.heap s'.heap ∧ ∃ y, K y ∧ Rp g bad s'.heap v y) E s
noncomputable def bltNames : List (Str × Value) := [("len", .builtin "len"), ("isinstance", .builtin "isinstance"), ("str", .type "str"), ("int", .type "int"), ("bool", .type "bool"), ("list", .type "list"), ("tuple", .type "tuple"),
  ("set", .type "set"), ("range", .type "range"), ("zip", .type "zip"), ("max", .builtin "max"), ("sorted", .builtin "sorted")]
structure ClsOk (g : Gl) : Prop where
  hga : findIn g.K (.ref g.C) "__getattribute__" = some (some (.builtin "object.__getattribute__"))
  hgk : findIn g.K (.ref g.C) "__getattr__" = some none
  hsa : findIn g.K (.ref g.C) "__setattr__" = some (some (.builtin "object.__setattr__"))
  over : plainOver g.K g.C = true
  hdict : (clsIn g.K g.C).any (·.hasDict) = true
  flds : ∀ x ∈ g.flds, findIn g.K (.ref g.C) x = some none
  makes : makesIn g.K g.C = true
  nodup : g.flds.Nodup
  few : g.flds.length ≤ 1000
structure Ground (g : Gl) : Prop where
  main : g.h0.Ns mainGlobals g.mg
  blt : g.h0.Ns builtinsNs g.mb
  nolim : g.h0.NoLimit
  sysm : Live g.h0 sysModules
  frag : g.K.In g.h0
  cls : ClsOk g
  fns : ∀ x f, g.fns.lookup x = some f → g.mg x = some (.ref (g.fn f))
  cons : ∀ x v, g.cons.lookup x = some v → ∃ u, g.mg x = some u ∧ ∀ bad h, Rp g bad h u v
  blts : ∀ x v, bltNames.lookup x = some v → g.mg x = none ∧ g.mb x = some v
structure FxOk (fx : Fx) : Prop where
  gr : Ground fx.g
  hand : fx.A.handled = none
  kind : fx.env.scope.kind = .function
  globals : fx.env.globals = mainGlobals
  builtins : fx.env.builtins = builtinsNs
  vis : ∀ x k, fx.ρ.lookup x = some k → (fx.env.kindOf x = some .local ∧ fx.pl k = .ns fx.env.locals x) ∨ ((fx.env.kindOf x = some .cell ∨ fx.env.kindOf x = some .free) ∧ ∃ c, fx.env.cells.lookup x = some c ∧ fx.pl k = .cell c)
  inj : ∀ k j, fx.pl k = fx.pl j → fx.pl k ≠ .off → k = j
  apart : ∀ k j a x c, fx.pl k = .ns a x → fx.pl j = .cell c → a ≠ c
  offs : ∀ k, fx.nf ≤ k → fx.pl k = .off
  nfs : fx.nf ≤ fx.ns
  room : fx.A.depth + 2 * fx.d < 990
  units : fx.A.units + 4 * fx.d + 100 < cLine
  call : CallOk fx.g (callN fx.g.P fx.d) fx.d
structure Inv (Φ : Ct) (s : Shared) : Prop where
  ok : FxOk Φ.fx
  base : Base Φ.fx.g s
  slot : ∀ k, ∃ v, PlRead s.heap (Φ.fx.pl k) v ∧ SlotOk Φ.fx.g Φ.bad s.heap (Φ.oa k) v (getSlot Φ.G k)
  new : ∀ a, Φ.own a → Live s.heap a ∧ Φ.fx.g.h0.get? a = none ∧ ¬ Φ.fx.Mo a
  inj : ∀ k j a, Φ.oa k = some a → Φ.oa j = some a → k = j
  off : ∀ k a, Φ.oa k = some a → ∀ j, (Φ.fx.pl j).addr ≠ some a
  gl : Φ.G.length = Φ.fx.ns
  mo : ∀ a, Φ.fx.Mo a → Live s.heap a

section
variable {g : Gl} {Φ : Ct} {s s' s₁ : Shared} {h h' : Heap} {bad bad' : Addr → Prop} {α β γ δ : Type}
theorem PlRead.keep {p : Pl} {v : Option Value} (k : Keeps h h') (r : PlRead h p v) : PlRead h' p v := by
  cases p with
  | ns a x => obtain ⟨m, hn, hv⟩ := r; exact ⟨m, hn.at' (k a), hv⟩
  | cell c => obtain ⟨o, ho, hd⟩ := r; exact ⟨o, k c o ho, hd⟩
  | off => exact r
theorem OwnAt.map {a : Addr} {u : Value} {sl : Slot} (r : OwnAt g bad h a u sl) (k : MapK bad bad' h h') (t : ∀ o, h.get? a = some o → h'.get? a = some o) : OwnAt g bad' h' a u sl := by
  cases sl with
  | ownL l => obtain ⟨e, o, vs, n, ho, hc, hd, hl⟩ := r; exact ⟨e, o, vs, n, t o ho, hc, hd, hl.map k⟩
  | ownD l =>
    obtain ⟨e, xs, ⟨o, es, ep, ho, hx, hd, hes, hk, hn⟩, hv, hl⟩ := r
    have kk : ∀ x ∈ xs, ¬ bad' x.2.1 ∧ IsTupleKey (scKind g.prog g.w) h' x.1 x.2.1 := fun x m => by
      obtain ⟨o', it, n, ho', q⟩ := hk x m
      exact ⟨(k _ _ ho' (hv x m).1).1, o', it, n, (k _ _ ho' (hv x m).1).2, q⟩
    exact ⟨e, xs, ⟨o, es, ep, t o ho, hx, hd, hes, fun x m => (kk x m).2, hn⟩, fun x m => ⟨(kk x m).1, (hv x m).2⟩, hl⟩
  | ownI l => obtain ⟨b, o, ws, e, nb, hb, ho, hf, hl⟩ := r; exact ⟨b, o, ws, e, (k _ _ hb nb).1, (k _ _ hb nb).2, t o ho, hf, hl.map k⟩
  | _ => exact r
theorem SlotOk.map {oak : Option Addr} {v : Option Value} {sl : Slot} (r : SlotOk g bad h oak v sl) (k : MapK bad bad' h h') (t : ∀ a, oak = some a → ∀ o, h.get? a = some o → h'.get? a = some o) : SlotOk g bad' h' oak v sl := by
  cases sl with
  | unset => exact r
  | v x => obtain ⟨e, u, q, rp⟩ := r; exact ⟨e, u, q, rp.map k⟩
  | _ => obtain ⟨a, u, e, q, rp⟩ := r; exact ⟨a, u, e, q, rp.map k (t a e)⟩
theorem Inv.keep (I : Inv Φ s) (B : Base Φ.fx.g s') (k : Keeps s.heap s'.heap) : Inv Φ s' where
  ok := I.ok
  base := B
  slot := fun j => let ⟨v, r, x⟩ := I.slot j; ⟨v, r.keep k, x.map k.mapK fun a _ o e => k a o e⟩
  new := fun a q => let ⟨x, y⟩ := I.new a q; ⟨k.live x, y⟩
  inj := I.inj
  off := I.off
  gl := I.gl
  mo := fun a q => k.live (I.mo a q)
theorem Inv.badLive (I : Inv Φ s) {a : Addr} (b : Φ.bad a) : Live s.heap a := b.elim (I.mo a) fun b => (I.new a b).1

noncomputable abbrev Ct.wp (Φ : Ct) (t : Sem α) (Q : α → Shared → Prop) (s : Shared) : Prop := ∀ E, wpAny (model Φ.fx.g.prog Φ.fx.g.w) Φ.fx.A t Q E s
noncomputable def Post (Φ : Ct) (R : Heap → α → β → Prop) (s : Shared) (K : β → Prop) (a : α) (s' : Shared) : Prop := Base Φ.fx.g s' ∧ Keeps s.heap s'.heap ∧ ∃ y, K y ∧ R s'.heap a y
noncomputable def EvR (Φ : Ct) (R : Heap → α → β → Prop) (t : Sem α) (d : (β → Prop) → Prop) : Prop := ∀ K s, d K → Inv Φ s → Φ.wp t (Post Φ R s K) s
noncomputable abbrev Ct.rp (Φ : Ct) : Heap → Value → V → Prop := Rp Φ.fx.g Φ.bad
noncomputable abbrev Ct.rps (Φ : Ct) : Heap → List Value → List V → Prop := RpAll Φ.fx.g Φ.bad
noncomputable abbrev Ev (Φ : Ct) (t : Sem Value) (d : (V → Prop) → Prop) : Prop := EvR Φ Φ.rp t d
noncomputable abbrev EvT (Φ : Ct) (t : Sem Bool) (d : (Bool → Prop) → Prop) : Prop := EvR Φ (fun _ => Eq) t d
noncomputable abbrev EvL (Φ : Ct) (t : Sem (List Value)) (d : (List V → Prop) → Prop) : Prop := EvR Φ Φ.rps t d

theorem Post.lift {R : Heap → α → β → Prop} {K : β → Prop} {a : α} (p : Post Φ R s₁ K a s') (k : Keeps s.heap s₁.heap) : Post Φ R s K a s' := ⟨p.1, k.trans p.2.1, p.2.2⟩
theorem EvR.bind {R : Heap → α → β → Prop} {R' : Heap → γ → δ → Prop} {t : Sem α} {f : α → Sem γ} {d : (β → Prop) → Prop} {K₁ : β → Prop} {K : δ → Prop} (x : EvR Φ R t d) (hd : d K₁) (I : Inv Φ s)
    (y : ∀ a b s₁, Inv Φ s₁ → Keeps s.heap s₁.heap → K₁ b → R s₁.heap a b → Φ.wp (f a) (Post Φ R' s₁ K) s₁) : Φ.wp (t >>= f) (Post Φ R' s K) s := fun E =>
  wpAny_bind (wpAny_mono (x K₁ s hd I E) (fun a s₁ ⟨B, k, b, kb, r⟩ => wpAny_mono (y a b s₁ (I.keep B k) k kb r E) (fun _ _ p => p.lift k) fun _ _ z => z) fun _ _ z => z)
theorem EvR.holding {R : Heap → α → β → Prop} {t : Sem α} {d : (β → Prop) → Prop} {vs : List Value} (x : EvR Φ R t d) : EvR Φ R (holding vs t) d := fun K s hd I E => wpAny_holding (x K s hd I E)
theorem EvR.pure {R : Heap → α → β → Prop} {K : β → Prop} {a : α} {b : β} (I : Inv Φ s) (k : K b) (r : R s.heap a b) : Φ.wp (pure a) (Post Φ R s K) s := fun E => wpAny_pure ⟨I.base, .refl _, b, k, r⟩
theorem wp_stand {p : Pos} {t : Unit → Sem α} {Q : α → Shared → Prop} (x : Φ.wp (t ()) Q s) : Φ.wp (standAt p >>= t) Q s := fun E => wpAny_bind (wpAny_standAt (x E))

structure Grown (s s' : Shared) : Prop where
  keeps : Keeps s.heap s'.heap
  os : s'.os = s.os
  gens : s'.gens = s.gens
theorem Grown.refl (s : Shared) : Grown s s := ⟨.refl _, rfl, rfl⟩
theorem Grown.trans {s₁ s₂ s₃ : Shared} (x : Grown s₁ s₂) (y : Grown s₂ s₃) : Grown s₁ s₃ := ⟨x.keeps.trans y.keeps, y.os.trans x.os, y.gens.trans x.gens⟩
theorem Grown.toks (s : Shared) (n : Nat) : Grown s { s with toks := n } := ⟨.refl _, rfl, rfl⟩
theorem Grown.push (s : Shared) (o : Obj) (n : Nat) : Grown s { s with heap := s.heap.push o, toks := n } := ⟨keeps_push _ _, rfl, rfl⟩
theorem Base.grown (B : Base g s) (x : Grown s s') : Base g s' := ⟨B.stays.trans x.keeps, x.os.trans B.os, x.gens.trans B.gens⟩
noncomputable abbrev Ct.Gives (Φ : Ct) (s : Shared) (z : V) (v : Value) (s' : Shared) : Prop := Grown s s' ∧ Φ.rp s'.heap v z
theorem step {R : Heap → α → β → Prop} {K : β → Prop} {t : Sem α} {z : β} (I : Inv Φ s) (kz : K z) (h : Φ.wp t (fun a s' => Grown s s' ∧ R s'.heap a z) s) : Φ.wp t (Post Φ R s K) s := fun E =>
  wpAny_mono (h E) (fun a s' p => ⟨I.base.grown p.1, p.1.keeps, z, kz, p.2⟩) fun _ _ z => z
theorem okK_elim {o : Option α} {K : α → Prop} {C : Prop} (h : okK o K) (k : ∀ z, o = some z → K z → C) : C := by
  cases o with
  | none => exact h.elim
  | some z => exact k z rfl h
theorem wpAny_release {M : Model} {A : Around} {E : Value → Shared → Prop} {s : Shared} {vs keep : List Value} {Q : Unit → Shared → Prop} (h : Q () s) : wpAny M A (release vs keep) Q E s := by
  unfold release
  generalize (vs.filter fun | .ref _ => true | _ => false) = l
  induction l with
  | nil => exact wpAny_pure h
  | cons x r ih =>
    cases r with
    | nil => exact wpAny_pure h
    | cons y r =>
      unfold release.go
      exact wpAny_bind (wpAny_holding (wpAny_point ih))
theorem wp_operate {vs : List Value} {t : Sem Value} {Q : Value → Shared → Prop} (x : Φ.wp t Q s) : Φ.wp (operate vs t) Q s := fun E => by
  unfold PySem.operate
  exact wpAny_bind (wpAny_holding (wpAny_mono (x E) (fun a s' p => wpAny_bind (wpAny_release (wpAny_pure p))) fun _ _ z => z))
end

/-! names -/
noncomputable def okName (x : Str) : Bool := !(x == ("__debug__" : Str)) && !(x == ("__classdict__" : Str))
section
variable {Φ : Ct} {s : Shared}
theorem name_read {x : Str} {k : Nat} {pos : Pos} {v : Value} {Q : Value → Shared → Prop} (ok : FxOk Φ.fx) (hx : Φ.fx.ρ.lookup x = some k) (hn : okName x = true) (r : PlRead s.heap (Φ.fx.pl k) (some v)) (h : Q v s) : Φ.wp (eval (.Name x pos) Φ.fx.env) Q s := fun E => by
  have hn := (Bool.and_eq_true _ _).mp hn
  have h1 := Bool.not_eq_true' _ ▸ hn.1
  rcases ok.vis x k hx with ⟨hl, hp⟩ | ⟨hl, c, hc, hp⟩
  · rw [hp] at r
    obtain ⟨m, hns, hv⟩ := r
    exact wpAny_Name (wpAny_loadName_local ok.kind hl hns hv h) h1
  · rw [hp] at r
    rcases hl with hl | hl
    · exact wpAny_Name (wpAny_loadName_cell ok.kind hl hc r h) h1
    · exact wpAny_Name (wpAny_loadName_free ok.kind hl hc r h (Bool.not_eq_true' _ ▸ hn.2)) h1
theorem var_some {G : Gs} {k : Nat} {x : V} (e : varO G k = some x) : getSlot G k = .v x := by
  unfold varO at e
  split at e
  · cases e; assumption
  · cases e
theorem ev_var {x : Str} {k : Nat} {pos : Pos} (hx : Φ.fx.ρ.lookup x = some k) (hn : okName x = true) : Ev Φ (eval (.Name x pos) Φ.fx.env) (okK (varO Φ.G k)) := fun K s hd I => okK_elim hd fun y e ky => by
  obtain ⟨v, pr, so⟩ := I.slot k
  rw [var_some e] at so
  obtain ⟨_, u, rfl, rp⟩ := so
  exact name_read I.ok hx hn pr ⟨I.base, .refl _, y, ky, rp⟩
theorem own_read {x : Str} {k : Nat} {pos : Pos} {Q : Value → Shared → Prop} {C : Value → Prop} (hx : Φ.fx.ρ.lookup x = some k) (hn : okName x = true) (I : Inv Φ s) {sl : Slot} (e : getSlot Φ.G k = sl) (ho : ∀ {oak v}, SlotOk Φ.fx.g Φ.bad s.heap oak v sl → ∃ a u, oak = some a ∧ v = some u ∧ OwnAt Φ.fx.g Φ.bad s.heap a u sl)
    (h : ∀ a u, Φ.oa k = some a → OwnAt Φ.fx.g Φ.bad s.heap a u sl → Q u s) : Φ.wp (eval (.Name x pos) Φ.fx.env) Q s := by
  obtain ⟨v, pr, so⟩ := I.slot k
  rw [e] at so
  obtain ⟨a, u, ha, rfl, oa⟩ := ho so
  exact name_read I.ok hx hn pr (h a u ha oa)
end
end Mine
end

noncomputable section
set_option maxRecDepth 100000
set_option linter.unusedVariables false
namespace Mine
open PySem PySem.Calls PyProof.Rows PySem.W

section
variable {α : Type} {C : V → Prop} {x : V} {z : α}
theorem intO_elim {f : Int → Option α} (e : intO x f = some z) (k : ∀ i, f i = some z → C (.int i)) : C x := by
  cases x <;> first | exact k _ e | cases e
theorem strO_elim {f : List Nat → Option α} (e : strO x f = some z) (k : ∀ t : Str, f t.cps.toList = some z → C (.str t)) : C x := by
  cases x <;> first | exact k _ e | cases e
theorem listO_elim {f : List V → Option α} (e : listO x f = some z) (k : ∀ l, f l = some z → C (.list l)) : C x := by
  cases x <;> first | exact k _ e | cases e
theorem tupO_elim {f : List V → Option α} (e : tupO x f = some z) (k : ∀ l, f l = some z → C (.tuple l)) : C x := by
  cases x <;> first | exact k _ e | cases e
theorem boolO_elim {f : Bool → Option α} (e : boolO x f = some z) (k : ∀ b, f b = some z → C (.bool b)) : C x := by
  cases x <;> first | exact k _ e | cases e
end
section
variable {α β : Type}
@[elab_as_elim] theorem some_elim {C : α → Prop} {a b : α} (e : some a = some b) (k : C a) : C b := Option.some.inj e ▸ k
@[elab_as_elim] theorem if_elim {C : α → Prop} {p : Prop} [Decidable p] {a z : α} (e : (if p then some a else none) = some z) (k : p → C a) : C z := by
  by_cases h : p
  · rw [if_pos h] at e; exact some_elim e (k h)
  · rw [if_neg h] at e; cases e
@[elab_as_elim] theorem ifn_elim {C : α → Prop} {p : Prop} [Decidable p] {a z : α} (e : (if p then none else some a) = some z) (k : ¬ p → C a) : C z := by
  by_cases h : p
  · rw [if_pos h] at e; cases e
  · rw [if_neg h] at e; exact some_elim e (k h)
theorem ifo_elim {C : Prop} {p : Prop} [Decidable p] {a : Option α} {z : α} (e : (if p then a else none) = some z) (k : p → a = some z → C) : C := by
  by_cases h : p
  · rw [if_pos h] at e; exact k h e
  · rw [if_neg h] at e; cases e
@[elab_as_elim] theorem map_elim {C : β → Prop} {f : α → β} {o : Option α} {z : β} (e : o.map f = some z) (k : ∀ a, o = some a → C (f a)) : C z := by
  cases o with
  | none => cases e
  | some a => exact some_elim e (k a rfl)
@[elab_as_elim] theorem fit_elim {C : β → Prop} {l : List α} {a z : β} (e : fitL l a = some z) (k : l.length ≤ szLine → C a) : C z := if_elim e k
end
theorem sz_le {n : Nat} (h : n ≤ szLine) : n ≤ sizeLine := Nat.le_trans h (by decide)
theorem arr_le {vs : Array Value} {n : Nat} (e : vs.toList.length = n) (h : n ≤ szLine) : vs.size ≤ sizeLine := sz_le (Array.length_toList ▸ e ▸ h)

section
variable {Φ : Ct} {s : Shared} {v u : Value} {x y z : V}
theorem Inv.fresh (I : Inv Φ s) : ¬ Φ.bad s.heap.objs.size := fun q => by obtain ⟨o, e⟩ := I.badLive q; rw [size_none] at e; cases e
theorem Inv.room (I : Inv Φ s) : Φ.fx.A.units + 100 < cLine := by have := I.ok.units; omega
theorem made_list {vs : List Value} {l : List V} {n tk : Nat} (I : Inv Φ s) (r : Φ.rps s.heap vs l) : Φ.Gives s (.list l) (.ref s.heap.objs.size) { s with heap := s.heap.push { cls := .type "list", data := .seq vs.toArray n }, toks := tk } :=
  ⟨Grown.push _ _ _, .list I.fresh (Heap.get?_push_size _ rfl) ⟨rfl, rfl⟩ rfl (r.keep (keeps_push _ _))⟩
theorem made_tuple {vs : List Value} {l : List V} {n tk : Nat} (I : Inv Φ s) (r : Φ.rps s.heap vs l) : Φ.Gives s (.tuple l) (.ref s.heap.objs.size) { s with heap := s.heap.push { cls := .type "tuple", data := .seq vs.toArray n }, toks := tk } :=
  ⟨Grown.push _ _ _, .tuple I.fresh (Heap.get?_push_size _ rfl) rfl rfl (r.keep (keeps_push _ _))⟩
theorem intMul_ok {a b : Int} (h : b.natAbs ≤ 1000000 ∨ a.natAbs ≤ 1000000) : IntMulOk a b := by
  rcases h with h | h
  · exact .of_right (intBits_le_64 (by omega) (by omega))
  · exact .of_left (intBits_le_64 (by omega) (by omega))
theorem str_eta (x : Str) : (⟨x.cps.toList.toArray⟩ : Str) = x := by cases x; simp
theorem Rp.text {g : Gl} {bad : Addr → Prop} {h : Heap} {x : Str} {l : List Nat} {t : Tok} (e : x.cps.toList = l) : Rp g bad h (.str x t) (text l) := by
  subst e; unfold Mine.text; rw [str_eta]; exact .str x t
theorem add_str_ok {a b : Str} {t t' : Tok} (hz : (a.cps.toList ++ b.cps.toList).length ≤ szLine) : Φ.wp (binaryOp .Add (.str a t) (.str b t')) (Φ.Gives s (text (a.cps.toList ++ b.cps.toList))) s := fun E => by
  refine P.add_str ?_
  split
  · rename_i h0
    have : a.cps.toList = [] := List.length_eq_zero_iff.mp (Array.length_toList.trans (eq_of_beq h0))
    exact ⟨.refl _, .text (by rw [this]; rfl)⟩
  · split
    · rename_i h0
      have : b.cps.toList = [] := List.length_eq_zero_iff.mp (Array.length_toList.trans (eq_of_beq h0))
      exact ⟨.refl _, .text (by rw [this, List.append_nil])⟩
    · refine ⟨?_, .toks _ _, .text Array.toList_append⟩
      show (_ ++ _ : Array Nat).size ≤ sizeLine
      rw [List.length_append, Array.length_toList, Array.length_toList] at hz
      rw [Array.size_append]; exact sz_le hz
theorem add_list_ok {l m : List V} (I : Inv Φ s) (hz : (l ++ m).length ≤ szLine) (r1 : Φ.rp s.heap v (.list l)) (r2 : Φ.rp s.heap u (.list m)) : Φ.wp (binaryOp .Add v u) (Φ.Gives s (.list (l ++ m))) s := fun E => by
  refine r1.list_elim fun a1 o1 vs1 n1 _ ha1 hc1 hd1 hl1 => r2.list_elim fun a2 o2 vs2 n2 _ ha2 hc2 hd2 hl2 => ?_
  obtain ⟨cls, dd, data, sl⟩ := o1
  obtain ⟨cls2, dd2, data2, sl2⟩ := o2
  obtain ⟨rfl, rfl⟩ := hc1
  obtain ⟨rfl, rfl⟩ := hc2
  cases hd1
  cases hd2
  refine concat_meets ⟨_, ha1, rfl⟩ ⟨_, ha2, rfl⟩ noFill_list_add seq_list_add PySem.F.slot_list_add PySem.F.entry_list_add (PySem.F.args_list_add_2 _ _) (list_addW a1 a2 vs1 vs2 n1 n2 _ _ sl sl2 ?_) ⟨ha1, ha2, ?_⟩
  · have := (hl1.append hl2).length
    rw [List.length_append, Array.length_toList, Array.length_toList] at this
    rw [this]; exact sz_le hz
  · have q := made_list (n := 0) (tk := s.toks) I (hl1.append hl2)
    rw [show (vs1.toList ++ vs2.toList).toArray = vs1 ++ vs2 by simp] at q
    exact q
theorem add_tuple_ok {l m : List V} (I : Inv Φ s) (hz : (l ++ m).length ≤ szLine) (r1 : Φ.rp s.heap v (.tuple l)) (r2 : Φ.rp s.heap u (.tuple m)) : Φ.wp (binaryOp .Add v u) (Φ.Gives s (.tuple (l ++ m))) s := fun E => by
  refine Rp.tuple_elim (C := fun v => Φ.rp s.heap v (.tuple l) → wpAny (model Φ.fx.g.prog Φ.fx.g.w) Φ.fx.A (binaryOp .Add v u) (Φ.Gives s (.tuple (l ++ m))) E s) r1 (fun a1 o1 vs1 n1 _ ha1 hc1 hd1 hl1 r1 => ?_) r1
  refine Rp.tuple_elim (C := fun u => Φ.rp s.heap u (.tuple m) → wpAny (model Φ.fx.g.prog Φ.fx.g.w) Φ.fx.A (binaryOp .Add (.ref a1) u) (Φ.Gives s (.tuple (l ++ m))) E s) r2 (fun a2 o2 vs2 n2 _ ha2 hc2 hd2 hl2 r2 => ?_) r2
  obtain ⟨cls, dd, data, sl⟩ := o1
  obtain ⟨cls2, dd2, data2, sl2⟩ := o2
  cases hc1
  cases hc2
  cases hd1
  cases hd2
  have len := (hl1.append hl2).length
  rw [List.length_append, Array.length_toList, Array.length_toList] at len
  by_cases c0 : vs1.isEmpty = true
  · have : vs1.toList = [] := by simpa using c0
    have hl : l = [] := List.length_eq_zero_iff.mp (by rw [← hl1.length, this]; rfl)
    subst hl
    exact concat_meets ⟨_, ha1, rfl⟩ ⟨_, ha2, rfl⟩ noFill_tuple_add seq_tuple_add PySem.F.slot_tuple_add PySem.F.entry_tuple_add (PySem.F.args_tuple_add_2 _ _) (tuple_addW0 a1 a2 vs1 vs2 n1 n2 dd dd2 sl sl2 c0) ⟨ha1, ha2, .refl _, r2⟩
  · by_cases c1 : vs2.isEmpty = true
    · have : vs2.toList = [] := by simpa using c1
      have hl : m = [] := List.length_eq_zero_iff.mp (by rw [← hl2.length, this]; rfl)
      subst hl
      rw [List.append_nil]
      exact concat_meets ⟨_, ha1, rfl⟩ ⟨_, ha2, rfl⟩ noFill_tuple_add seq_tuple_add PySem.F.slot_tuple_add PySem.F.entry_tuple_add (PySem.F.args_tuple_add_2 _ _) (tuple_addW1 a1 a2 vs1 vs2 n1 n2 dd dd2 sl sl2 c0 c1) ⟨ha1, ha2, .refl _, r1⟩
    · refine concat_meets ⟨_, ha1, rfl⟩ ⟨_, ha2, rfl⟩ noFill_tuple_add seq_tuple_add PySem.F.slot_tuple_add PySem.F.entry_tuple_add (PySem.F.args_tuple_add_2 _ _) (tuple_addW2 a1 a2 vs1 vs2 n1 n2 dd dd2 sl sl2 c0 c1 (by rw [len]; exact sz_le hz)) ⟨ha1, ha2, ?_⟩
      have q := made_tuple (n := 0) (tk := s.toks) I (hl1.append hl2)
      rw [show (vs1.toList ++ vs2.toList).toArray = vs1 ++ vs2 by simp] at q
      exact q
theorem add_ok (e : addO x y = some z) (I : Inv Φ s) (r1 : Φ.rp s.heap v x) (r2 : Φ.rp s.heap u y) : Φ.wp (binaryOp .Add v u) (Φ.Gives s z) s := by
  cases x with
  | int a => exact intO_elim (C := fun y => Φ.rp s.heap u y → Φ.wp (binaryOp .Add v u) (Φ.Gives s z) s) e (fun b e r2 => some_elim e (r1.int_elim fun t => r2.int_elim fun t' E => PyProof.Rows.add_int ⟨.toks _ _, .int _ _⟩)) r2
  | str a => exact strO_elim (f := fun b => fitL (a.cps.toList ++ b) (text (a.cps.toList ++ b))) (C := fun y => Φ.rp s.heap u y → Φ.wp (binaryOp .Add v u) (Φ.Gives s z) s) e (fun b e r2 => fit_elim e fun q => r1.str_elim fun t => r2.str_elim fun t' => add_str_ok q) r2
  | list l => exact listO_elim (C := fun y => Φ.rp s.heap u y → Φ.wp (binaryOp .Add v u) (Φ.Gives s z) s) e (fun m e r2 => fit_elim e fun q => add_list_ok I q r1 r2) r2
  | tuple l => exact tupO_elim (C := fun y => Φ.rp s.heap u y → Φ.wp (binaryOp .Add v u) (Φ.Gives s z) s) e (fun m e r2 => fit_elim e fun q => add_tuple_ok I q r1 r2) r2
  | _ => cases e
theorem int2_ok {α : Type} {f : Int → Int → Option α} {w : α} {C : Value → Value → Prop} (e : int2 x y f = some w) (r1 : Φ.rp s.heap v x) (r2 : Φ.rp s.heap u y) (k : ∀ i j t t', f i j = some w → C (.int i t) (.int j t')) : C v u :=
  intO_elim (C := fun x => Φ.rp s.heap v x → C v u) e (fun i e r1 => intO_elim (C := fun y => Φ.rp s.heap u y → C v u) e (fun j e r2 => r1.int_elim fun t => r2.int_elim fun t' => k i j t t' e) r2) r1
theorem bin_ok {o : Operator} (e : binOp o x y = some z) (I : Inv Φ s) (r1 : Φ.rp s.heap v x) (r2 : Φ.rp s.heap u y) : Φ.wp (binaryOp o v u) (Φ.Gives s z) s := by
  cases o with
  | Add => exact add_ok e I r1 r2
  | Sub => exact int2_ok (C := fun v u => Φ.wp (binaryOp .Sub v u) (Φ.Gives s z) s) e r1 r2 fun i j t t' q => some_elim q fun E => PyProof.Rows.sub_int ⟨.toks _ _, .int _ _⟩
  | Mult => exact int2_ok (C := fun v u => Φ.wp (binaryOp .Mult v u) (Φ.Gives s z) s) e r1 r2 fun i j t t' q => if_elim q fun q E => PyProof.Rows.mul_int ⟨.toks _ _, .int _ _⟩ (intMul_ok q)
  | FloorDiv => exact int2_ok (C := fun v u => Φ.wp (binaryOp .FloorDiv v u) (Φ.Gives s z) s) e r1 r2 fun i j t t' q => ifn_elim q fun q E => floordiv_int (fun z => q (.inl z)) ⟨.toks _ _, .int _ _⟩ (.inl (PyProof.noPylong_small (by omega)))
  | Mod => exact int2_ok (C := fun v u => Φ.wp (binaryOp .Mod v u) (Φ.Gives s z) s) e r1 r2 fun i j t t' q => ifn_elim q fun q E => PyProof.Rows.mod_int q ⟨.toks _ _, .int _ _⟩
  | _ => cases e

/-! comparisons -/
theorem okd {x : V} (h : okEq x = true) : x.canLay0 = true ∧ x.depth ≤ 64 := ((Bool.and_eq_true _ _).mp h).imp id of_decide_eq_true
theorem min_ok (I : Inv Φ s) {m n : Nat} (h : n ≤ 64) : Φ.fx.A.units + 1 + min m n < cLine := by have := I.room; have := Nat.min_le_right m n; omega
noncomputable abbrev Is (s : Shared) (c : Bool) (v : Value) (s' : Shared) : Prop := s' = s ∧ v = .bool c
theorem eq_ok (I : Inv Φ s) (q : (okEq x && okEq y) = true) (r1 : Φ.rp s.heap v x) (r2 : Φ.rp s.heap u y) : Φ.wp (compareOp .Eq v u) (Is s (PyData.eqv x y)) s ∧ Φ.wp (compareOp .NotEq v u) (Is s (!PyData.eqv x y)) s :=
  have q := (Bool.and_eq_true _ _).mp q
  have h1 := okd q.1
  have h2 := okd q.2
  (r1.reads h1.1).elim fun _ p1 => (r2.reads h2.1).elim fun _ p2 => have m := Nat.lt_of_le_of_lt (by omega) (min_ok I (m := x.depth) h2.2); ⟨fun E => SeqAt.compareEq_reads p1 p2 h1.1 h2.1 m ⟨rfl, rfl⟩, fun E => SeqAt.compareNe_reads p1 p2 h1.1 h2.1 m ⟨rfl, rfl⟩⟩
theorem isnot_ok (r : Φ.rp s.heap v x) : Φ.wp (compareOp .IsNot v .none) (Is s (!isNone x)) s := by
  cases r with
  | none => exact fun E => isnot_none_gen ⟨rfl, rfl⟩
  | _ => exact fun E => isnot_none_ne (by intro q; cases q) ⟨rfl, rfl⟩
theorem in_str_ok {a b : Str} {t t' : Tok} {c : Nat} (e : a.cps.toList = [c]) : Φ.wp (compareOp .In (.str a t) (.str b t')) (Is s (b.cps.toList.elem c)) s ∧ Φ.wp (compareOp .NotIn (.str a t) (.str b t')) (Is s (!b.cps.toList.elem c)) s := by
  have f : (!(Builtin.Str.occurrences b a 0 b.length 1).isEmpty) = b.cps.toList.elem c := by
    rw [← str_eta a, e, show (⟨[c].toArray⟩ : Str) = ⟨#[c]⟩ from rfl, StrLaws.found_one]
    rw [Bool.eq_iff_iff]; simp
  exact ⟨fun E => P.in_str ⟨rfl, by rw [f]⟩, fun E => P.notIn_str ⟨rfl, by rw [f]⟩⟩
theorem in_ok {c : Bool} (I : Inv Φ s) (e : inO x y = some c) (r1 : Φ.rp s.heap v x) (r2 : Φ.rp s.heap u y) : Φ.wp (compareOp .In v u) (Is s c) s ∧ Φ.wp (compareOp .NotIn v u) (Is s (!c)) s := by
  cases y with
  | str b =>
    have e : strO x (fun s => match s with | [c] => some (b.cps.toList.elem c) | _ => none) = some c := e
    refine strO_elim (C := fun x => Φ.rp s.heap v x → Φ.wp (compareOp .In v u) (Is s c) s ∧ Φ.wp (compareOp .NotIn v u) (Is s (!c)) s) e (fun a e r1 => ?_) r1
    split at e
    · rename_i d q; exact some_elim e (r1.str_elim fun t => r2.str_elim fun t' => in_str_ok q)
    · cases e
  | list l =>
    refine if_elim e fun q => ?_
    have q := (Bool.and_eq_true _ _).mp q
    have h1 := okd q.1
    have h2 := okd q.2
    obtain ⟨_, p1⟩ := r1.reads h1.1
    obtain ⟨_, p2⟩ := r2.reads h2.1
    exact ⟨fun E => SeqAt.in_list_reads p2 p1 h2.1 h1.1 (min_ok I h1.2) ⟨rfl, rfl⟩, fun E => SeqAt.notIn_list_reads p2 p1 h2.1 h1.1 (min_ok I h1.2) ⟨rfl, rfl⟩⟩
  | _ => cases e
theorem cmp_ok {o : CmpOp} {c : Bool} (e : cmpOp o x y = some c) (I : Inv Φ s) (r1 : Φ.rp s.heap v x) (r2 : Φ.rp s.heap u y) : Φ.wp (compareOp o v u) (Is s c) s := by
  cases o with
  | Eq => exact if_elim e fun q => (eq_ok I q r1 r2).1
  | NotEq => exact map_elim e fun d e => if_elim (C := fun d => Φ.wp (compareOp .NotEq v u) (Is s (!d)) s) e fun q => (eq_ok I q r1 r2).2
  | Lt => exact int2_ok (C := fun v u => Φ.wp (compareOp .Lt v u) (Is s c) s) e r1 r2 fun i j t t' q => some_elim q fun E => P.lt_int ⟨rfl, rfl⟩
  | LtE => exact int2_ok (C := fun v u => Φ.wp (compareOp .LtE v u) (Is s c) s) e r1 r2 fun i j t t' q => some_elim q fun E => P.le_int ⟨rfl, rfl⟩
  | Gt => exact int2_ok (C := fun v u => Φ.wp (compareOp .Gt v u) (Is s c) s) e r1 r2 fun i j t t' q => some_elim q fun E => P.gt_int ⟨rfl, rfl⟩
  | IsNot =>
    refine if_elim e fun q => ?_
    cases y with
    | none => exact r2.none_elim (isnot_ok r1)
    | _ => cases q
  | In => exact (in_ok I e r1 r2).1
  | NotIn => exact map_elim e fun d e => (in_ok I e r1 r2).2
  | _ => cases e
end
end Mine
end

noncomputable section
set_option maxRecDepth 100000
set_option linter.unusedVariables false
namespace Mine
open PySem PySem.Calls PyProof.Rows PySem.W

noncomputable def HasItem (s : Shared) (a : Value) : Prop := ∃ T id, s.TypeIs a T ∧ typeLookup (.type T) "__getitem__" = pure (some (.builtin id))
section
variable {Φ : Ct} {s : Shared} {v u : Value} {x y z : V} {α : Type}
theorem item_elim {l : List α} {f : α → V} {C : Value → Prop} (e : itemO l f y = some z) (r : Φ.rp s.heap u y) (k : ∀ i t j w, -(2 ^ 63) ≤ i → i < 2 ^ 63 → (0 ≤ i ∧ j = i.toNat ∨ i < 0 ∧ -(l.length : Int) ≤ i ∧ j = (i + l.length).toNat) → j < l.length → l[j]? = some w → f w = z → C (.int i t)) : C u := by
  refine intO_elim (C := fun y => Φ.rp s.heap u y → C u) e (fun i e r => ?_) r
  refine ifo_elim e fun hz e => ?_
  have hz : l.length ≤ 1048576 := hz
  obtain ⟨w, ew, rfl⟩ := Option.map_eq_some_iff.mp e
  clear e
  refine r.int_elim fun t => ?_
  by_cases h0 : 0 ≤ i
  · rw [if_pos h0] at ew
    have hj := (List.getElem?_eq_some_iff.mp ew).1
    exact k i t i.toNat w (by omega) (by omega) (.inl ⟨h0, rfl⟩) hj ew rfl
  · rw [if_neg h0] at ew
    refine ifo_elim ew fun h1 e => ?_
    have hj := (List.getElem?_eq_some_iff.mp e).1
    exact k i t _ w (by omega) (by omega) (.inr ⟨by omega, by omega, rfl⟩) hj e rfl
theorem index_of {i : Int} {n j : Nat} (h : 0 ≤ i ∧ j = i.toNat ∨ i < 0 ∧ -(n : Int) ≤ i ∧ j = (i + n).toNat) (hj : j < n) : seqIndex? i n = some j := by
  rcases h with ⟨h0, rfl⟩ | ⟨h0, h1, rfl⟩
  · unfold seqIndex?
    rw [if_neg (Int.not_lt.mpr h0)]
    exact if_pos (by rw [decide_eq_true h0, decide_eq_true (show i < (n : Int) by omega)]; rfl)
  · exact seqIndex_neg h0 h1
theorem get_arr {vs : Array Value} {n : Nat} {v : Value} (h : vs.toList[n]? = some v) : vs[n]? = some v := by rw [Array.getElem?_toList] at h; exact h
theorem sub_ok (e : subOp x y = some z) (r1 : Φ.rp s.heap v x) (r2 : Φ.rp s.heap u y) : HasItem s v ∧ Φ.wp (getItem v u) (Φ.Gives s z) s := by
  cases x with
  | list l =>
    refine r1.list_elim fun a o vs n _ ha hc hd hl => ?_
    have hL : s.heap.IsList a vs := ⟨_, ha, hc.1, _, hd⟩
    have len : vs.size = l.length := Array.length_toList ▸ hl.length
    refine ⟨⟨_, _, hL.typeIs, slot_list_getitem.lookup⟩, item_elim (C := fun u => Φ.wp (getItem (.ref a) u) (Φ.Gives s z) s) e r2 fun i t j w h1 h2 h3 hj ew ez => ?_⟩
    obtain ⟨q, eq, rq⟩ := hl.get ew
    subst ez
    rcases h3 with ⟨h0, rfl⟩ | ⟨h0, h4, rfl⟩
    · exact fun E => wpAny_getItem_list hL h0 h2 (get_arr eq) ⟨.refl _, rq⟩
    · exact fun E => wpAny_getItem_list_neg hL h0 (by rw [len]; exact h4) h1 (by rw [len]; exact get_arr eq) ⟨.refl _, rq⟩
  | tuple l =>
    refine r1.tuple_elim fun a o vs n _ ha hc hd hl => ?_
    have hL : IsTup s.heap a vs := ⟨_, ha, hc, _, hd⟩
    have len : vs.size = l.length := Array.length_toList ▸ hl.length
    refine ⟨⟨_, _, hL.typeIs, slot_tuple_getitem.lookup⟩, item_elim (C := fun u => Φ.wp (getItem (.ref a) u) (Φ.Gives s z) s) e r2 fun i t j w h1 h2 h3 hj ew ez => ?_⟩
    obtain ⟨q, eq, rq⟩ := hl.get ew
    subst ez
    exact fun E => getItem_tuple hL h1 h2 (by rw [len]; exact index_of h3 hj) (get_arr eq) ⟨.refl _, rq⟩
  | str a =>
    refine r1.str_elim fun t0 => ⟨⟨_, _, typeIs_str _ _ _, PySem.F.slot_str_getitem.lookup⟩, item_elim (C := fun u => Φ.wp (getItem (.str a t0) u) (Φ.Gives s z) s) e r2 fun i t j w h1 h2 h3 hj ew ez => ?_⟩
    subst ez
    refine fun E => P.getItem_str (c := w) ?_ ?_ ⟨.toks _ _, .text rfl⟩
    · rw [decide_eq_false (Int.not_lt.mpr h1), decide_eq_false (Int.not_le.mpr h2)]; rfl
    · have hn : a.cps.toList.length = a.length := Array.length_toList
      rw [show seqIndex? i a.length = some j from hn ▸ index_of h3 hj]
      rw [Array.getElem?_toList] at ew; exact ew
  | _ => cases e

/-! parts -/
noncomputable def endI (d n : Nat) : Option Int → Nat
  | none => d
  | some i => if 0 ≤ i then min i.toNat n else (i + n).toNat
noncomputable def RpO (Φ : Ct) (h : Heap) (v : Value) (y : Option V) : Prop := match y with
  | none => v = .none
  | some x => Φ.rp h v x
theorem end_elim {d n i : Nat} {y : Option V} {C : Value → Prop} (e : endO d n y = some i) (r : RpO Φ s.heap v y) (k : ∀ p : Option (Int × Tok), endI d n (p.map (·.1)) = i → C (partValue p)) : C v := by
  cases y with
  | none => cases r; cases e; exact k none rfl
  | some x => exact intO_elim (C := fun x => Φ.rp s.heap v x → C v) e (fun i e r => r.int_elim fun t => k (some (i, t)) (Option.some.inj e)) r
theorem part_of (p : Option (Int × Tok)) : IsPart (partValue p) (p.map (·.1)) := by
  cases p with
  | none => exact .none
  | some q => exact .int _ _
theorem add_le_n {n : Nat} {i : Int} (h : i < 0) : i + (n : Int) ≤ n := Int.le_trans (Int.add_le_add_right (Int.le_of_lt h) n) (Int.le_of_eq (Int.zero_add _))
theorem endI_le {d n : Nat} (h : d ≤ n) (p : Option Int) : endI d n p ≤ n := by
  cases p with
  | none => exact h
  | some i =>
    show (if 0 ≤ i then min i.toNat n else (i + n).toNat) ≤ n
    by_cases c : 0 ≤ i
    · rw [if_pos c]; exact Nat.min_le_right _ _
    · rw [if_neg c]; exact Int.toNat_le.mpr (add_le_n (Int.not_le.mp c))
theorem end_nat {n : Nat} (i : Int) : (if i < 0 then max (i + (n : Int)) 0 else min i n) = ((endI 0 n (some i) : Nat) : Int) := by
  show _ = (((if 0 ≤ i then min i.toNat n else (i + n).toNat) : Nat) : Int)
  by_cases h : 0 ≤ i
  · rw [if_pos h, if_neg (Int.not_lt.mpr h), Lean.Omega.Int.ofNat_min, Int.toNat_of_nonneg h]
  · rw [if_neg h, if_pos (Int.not_le.mp h), Int.ofNat_toNat]
theorem clamp {n : Nat} (i : Int) : max 0 (min (if i < 0 then i + (n : Int) else i) (n : Int)) = ((endI 0 n (some i) : Nat) : Int) := by
  rw [← end_nat]
  by_cases h : i < 0
  · rw [if_pos h, if_pos h, Int.min_eq_left (add_le_n h), Int.max_comm]
  · rw [if_neg h, if_neg h, Int.max_eq_right (Int.le_min.mpr ⟨Int.not_lt.mp h, Int.natCast_nonneg n⟩)]
theorem clamp' {d n : Nat} (h : d ≤ n) : ((d : Nat) : Int) = max 0 (min (if (d : Int) < 0 then (d : Int) + (n : Int) else (d : Int)) (n : Int)) := by
  rw [if_neg (Int.not_lt.mpr (Int.natCast_nonneg d)), Int.min_eq_left (Int.ofNat_le.mpr h), Int.max_eq_right (Int.natCast_nonneg d)]
theorem range2 {a b c d : Int} (h : a = c) (k : b = d) : sliceRange a b 1 = sliceRange c d 1 := by rw [h, k]
theorem range_one {lo hi : Option Int} {n i j : Nat} (h1 : endI 0 n lo = i) (h2 : endI n n hi = j) (hle : i ≤ j) : Builtin.Str.strSliceIndices lo hi 1 n = (List.range (j - i)).map (i + ·) := by
  have hj : j ≤ n := h2 ▸ endI_le (Nat.le_refl n) hi
  refine Eq.trans ?_ (StrLaws.strSliceIndices_plain (len := n) hle hj)
  cases lo with
  | none => cases hi with
    | none => have h1 : 0 = i := h1; subst h1; have h2 : n = j := h2; subst h2; exact range2 (clamp' (d := 0) (n := n) (Nat.zero_le n)) (clamp' (Nat.le_refl n))
    | some b => have h1 : 0 = i := h1; subst h1; exact range2 (clamp' (d := 0) (n := n) (Nat.zero_le n)) ((clamp b).trans ((congrArg _ h2).trans (clamp' hj)))
  | some a =>
    have ea := (clamp (n := n) a).trans ((congrArg _ h1).trans (clamp' (Nat.le_trans hle hj)))
    cases hi with
    | none => have h2 : n = j := h2; subst h2; exact range2 ea (clamp' (Nat.le_refl n))
    | some b => exact range2 ea ((clamp b).trans ((congrArg _ h2).trans (clamp' hj)))
theorem picks_eq {xs : Array α} {i j : Nat} (hle : i ≤ j) (hj : j ≤ xs.size) : ((List.range (j - i)).map (i + ·)).filterMap (xs[·]?) = (xs.toList.drop i).take (j - i) := by
  rw [← StrLaws.picks xs.toList (j - i) i (by rw [Array.length_toList]; omega)]
  exact congrArg (List.filterMap · _) (funext fun k => (Array.getElem?_toList).symm)
theorem cut_elim {l : List α} {f : List α → V} {lo hi : Option V} {C : V → Prop} (e : cutO f l lo hi = some z) (k : ∀ i j, l.length ≤ szLine → endO 0 l.length lo = some i → endO l.length l.length hi = some j → i ≤ j → C (f ((l.drop i).take (j - i)))) : C z :=
  ifo_elim e fun hz e => (Option.bind_eq_some_iff.mp e).elim fun i ⟨h1, e⟩ => (Option.bind_eq_some_iff.mp e).elim fun j ⟨h2, e⟩ => if_elim e fun hle => k i j hz h1 h2 hle
theorem slice_list_ok {l : List V} {lo hi : Option V} {vl vu : Value} {sl : Addr} (I : Inv Φ s) (e : cutO PyData.list l lo hi = some z) (r : Φ.rp s.heap v (.list l)) (rl : RpO Φ s.heap vl lo) (ru : RpO Φ s.heap vu hi) (hs : s.heap.IsSliceOf sl vl vu .none) :
    HasItem s v ∧ Φ.wp (getItem v (.ref sl)) (Φ.Gives s z) s := by
  refine r.list_elim fun a o vs n _ ha hc hd hl => ?_
  have hL : s.heap.IsList a vs := ⟨_, ha, hc.1, _, hd⟩
  have len : vs.size = l.length := Array.length_toList ▸ hl.length
  refine ⟨⟨_, _, hL.typeIs, slot_list_getitem.lookup⟩, cut_elim (C := fun z => Φ.wp (getItem (.ref a) (.ref sl)) (Φ.Gives s z) s) e fun i j hz h1 h2 hle => ?_⟩
  refine end_elim (C := fun vl => s.heap.IsSliceOf sl vl vu .none → _) h1 rl (fun p hp hs => ?_) hs
  refine end_elim (C := fun vu => s.heap.IsSliceOf sl (partValue p) vu .none → _) h2 ru (fun q hq hs => ?_) hs
  refine fun E => wpAny_getItem_list_slice hL hs (part_of p) (part_of q) .none (fun q => nomatch q) ?_ (by rw [len]; exact sz_le hz)
  have : slicePick vs (p.map (·.1)) (q.map (·.1)) none = ((vs.toList.drop i).take (j - i)).toArray := by
    refine congrArg List.toArray ?_
    show (Builtin.Str.strSliceIndices _ _ 1 vs.size).filterMap (vs[·]?) = _
    rw [len, range_one hp hq hle, picks_eq hle (by rw [len, ← hq]; exact endI_le (Nat.le_refl _) _)]
  rw [this]
  exact made_list (tk := s.toks) I ((hl.drop _).take _)
theorem adjust_eq {n i j : Nat} {lo hi : Option Int} (h1 : endI 0 n lo = i) (h2 : endI n n hi = j) : Builtin.Slice.sliceAdjust lo hi 1 (n : Int) = ((i : Int), (j : Int)) := by
  have c := fun a : Int => end_nat (n := n) a
  unfold Builtin.Slice.sliceAdjust
  cases lo <;> cases hi
  · cases h1; cases h2; rfl
  · cases h1; exact Prod.ext rfl ((c _).trans (congrArg _ h2))
  · cases h2; exact Prod.ext ((c _).trans (congrArg _ h1)) rfl
  · exact Prod.ext ((c _).trans (congrArg _ h1)) ((c _).trans (congrArg _ h2))
theorem places_eq {i j : Nat} (h : i ≤ j) : Builtin.Slice.slicePlaces (i : Int) (j : Int) 1 = j - i := by
  unfold Builtin.Slice.slicePlaces
  rw [if_pos (by decide), Int.ediv_one, Int.sub_add_cancel, ← Int.ofNat_sub h]
  by_cases c : (i : Int) < j
  · rw [if_pos c]; rfl
  · rw [if_neg c, Nat.sub_eq_zero_of_le (Int.ofNat_le.mp (Int.not_lt.mp c))]; rfl
theorem applied_ok {A : Around} {prog : Program} {w : World} {E : Value → Shared → Prop} {sl : Addr} {n i j : Nat} {p q : Option (Int × Tok)} {Q : Int × Int × Nat → Shared → Prop} (hs : s.heap.IsSliceOf sl (partValue p) (partValue q) .none) (h1 : endI 0 n (p.map (·.1)) = i) (h2 : endI n n (q.map (·.1)) = j) (hle : i ≤ j)
    (h : Q ((i : Int), 1, j - i) s) : wpAny (model prog w) A (Builtin.Slice.sliceApplied (.ref sl) (pure (n : Int))) Q E s := by
  obtain ⟨os, hos, hcs, hds⟩ := id hs
  have part : ∀ (p : Option (Int × Tok)) {Q : Option Int → Shared → Prop}, Q (p.map (·.1)) s → wpAny (model prog w) A (Builtin.Slice.slicePartIndex (partValue p)) Q E s := fun p Q h => by
    cases p with
    | none => exact slicePart_none h
    | some q => exact slicePart_int h
  unfold Builtin.Slice.sliceApplied Builtin.Slice.sliceFields
  refine wpAny_bind (wpAny_bind (wpAny_field hos hds (x := partValue p) rfl (wpAny_bind (wpAny_field hos hds (x := partValue q) rfl (wpAny_bind (wpAny_field hos hds (x := .none) rfl (wpAny_pure ?_)))))))
  refine wpAny_bind (slicePart_none ?_)
  show wpAny _ _ (if ((1 : Int) == 0) = true then _ else _) _ _ s
  rw [if_neg (by decide)]
  refine wpAny_bind (part p (wpAny_bind (part q (wpAny_bind (wpAny_pure ?_)))))
  show wpAny _ _ (match Builtin.Slice.sliceAdjust (p.map (·.1)) (q.map (·.1)) 1 (n : Int) with | (lo, hi) => pure (lo, (1 : Int), Builtin.Slice.slicePlaces lo hi 1)) _ _ s
  rw [adjust_eq h1 h2]
  show wpAny _ _ (pure ((i : Int), (1 : Int), Builtin.Slice.slicePlaces (i : Int) (j : Int) 1)) _ _ s
  rw [places_eq hle]
  exact wpAny_pure h
theorem slice_tuple_ok {l : List V} {lo hi : Option V} {vl vu : Value} {sl : Addr} (I : Inv Φ s) (e : cutO PyData.tuple l lo hi = some z) (r : Φ.rp s.heap v (.tuple l)) (rl : RpO Φ s.heap vl lo) (ru : RpO Φ s.heap vu hi) (hs : s.heap.IsSliceOf sl vl vu .none) :
    HasItem s v ∧ Φ.wp (getItem v (.ref sl)) (Φ.Gives s z) s := by
  refine r.tuple_elim fun a o vs n hb ha hc hd hl => ?_
  have r : Φ.rp s.heap (.ref a) (.tuple l) := .tuple hb ha hc hd hl
  have ht : IsTup s.heap a vs := ⟨_, ha, hc, _, hd⟩
  have len : vs.size = l.length := Array.length_toList ▸ hl.length
  refine ⟨⟨_, _, ht.typeIs, slot_tuple_getitem.lookup⟩, cut_elim (C := fun z => Φ.wp (getItem (.ref a) (.ref sl)) (Φ.Gives s z) s) e fun i j hz h1 h2 hle => ?_⟩
  refine end_elim (C := fun vl => s.heap.IsSliceOf sl vl vu .none → _) h1 rl (fun p hp hs => ?_) hs
  refine end_elim (C := fun vu => s.heap.IsSliceOf sl (partValue p) vu .none → _) h2 ru (fun q hq hs => ?_) hs
  intro E
  have hj : j ≤ vs.size := by rw [len, ← hq]; exact endI_le (Nat.le_refl _) _
  obtain ⟨os, hos, hcs, hds⟩ := id hs
  have hTs : s.TypeIs (.ref sl) "slice" := ⟨os, hos, hcs⟩
  unfold getItem
  refine wpAny_holding ?_
  refine wpAny_bind (wpAny_sequenceKey ht.typeIs (by decide) ?_)
  refine wpAny_bind (wpAny_callSpecial?_slot (name := Str.ofString "__getitem__") ht.typeIs slot_tuple_getitem (wpAny_call_entry slot_tuple_getitem ht.typeIs entry_tuple_getitem ?_ (args_tuple_getitem _ _)))
  show wpAny _ _ (Builtin.Tuple.tupleItemsOf (.ref a) >>= _) _ _ s
  refine wpAny_bind (tupleItemsOf_ ht ?_)
  refine wpAny_bind (wpAny_typeOf hTs ?_)
  rw [if_pos (by decide)]
  rw [← len] at hp hq
  refine wpAny_bind (applied_ok hs hp hq hle ?_)
  show wpAny _ _ (if ((i : Int) == 0 && (1 : Int) == 1 && (j - i) == vs.size) = true then _ else _) _ _ s
  by_cases c : ((i : Int) == 0 && (1 : Int) == 1 && (j - i) == vs.size) = true
  · rw [if_pos c]
    have c := (Bool.and_eq_true _ _).mp c
    have c1 : (i : Int) = 0 := eq_of_beq ((Bool.and_eq_true _ _).mp c.1).1
    have c2 : j - i = vs.size := eq_of_beq c.2
    have i0 : i = 0 := by omega
    subst i0
    rw [c2, len, List.drop_zero, List.take_length]
    refine wpAny_bind (wpAny_bind (wpAny_typeOf ht.typeIs (wpAny_pure ?_)))
    exact wpAny_bind (wpAny_rule (wpAny_pure ⟨_, rfl, wpAny_pure ⟨.refl _, r⟩⟩))
  · rw [if_neg c]
    have ep : (List.range (j - i)).filterMap (fun (k : Nat) => vs[((i : Int) + (k : Int) * 1).toNat]?) = (vs.toList.drop i).take (j - i) := by
      rw [← picks_eq hle hj, List.filterMap_map]
      exact congrArg (List.filterMap · _) (funext fun k => by show vs[((i : Int) + (k : Int) * 1).toNat]? = vs[i + k]?; congr 1; omega)
    show wpAny _ _ (Builtin.Tuple.tupleExact ((List.range (j - i)).filterMap (fun (k : Nat) => vs[((i : Int) + (k : Int) * 1).toNat]?)).toArray >>= _) _ _ _
    rw [ep]
    refine wpAny_bind (m := Builtin.Tuple.tupleExact _) (wpAny_newObj_type (wpAny_pure ⟨_, rfl, wpAny_pure (made_tuple (tk := s.toks) I ((hl.drop _).take _))⟩) ?_)
    show (List.toArray _).size ≤ sizeLine
    rw [List.size_toArray]
    exact Nat.le_trans (List.length_take_le' ..) (Nat.le_trans (by rw [List.length_drop]; exact Nat.sub_le ..) (sz_le (hl.length ▸ hz)))
theorem slice_str_ok {t : Str} {lo hi : Option V} {vl vu : Value} {sl : Addr} (e : cutO text t.cps.toList lo hi = some z) (r : Φ.rp s.heap v (.str t)) (rl : RpO Φ s.heap vl lo) (ru : RpO Φ s.heap vu hi) (hs : s.heap.IsSliceOf sl vl vu .none) :
    HasItem s v ∧ Φ.wp (getItem v (.ref sl)) (Φ.Gives s z) s := by
  refine r.str_elim fun tk => ?_
  refine ⟨⟨_, _, typeIs_str _ _ _, PySem.F.slot_str_getitem.lookup⟩, cut_elim (C := fun z => Φ.wp (getItem (.str t tk) (.ref sl)) (Φ.Gives s z) s) e fun i j hz h1 h2 hle => ?_⟩
  refine end_elim (C := fun vl => s.heap.IsSliceOf sl vl vu .none → _) h1 rl (fun p hp hs => ?_) hs
  refine end_elim (C := fun vu => s.heap.IsSliceOf sl (partValue p) vu .none → _) h2 ru (fun q hq hs => ?_) hs
  rw [Array.length_toList] at hp hq
  have hj : j ≤ t.cps.size := hq ▸ endI_le (Nat.le_refl _) _
  refine fun E => wpAny_getItem_str_slice (l := p) (u := q) (st := none) hs rfl ?_
  unfold sliceMade
  have e3 : slicePicked t p q none = (List.range (j - i)).map (i + ·) := range_one hp hq hle
  rw [e3]
  split
  · rename_i hf
    have hf := eq_of_beq ((Bool.and_eq_true _ _).mp hf).2
    rw [List.length_map, List.length_range] at hf
    have hf : j - i = t.cps.size := hf
    refine ⟨.refl _, .text ?_⟩
    rw [hf, show i = 0 by omega, List.drop_zero, ← Array.length_toList, List.take_length]
  · rw [picks_eq hle hj]
    refine ⟨?_, .toks _ _, .text rfl⟩
    show (List.toArray _).size ≤ sizeLine
    rw [List.size_toArray]
    exact Nat.le_trans (List.length_take_le' ..) (Nat.le_trans (by rw [List.length_drop]; exact Nat.sub_le ..) (sz_le hz))
theorem slice_ok {lo hi : Option V} {vl vu : Value} {sl : Addr} (I : Inv Φ s) (e : sliceOp x lo hi = some z) (r : Φ.rp s.heap v x) (rl : RpO Φ s.heap vl lo) (ru : RpO Φ s.heap vu hi) (hs : s.heap.IsSliceOf sl vl vu .none) :
    HasItem s v ∧ Φ.wp (getItem v (.ref sl)) (Φ.Gives s z) s := by
  cases x with
  | list l => exact slice_list_ok I e r rl ru hs
  | tuple l => exact slice_tuple_ok I e r rl ru hs
  | str t => exact slice_str_ok e r rl ru hs
  | _ => cases e
end
end Mine
end

noncomputable section
set_option maxRecDepth 100000
set_option linter.unusedVariables false
namespace Mine
open PySem PySem.Calls PyProof.Rows PySem.W

noncomputable def notSet : Expr → Bool
  | .Set .. => false
  | _ => true
noncomputable abbrev DV := (V → Prop) → Prop
section
variable {Φ : Ct} {s : Shared} {d d1 d2 d3 : DV}
theorem ev_two {l : Sem Value} {r : Value → Sem Value} {t : Value → Value → Sem Value} {op : V → V → Option V} (h1 : Ev Φ l d1) (h2 : ∀ v, Ev Φ (r v) d2)
    (st : ∀ s v u x y z, Inv Φ s → Φ.rp s.heap v x → Φ.rp s.heap u y → op x y = some z → Φ.wp (t v u) (Φ.Gives s z) s) : Ev Φ (do let v ← l; let u ← r v; t v u) (fun K => d1 fun x => d2 fun y => okK (op x y) K) := fun K s hd I =>
  h1.bind hd I fun v x s₁ I₁ k₁ hx r1 => (h2 v).bind hx I₁ fun u y s₂ I₂ k₂ hy r2 => okK_elim hy fun z e kz => step I₂ kz (st s₂ v u x y z I₂ (r1.keep k₂) r2 e)
theorem ev_bin {o : Operator} {l r : Expr} {pos : Pos} (h1 : Ev Φ (eval l Φ.fx.env) d1) (h2 : Ev Φ (eval r Φ.fx.env) d2) : Ev Φ (eval (.BinOp l o r pos) Φ.fx.env) (fun K => d1 fun x => d2 fun y => okK (binOp o x y) K) := by
  rw [eval_BinOp]
  exact ev_two (op := binOp o) h1 (fun v => h2.holding) fun s v u x y z I r1 r2 e => wp_stand (wp_operate (bin_ok e I r1 r2))
theorem not_marked {o : CmpOp} {e : Expr} {t : Sem Value} (h : notSet e = true) : markedBehindIn o e t = t := markedBehindIn_of_false (by cases e <;> first | rfl | cases h)
theorem ev_cmp {o : CmpOp} {l r : Expr} {pos : Pos} (hs : notSet r = true) (h1 : Ev Φ (eval l Φ.fx.env) d1) (h2 : Ev Φ (eval r Φ.fx.env) d2) : Ev Φ (eval (.Compare l [o] [r] pos) Φ.fx.env) (fun K => d1 fun x => d2 fun y => okK (cmpOp o x y) fun b => K (.bool b)) := fun K s hd I => by
  rw [eval_Compare1, not_marked hs]
  exact h1.bind hd I fun v x s₁ I₁ k₁ hx r1 => h2.holding.bind hx I₁ fun u y s₂ I₂ k₂ hy r2 => okK_elim hy fun c e kc => wp_stand (wp_operate fun E => wpAny_mono (cmp_ok e I₂ (r1.keep k₂) r2 E) (fun w s' q => by obtain ⟨rfl, rfl⟩ := q; exact ⟨I₂.base, .refl _, _, kc, .bool c⟩) fun _ _ z => z)
theorem truth_ok {v : Value} {y : V} {b : Bool} {Q : Bool → Shared → Prop} (e : boolO y some = some b) (r : Φ.rp s.heap v y) (h : Q b s) : Φ.wp (truthy v) Q s :=
  boolO_elim (C := fun y => Φ.rp s.heap v y → Φ.wp (truthy v) Q s) e (fun c e r => r.bool_elim fun E => wpAny_truthy_bool (Option.some.inj e ▸ h)) r
noncomputable abbrev tst (d : DV) : (Bool → Prop) → Prop := fun K => d fun y => okK (boolO y some) K
theorem ev_test {x : Expr} (h : Ev Φ (eval x Φ.fx.env) d) (hx : isTrue x Φ.fx.env (eval x Φ.fx.env) = (do let v ← eval x Φ.fx.env; standAt x.pos; holding [v] (truthy v))) : EvT Φ (isTrue x Φ.fx.env (eval x Φ.fx.env)) (tst d) := fun K s hd I => by
  rw [hx]
  exact h.bind hd I fun v y s₁ I₁ k₁ hy r => okK_elim hy fun b e kb => wp_stand fun E => wpAny_holding (truth_ok (Q := Post Φ (fun _ => Eq) s₁ K) e r ⟨I₁.base, .refl _, b, kb, rfl⟩ E)
theorem test_cmp {o : CmpOp} {l r : Expr} {pos : Pos} {w : Sem Value} (hs : notSet r = true) (h1 : Ev Φ (eval l Φ.fx.env) d1) (h2 : Ev Φ (eval r Φ.fx.env) d2) : EvT Φ (isTrue (.Compare l [o] [r] pos) Φ.fx.env w) (fun K => d1 fun x => d2 fun y => okK (cmpOp o x y) K) := fun K s hd I => by
  have e : isTrue (.Compare l [o] [r] pos) Φ.fx.env w = (eval (.Compare l [o] [r] pos) Φ.fx.env >>= fun c => holding [c] (truthy c)) := by
    rw [isTrue_Compare1, eval_Compare1]; simp only [bind_assoc]
  rw [e]
  exact (ev_cmp hs h1 h2).bind (K₁ := fun y => okK (boolO y some) K) hd I fun v y s₁ I₁ k₁ hy r => okK_elim hy fun b e kb => fun E => wpAny_holding (truth_ok (Q := Post Φ (fun _ => Eq) s₁ K) e r ⟨I₁.base, .refl _, b, kb, rfl⟩ E)
theorem ev_not {x : Expr} {pos : Pos} (h : Ev Φ (eval x Φ.fx.env) d) : Ev Φ (eval (.UnaryOp .Not x pos) Φ.fx.env) (fun K => d fun y => okK (boolO y some) fun b => K (.bool (!b))) := fun K s hd I => by
  rw [arm_eval_UnaryOp]
  refine h.bind hd I fun v y s₁ I₁ k₁ hy r => wp_stand fun E => wpAny_holding ?_
  show wpAny _ _ (holding [v] (truthy v >>= fun t => pure (Value.bool (!t)))) _ _ _
  exact okK_elim hy fun b e kb => wpAny_holding (wpAny_bind (truth_ok e r (wpAny_pure ⟨I₁.base, .refl _, _, kb, .bool _⟩) E))
theorem test_not {x : Expr} {pos : Pos} {w : Sem Value} (h : EvT Φ (isTrue x Φ.fx.env (eval x Φ.fx.env)) (tst d)) : EvT Φ (isTrue (.UnaryOp .Not x pos) Φ.fx.env w) (fun K => d fun y => okK (boolO y some) fun b => K (!b)) := fun K s hd I => by
  rw [arm_isTrue_UnaryOp]
  exact h.bind (K₁ := fun b => K (!b)) hd I fun t b s₁ I₁ k₁ hb e => EvR.pure I₁ hb (e ▸ rfl)
theorem ev_neg {x : Expr} {pos : Pos} (h : Ev Φ (eval x Φ.fx.env) d) : Ev Φ (eval (.UnaryOp .USub x pos) Φ.fx.env) (fun K => d fun y => okK (intO y fun i => some (.int (-i))) K) := fun K s hd I => by
  rw [arm_eval_UnaryOp]
  refine h.bind hd I fun v y s₁ I₁ k₁ hy r => wp_stand ?_
  refine okK_elim hy fun z e kz => step I₁ kz fun E => wpAny_holding ?_
  exact intO_elim (C := fun y => Φ.rp s₁.heap v y → wpAny _ _ _ _ _ s₁) e (fun i e r => r.int_elim fun t => neg_int ⟨.toks _ _, Option.some.inj e ▸ .int _ _⟩) r
theorem ev_ite {c a b : Expr} {pos : Pos} (hc : EvT Φ (isTrue c Φ.fx.env (eval c Φ.fx.env)) (tst d1)) (ha : Ev Φ (eval a Φ.fx.env) d2) (hb : Ev Φ (eval b Φ.fx.env) d3) :
    Ev Φ (eval (.IfExp c a b pos) Φ.fx.env) (fun K => d1 fun x => okK (boolO x some) fun t => if t = true then d2 K else d3 K) := fun K s hd I => by
  rw [arm_eval_IfExp]
  refine hc.bind (K₁ := fun t => if t = true then d2 K else d3 K) hd I fun t t' s₁ I₁ k₁ hk e => ?_
  subst e
  cases t with
  | true => exact ha K s₁ hk I₁
  | false => exact hb K s₁ hk I₁
theorem test_ite {c a b : Expr} {pos : Pos} {w : Sem Value} (hc : EvT Φ (isTrue c Φ.fx.env (eval c Φ.fx.env)) (tst d1)) (ha : EvT Φ (isTrue a Φ.fx.env (eval a Φ.fx.env)) (tst d2)) (hb : EvT Φ (isTrue b Φ.fx.env (eval b Φ.fx.env)) (tst d3)) :
    EvT Φ (isTrue (.IfExp c a b pos) Φ.fx.env w) (tst fun K => d1 fun x => okK (boolO x some) fun t => if t = true then d2 K else d3 K) := fun K s hd I => by
  rw [arm_isTrue_IfExp]
  refine hc.bind (K₁ := fun t => if t = true then tst d2 K else tst d3 K) hd I fun t t' s₁ I₁ k₁ hk e => ?_
  subst e
  cases t with
  | true => exact ha K s₁ hk I₁
  | false => exact hb K s₁ hk I₁
/-! and, or: b goes on -/
noncomputable abbrev bop : Bool → BoolOp
  | true => .And
  | false => .Or
noncomputable abbrev alls (b : Bool) (ds : List DV) : (Bool → Prop) → Prop := boolsD b (ds.map fun d _ => d) []
theorem test_nil {b : Bool} : EvT Φ (allTrue (bop b) [] Φ.fx.env) (alls b []) := fun K s hd I => by
  rw [arm_allTrue_nil]
  cases b <;> exact EvR.pure I hd rfl
theorem test_cons {b : Bool} {x : Expr} {r : List Expr} {ds : List DV} (h : EvT Φ (isTrue x Φ.fx.env (eval x Φ.fx.env)) (tst d)) (hr : EvT Φ (allTrue (bop b) r Φ.fx.env) (alls b ds)) : EvT Φ (allTrue (bop b) (x :: r) Φ.fx.env) (alls b (d :: ds)) := fun K s hd I => by
  rw [arm_allTrue_cons]
  refine h.bind (K₁ := fun c => if c = b then alls b ds K else K c) hd I fun t c s₁ I₁ k₁ hk e => ?_
  subst e
  cases b <;> cases t
  · exact hr K s₁ hk I₁
  · exact EvR.pure I₁ hk rfl
  · exact EvR.pure I₁ hk rfl
  · exact hr K s₁ hk I₁
noncomputable abbrev Good1 (Φ : Ct) (q : Expr × DV) : Prop := Ev Φ (eval q.1 Φ.fx.env) q.2
theorem bool_last {b : Bool} {v : Value} {y : V} {K : V → Prop} {h : Heap} (hy : okK (boolO y some) fun c => if c = b then K (.bool b) else K (.bool c)) (r : Φ.rp h v y) : K y :=
  okK_elim hy fun c e kc => boolO_elim (C := fun y => K y) e fun c' e => by
    cases e
    by_cases q : c = b
    · rw [if_pos q] at kc; rw [q]; exact kc
    · rw [if_neg q] at kc; exact kc
theorem ev_bools {b : Bool} {pos : Pos} : ∀ {qs : List (Expr × DV)}, (∀ q ∈ qs, Good1 Φ q) → qs ≠ [] → Ev Φ (boolOp pos (bop b) (qs.map fun q => eval q.1 Φ.fx.env)) (fun K => alls b (qs.map Prod.snd) fun c => K (.bool c))
  | [], _, h => absurd rfl h
  | [q], h, _ => fun K s hd I E => by
    have e : boolOp pos (bop b) ([q].map fun q => eval q.1 Φ.fx.env) = eval q.1 Φ.fx.env := by cases b <;> rfl
    rw [e]
    exact wpAny_mono (h q (.head _) (fun y => okK (boolO y some) fun c => if c = b then K (.bool b) else K (.bool c)) s hd I E) (fun v s' ⟨B, k, y, hy, r⟩ => ⟨B, k, y, bool_last hy r, r⟩) fun _ _ z => z
  | q :: q' :: r, h, _ => fun K s hd I => by
    have hr := ev_bools (b := b) (pos := pos) (qs := q' :: r) (fun x m => h x (.tail _ m)) (by simp)
    have go : ∀ t u (l : List (Sem Value)), boolOp pos (bop b) (t :: u :: l) = (do let v ← t; standAt pos; let c ← holding [v] (truthy v); if c = b then boolOp pos (bop b) (u :: l) else pure v) := fun t u l => by
      cases b
      · rw [boolOp]
        · congr 1; funext v; congr 1; funext _; congr 1; funext c; cases c <;> rfl
        · simp
      · rw [boolOp]
        · congr 1; funext v; congr 1; funext _; congr 1; funext c; cases c <;> rfl
        · simp
    rw [List.map_cons, List.map_cons, go]
    refine (h q (.head _)).bind (K₁ := fun y => okK (boolO y some) fun c => if c = b then alls b ((q' :: r).map Prod.snd) (fun c => K (.bool c)) else K (.bool c)) hd I fun v y s₁ I₁ k₁ hy rp => wp_stand ?_
    refine okK_elim hy fun c e kc E => wpAny_bind (wpAny_holding (truth_ok e rp ?_ E))
    by_cases qc : c = b
    · rw [if_pos qc] at kc ⊢
      exact hr K s₁ kc I₁ E
    · rw [if_neg qc] at kc ⊢
      exact wpAny_pure ⟨I₁.base, .refl _, _, kc, boolO_elim (C := fun y => Φ.rp s₁.heap v y → Φ.rp s₁.heap v (.bool c)) e (fun c' e r => by cases e; exact r) rp⟩
theorem tests_of {b : Bool} : ∀ {qs : List (Expr × DV)}, (∀ q ∈ qs, EvT Φ (isTrue q.1 Φ.fx.env (eval q.1 Φ.fx.env)) (tst q.2)) → EvT Φ (allTrue (bop b) (qs.map Prod.fst) Φ.fx.env) (alls b (qs.map Prod.snd))
  | [], _ => test_nil
  | q :: r, h => test_cons (h q (.head _)) (tests_of fun x m => h x (.tail _ m))

/-! items, one after the other -/
noncomputable abbrev manyV (ds : List DV) : (List V → Prop) → Prop := manyD (ds.map fun d _ => d) []
noncomputable def plainE : Expr → Bool
  | .Starred .. => false
  | _ => true
theorem star_plain {e : Expr} {r : List Expr} {env : Env} (h : plainE e = true) : starEach (e :: r) env = (false, eval e env) :: starEach r env := by
  cases e <;> first | rfl | cases h
theorem ev_items {pos : Pos} : ∀ {qs : List (Expr × DV)}, (∀ q ∈ qs, plainE q.1 = true ∧ Good1 Φ q) → EvL Φ (spliced (backTo pos (starEach (qs.map Prod.fst) Φ.fx.env))) (manyV (qs.map Prod.snd))
  | [], _ => fun K s hd I => EvR.pure (a := []) I hd .nil
  | q :: r, h => fun K s hd I => by
    rw [List.map_cons, star_plain (h q (.head _)).1]
    have e : spliced (backTo pos ((false, eval q.1 Φ.fx.env) :: starEach (r.map Prod.fst) Φ.fx.env)) = (eval q.1 Φ.fx.env >>= fun v => holding [v] (spliced (backTo pos (starEach (r.map Prod.fst) Φ.fx.env))) >>= fun vs => pure (v :: vs)) := rfl
    rw [e]
    exact (h q (.head _)).2.bind (K₁ := fun x => manyV (r.map Prod.snd) fun xs => K (x :: xs)) hd I fun v x s₁ I₁ k₁ hx r1 => (ev_items fun q m => h q (.tail _ m)).holding.bind hx I₁ fun vs xs s₂ I₂ k₂ hxs rs => EvR.pure I₂ hxs (.cons (r1.keep k₂) rs)
theorem ev_tuple {qs : List (Expr × DV)} {k : Nat} {pos : Pos} (h : ∀ q ∈ qs, plainE q.1 = true ∧ Good1 Φ q) : Ev Φ (eval (.Tuple (qs.map Prod.fst) k pos) Φ.fx.env) (fun K => manyV (qs.map Prod.snd) fun xs => okK (fitL xs (.tuple xs)) K) := fun K s hd I => by
  rw [arm_eval_Tuple]
  refine wp_stand ((ev_items h).bind hd I fun vs xs s₁ I₁ k₁ hx rs => okK_elim hx fun z e kz => step I₁ kz ?_)
  exact fit_elim e fun q E => wpAny_newObj_type (made_tuple (tk := s₁.toks) I₁ rs) (by show vs.toArray.size ≤ sizeLine; rw [List.size_toArray, rs.length]; exact sz_le q)
theorem ev_list {qs : List (Expr × DV)} {pos : Pos} (h : ∀ q ∈ qs, plainE q.1 = true ∧ Good1 Φ q) : Ev Φ (eval (.List (qs.map Prod.fst) pos) Φ.fx.env) (fun K => manyV (qs.map Prod.snd) fun xs => okK (fitL xs (.list xs)) K) := fun K s hd I => by
  rw [arm_eval_List]
  refine wp_stand ((ev_items h).bind hd I fun vs xs s₁ I₁ k₁ hx rs => okK_elim hx fun z e kz => step I₁ kz ?_)
  exact fit_elim e fun q E => wpAny_newObj_type (made_list (tk := s₁.toks) I₁ rs) (by show vs.toArray.size ≤ sizeLine; rw [List.size_toArray, rs.length]; exact sz_le q)
theorem sub_tail {value slice : Expr} {pos : Pos} {o i : Value} {z : V} (h : HasItem s o ∧ Φ.wp (getItem o i) (Φ.Gives s z) s) : Φ.wp (do standAt pos; let r ← subscripted slice (← getitemInPython o) o i; letTemporaryGo value o r; pure r) (Φ.Gives s z) s := by
  obtain ⟨⟨T, id, hT, hl⟩, hg⟩ := h
  refine wp_stand fun E => ?_
  rw [getitemInPython_of_ne hT.not_modules]
  refine wpAny_bind (wpAny_bind (wpAny_specialOf hT hl ?_))
  refine wpAny_pure ?_
  have fin : ∀ vs, wpAny (model Φ.fx.g.prog Φ.fx.g.w) Φ.fx.A (operate vs (getItem o i) >>= fun r => letTemporaryGo value o r >>= fun _ => pure r) (Φ.Gives s z) E s := fun vs =>
    wpAny_bind (wpAny_mono (wp_operate hg E) (fun a s' p => wpAny_bind (wpAny_letTemporaryGo (wpAny_pure p))) fun _ _ z => z)
  unfold subscripted
  split
  · exact fin _
  · rename_i h1; cases h1
  · exact fin _
theorem ev_sub {value slice : Expr} {pos : Pos} (h1 : Ev Φ (eval value Φ.fx.env) d1) (h2 : Ev Φ (eval slice Φ.fx.env) d2) : Ev Φ (eval (.Subscript value slice pos) Φ.fx.env) (fun K => d1 fun x => d2 fun y => okK (subOp x y) K) := by
  rw [arm_eval_Subscript]
  exact ev_two (op := subOp) h1 (fun v => h2.holding) fun s v u x y z I r1 r2 e => sub_tail (sub_ok e r1 r2)
noncomputable abbrev EvO (Φ : Ct) (t : Sem Value) (d : (Option V → Prop) → Prop) : Prop := EvR Φ (RpO Φ) t d
theorem ev_none : EvO Φ (valueOrNone (evalOpt none Φ.fx.env)) (fun K => K none) := fun K s hd I => EvR.pure (a := Value.none) I hd rfl
theorem ev_some {e : Expr} (h : Ev Φ (eval e Φ.fx.env) d) : EvO Φ (valueOrNone (evalOpt (some e) Φ.fx.env)) (fun K => d fun y => K (some y)) := fun K s hd I E => by
  show wpAny _ _ (eval e Φ.fx.env) _ _ _
  exact wpAny_mono (h _ s hd I E) (fun v s' ⟨B, k, y, hy, r⟩ => ⟨B, k, some y, hy, r⟩) fun _ _ z => z
theorem RpO.keep {h h' : Heap} {v : Value} {y : Option V} (r : RpO Φ h v y) (k : Keeps h h') : RpO Φ h' v y := by
  cases y with
  | none => exact r
  | some x => exact Rp.keep r k
theorem ev_slice {value : Expr} {lo hi : Option Expr} {p pos : Pos} {dl dh : (Option V → Prop) → Prop} (h1 : Ev Φ (eval value Φ.fx.env) d1) (h2 : EvO Φ (valueOrNone (evalOpt lo Φ.fx.env)) dl) (h3 : EvO Φ (valueOrNone (evalOpt hi Φ.fx.env)) dh) :
    Ev Φ (eval (.Subscript value (.Slice lo hi none p) pos) Φ.fx.env) (fun K => d1 fun x => dl fun l => dh fun h => okK (sliceOp x l h) K) := fun K s hd I => by
  rw [arm_eval_Subscript]
  refine h1.bind hd I fun v x s₁ I₁ k₁ hx r1 => ?_
  have hS : EvR Φ (fun h v (q : Option V × Option V) => ∃ sl vl vu, v = .ref sl ∧ h.IsSliceOf sl vl vu .none ∧ RpO Φ h vl q.1 ∧ RpO Φ h vu q.2) (eval (.Slice lo hi none p) Φ.fx.env) (fun K => dl fun l => dh fun h => K (l, h)) := fun K s hd I => by
    rw [arm_eval_Slice]
    refine h2.bind hd I fun vl l s₁ I₁ k₁ hl rl => h3.holding.bind hl I₁ fun vu h s₂ I₂ k₂ hh rh => ?_
    refine step (z := (l, h)) I₂ hh fun E => wpAny_bind (wpAny_holding (wpAny_pure ?_))
    exact wpAny_newObj_type ⟨Grown.push _ _ s₂.toks, _, vl, vu, rfl, Heap.IsSliceOf.new .., (rl.keep k₂).keep (keeps_push _ _), rh.keep (keeps_push _ _)⟩
  refine hS.holding.bind (K₁ := fun q => okK (sliceOp x q.1 q.2) K) hx I₁ fun u q s₂ I₂ k₂ hq rq => ?_
  obtain ⟨sl, vl, vu, rfl, hs, rl, ru⟩ := rq
  exact okK_elim hq fun z e kz => step I₂ kz (sub_tail (slice_ok I₂ e (r1.keep k₂) rl ru hs))
end
end Mine
end

noncomputable section
set_option maxRecDepth 100000
set_option linter.unusedVariables false
namespace Mine
open PySem PySem.Calls PyProof.Rows PySem.W

/-! global names -/
noncomputable def glob (sc : List (Str × NameKind)) (x : Str) : Bool := (sc.lookup x == some .globalImplicit) && okName x
section
variable {Φ : Ct} {s : Shared} {v u : Value} {x y z : V} {d : DV}
theorem glob_of {x : Str} (h : glob Φ.fx.env.scope.names x = true) : Φ.fx.env.scope.names.lookup x = some .globalImplicit ∧ (x == ("__debug__" : Str)) = false := by
  have h := (Bool.and_eq_true _ _).mp h
  exact ⟨eq_of_beq h.1, Bool.not_eq_true' _ ▸ ((Bool.and_eq_true _ _).mp h.2).1⟩
theorem name_main {x : Str} {pos : Pos} {Q : Value → Shared → Prop} (I : Inv Φ s) (hx : glob Φ.fx.env.scope.names x = true) (hv : Φ.fx.g.mg x = some v) (h : Q v s) : Φ.wp (eval (.Name x pos) Φ.fx.env) Q s := fun E =>
  Name_function_global I.ok.kind (glob_of hx).1 (loadGlobal_global (by rw [I.ok.globals]; exact I.ok.gr.main.at' (I.base.stays _)) hv h) (glob_of hx).2
theorem name_blt {x : Str} {pos : Pos} {Q : Value → Shared → Prop} (I : Inv Φ s) (hx : glob Φ.fx.env.scope.names x = true) (hv : bltNames.lookup x = some v) (h : Q v s) : Φ.wp (eval (.Name x pos) Φ.fx.env) Q s := fun E =>
  have q := I.ok.gr.blts x v hv
  Name_function_global I.ok.kind (glob_of hx).1 (loadGlobal_builtin (by rw [I.ok.globals]; exact I.ok.gr.main.at' (I.base.stays _)) q.1 (by rw [I.ok.builtins]; exact I.ok.gr.blt.at' (I.base.stays _)) q.2 h) (glob_of hx).2
theorem ev_const {n : Str} {pos : Pos} (hx : glob Φ.fx.env.scope.names n = true) (hv : Φ.fx.g.cons.lookup n = some x) : Ev Φ (eval (.Name n pos) Φ.fx.env) (fun K => K x) := fun K s hd I =>
  (I.ok.gr.cons n x hv).elim fun u q => name_main I hx q.1 ⟨I.base, .refl _, x, hd, q.2 _ _⟩
noncomputable def constIs (c : Const) (x : V) : Bool := match x with
  | .none => c == .none
  | .bool b => c == .bool b
  | .int i => c == .int i
  | .str t => c == .str t
  | _ => false
theorem ev_lit {c : Const} {k : Nat} {pos : Pos} (hc : constIs c x = true) : Ev Φ (eval (.Constant c k pos) Φ.fx.env) (fun K => K x) := fun K s hd I E => by
  show wpAny _ _ (constValue Φ.fx.env c) _ _ _
  cases x with
  | none => cases eq_of_beq hc; exact wpAny_pure ⟨I.base, .refl _, _, hd, .none⟩
  | bool b => cases eq_of_beq hc; exact wpAny_pure ⟨I.base, .refl _, _, hd, .bool _⟩
  | int i => cases eq_of_beq hc; exact wpAny_mkInt ⟨I.base.grown (.toks _ _), .refl _, _, hd, .int _ _⟩
  | str t => cases eq_of_beq hc; exact wpAny_mkText ⟨I.base.grown (.toks _ _), .refl _, _, hd, .str _ _⟩
  | _ => cases hc

/-! calls of Python's own -/
theorem back_any {pos : Pos} : ∀ {l : List (Bool × Sem Value)}, (∀ q ∈ l, q.1 = false) → (backTo pos l).any (·.1) = false
  | [], _ => rfl
  | [q], h => by simp [backTo, h q (.head _)]
  | q :: q' :: l, h => by
    have := back_any (pos := pos) (l := q' :: l) fun x m => h x (.tail _ m)
    simpa [backTo, h q (.head _)] using this
theorem star_false {env : Env} : ∀ {qs : List (Expr × DV)}, (∀ q ∈ qs, plainE q.1 = true) → ∀ q ∈ starEach (qs.map Prod.fst) env, q.1 = false
  | [], _, _, h => nomatch h
  | q :: r, h, p, hp => by
    rw [List.map_cons, star_plain (h q (.head _))] at hp
    cases hp with
    | head => rfl
    | tail _ m => exact star_false (fun x m => h x (.tail _ m)) p m
theorem args_ok {F : Value} {pos : Pos} {qs : List (Expr × DV)} {K : List V → Prop} {Q : Args → Shared → Prop} {E : Value → Shared → Prop} (hq : ∀ q ∈ qs, plainE q.1 = true ∧ Good1 Φ q) (hd : manyV (qs.map Prod.snd) K) (I : Inv Φ s)
    (h : ∀ vs xs s₁, Inv Φ s₁ → Keeps s.heap s₁.heap → K xs → Φ.rps s₁.heap vs xs → Q ⟨vs, []⟩ s₁) : wpAny (model Φ.fx.g.prog Φ.fx.g.w) Φ.fx.A (evalArgs F true (backTo pos (starEach (qs.map Prod.fst) Φ.fx.env)) []) Q E s := by
  have it := ev_items (pos := pos) hq K s hd I E
  cases qs with
  | nil => exact PySem.evalArgs_none (h [] [] s I (.refl _) hd .nil)
  | cons q r =>
    rw [List.map_cons, star_plain (hq q (.head _)).1] at it ⊢
    obtain ⟨l, hl⟩ : ∃ l, backTo pos ((false, eval q.1 Φ.fx.env) :: starEach (r.map Prod.fst) Φ.fx.env) = (false, eval q.1 Φ.fx.env) :: l := by
      cases starEach (r.map Prod.fst) Φ.fx.env <;> exact ⟨_, rfl⟩
    rw [hl] at it ⊢
    exact Calls.evalArgs_plain (wpAny_mono it (fun vs s₁ ⟨B, k, xs, hx, rs⟩ => h vs xs s₁ (I.keep B k) k hx rs) fun _ _ z => z)
theorem ev_callB {F : Value} {f : Str} {fp pos : Pos} {qs : List (Expr × DV)} {op : List V → Option V} (hx : glob Φ.fx.env.scope.names f = true) (hF : bltNames.lookup f = some F) (hk : (∃ id, F = .builtin id) ∨ ∃ T, F = .type T) (hq : ∀ q ∈ qs, plainE q.1 = true ∧ Good1 Φ q)
    (st : ∀ s vs xs z, Inv Φ s → Φ.rps s.heap vs xs → op xs = some z → Φ.wp (call F vs) (Φ.Gives s z) s) : Ev Φ (eval (.Call (.Name f fp) (qs.map Prod.fst) [] pos) Φ.fx.env) (fun K => manyV (qs.map Prod.snd) fun xs => okK (op xs) K) := fun K s hd I E => by
  show wpAny _ _ (eval (.Name f fp) Φ.fx.env >>= fun F => callWith pos F [] (backTo pos (starEach (qs.map Prod.fst) Φ.fx.env)) []) _ _ s
  refine wpAny_bind (name_blt I hx hF ?_ E)
  have hp := back_any (pos := pos) (star_false (env := Φ.fx.env) fun q m => (hq q m).1)
  have main : wpAny (model Φ.fx.g.prog Φ.fx.g.w) Φ.fx.A (evalArgs F true (backTo pos (starEach (qs.map Prod.fst) Φ.fx.env)) []) (fun a s₁ => wpAny (model Φ.fx.g.prog Φ.fx.g.w) Φ.fx.A (call F ([] ++ a.pos) a.kw) (Post Φ Φ.rp s K) E s₁) E s :=
    args_ok hq hd I fun vs xs s₁ I₁ k₁ hx rs => okK_elim hx fun z e kz => wpAny_mono (step I₁ kz (st s₁ vs xs z I₁ rs e) E) (fun _ _ p => p.lift k₁) fun _ _ z => z
  rcases hk with ⟨id, rfl⟩ | ⟨T, rfl⟩
  · exact callWith_builtin hp main
  · exact PySem.callWith_type hp main
theorem one_elim {α : Type} {vs : List Value} {xs : List V} {f : V → Option α} {z : α} {C : List Value → Prop} (e : one xs f = some z) (rs : Φ.rps s.heap vs xs) (k : ∀ v x, Φ.rp s.heap v x → f x = some z → C [v]) : C vs := by
  cases rs with
  | nil => cases e
  | cons r rs => cases rs with
    | nil => exact k _ _ r e
    | cons _ _ => cases e
theorem two_elim {α : Type} {vs : List Value} {xs : List V} {f : V → V → Option α} {z : α} {C : List Value → Prop} (e : two xs f = some z) (rs : Φ.rps s.heap vs xs) (k : ∀ v u x y, Φ.rp s.heap v x → Φ.rp s.heap u y → f x y = some z → C [v, u]) : C vs := by
  cases rs with
  | nil => cases e
  | cons r rs => cases rs with
    | nil => cases e
    | cons r' rs => cases rs with
      | nil => exact k _ _ _ _ r r' e
      | cons _ _ => cases e
theorem sz63 {n : Nat} (h : n ≤ szLine) : (n : Int) < 2 ^ 63 := Int.ofNat_lt.mpr (Nat.lt_of_le_of_lt h (by decide))
theorem all_size {vs : Array Value} {l : List V} {h : Heap} (r : Φ.rps h vs.toList l) : vs.size = l.length := Array.length_toList ▸ r.length
theorem seqV_elim {C : V → List V → Prop} {l : List V} (e : seqV x = some l) (kl : ∀ l : List V, l.length ≤ szLine → C (.list l) l) (kt : ∀ l : List V, l.length ≤ szLine → C (.tuple l) l) (ks : ∀ t : Str, t.cps.toList.length ≤ szLine → C (.str t) (charsV t.cps.toList)) : C x l := by
  cases x with
  | list m => exact fit_elim e fun h => kl m h
  | tuple m => exact fit_elim e fun h => kt m h
  | str m => exact fit_elim e fun h => ks m h
  | _ => cases e
theorem len_ok {l : List V} (e : seqV x = some l) (r : Φ.rp s.heap v x) : Φ.wp (call (.builtin "len") [v]) (Φ.Gives s (.int l.length)) s :=
  seqV_elim (C := fun x l => Φ.rp s.heap v x → Φ.wp (call (.builtin "len") [v]) (Φ.Gives s (.int l.length)) s) e
    (fun l hz r => r.list_elim fun a o vs n _ ha hc hd hl E => all_size hl ▸ PyProof.Rows.len_list ⟨_, ha, hc.1, _, hd⟩ (by rw [all_size hl]; exact sz63 hz) ⟨.toks _ _, .int _ _⟩)
    (fun l hz r => r.tuple_elim fun a o vs n _ ha hc hd hl E => all_size hl ▸ PyProof.Rows.len_tuple ⟨_, ha, hc, _, hd⟩ (by rw [all_size hl]; exact sz63 hz) ⟨.toks _ _, .int _ _⟩)
    (fun t hz r => r.str_elim fun tk E => by
      unfold charsV
      rw [List.length_map, Array.length_toList]
      exact P.len_str (by rw [Array.length_toList] at hz; have := sz63 hz; unfold Str.length; omega) ⟨.toks _ _, .int _ _⟩) r
theorem ev_len {fp pos : Pos} {q : Expr × DV} (hx : glob Φ.fx.env.scope.names "len" = true) (hq : plainE q.1 = true ∧ Good1 Φ q) : Ev Φ (eval (.Call (.Name "len" fp) [q.1] [] pos) Φ.fx.env) (fun K => manyV [q.2] fun xs => okK (opN .len xs) K) :=
  ev_callB (qs := [q]) (op := opN .len) hx rfl (.inl ⟨_, rfl⟩) (fun p m => by cases List.mem_singleton.mp m; exact hq) fun s vs xs z I rs e => one_elim (C := fun vs => Φ.wp (call (.builtin "len") vs) (Φ.Gives s z) s) e rs fun v x r e => map_elim e fun l e => len_ok e r
end
end Mine
end

noncomputable section
set_option maxRecDepth 100000
set_option linter.unusedVariables false
namespace Mine
open PySem PySem.Calls PyProof.Rows PySem.W

section
variable {Φ : Ct} {s : Shared} {v u : Value} {x y z : V} {d : DV}
theorem isi_ok {t : Nat} {T : String} {b : Bool} (hT : tyNames[t]? = some T) (e : isT x t = some b) (r : Φ.rp s.heap v x) : Φ.wp (call (.builtin "isinstance") [v, .type T]) (Φ.Gives s (.bool b)) s := fun E => by
  have G0 : ∀ {b}, Φ.Gives s (.bool b) (.bool b) s := ⟨.refl _, .bool _⟩
  have G1 : ∀ {b}, Φ.Gives s (.bool b) (.bool b) { s with toks := s.toks + 1 } := ⟨.toks _ _, .bool _⟩
  match t, hT with
  | 0, hT =>
    cases hT
    cases r with
    | none => exact some_elim e (IsiPair.NoneType_str G1)
    | bool c => exact some_elim e (IsiPair.bool_str G1)
    | int i t => exact some_elim e (IsiPair.int_str G1)
    | str _ t => exact some_elim e (IsiPair.str_str G0)
    | list _ ha hc => exact some_elim e (IsiPair.list_str ha hc.1 G1)
    | tuple _ ha hc => exact some_elim e (IsiPair.tuple_str ha hc G1)
    | inst => cases e
  | 1, hT =>
    cases hT
    cases r with
    | none => exact some_elim e (IsiPair.NoneType_tuple G1)
    | bool c => exact some_elim e (IsiPair.bool_tuple G1)
    | int i t => exact some_elim e (IsiPair.int_tuple G1)
    | str _ t => exact some_elim e (IsiPair.str_tuple G1)
    | list _ ha hc => exact some_elim e (IsiPair.list_tuple ha hc.1 G1)
    | tuple _ ha hc => exact some_elim e (IsiPair.tuple_tuple ha hc G0)
    | inst => cases e
  | 2, hT =>
    cases hT
    cases r with
    | none => exact some_elim e (IsiPair.NoneType_list G1)
    | bool c => exact some_elim e (IsiPair.bool_list G1)
    | int i t => exact some_elim e (IsiPair.int_list G1)
    | str _ t => exact some_elim e (IsiPair.str_list G1)
    | list _ ha hc => exact some_elim e (IsiPair.list_list ha hc.1 G0)
    | tuple _ ha hc => exact some_elim e (IsiPair.tuple_list ha hc G1)
    | inst => cases e
  | 3, hT =>
    cases hT
    cases r with
    | none => exact some_elim e (IsiPair.NoneType_int G1)
    | bool c => exact some_elim e (IsiPair.bool_int G0)
    | int i t => exact some_elim e (IsiPair.int_int G0)
    | str _ t => exact some_elim e (IsiPair.str_int G1)
    | list _ ha hc => exact some_elim e (IsiPair.list_int ha hc.1 G1)
    | tuple _ ha hc => exact some_elim e (IsiPair.tuple_int ha hc G1)
    | inst => cases e
  | 4, hT =>
    cases hT
    cases r with
    | none => exact some_elim e (IsiPair.NoneType_bool G1)
    | bool c => exact some_elim e (IsiPair.bool_bool G0)
    | int i t => exact some_elim e (IsiPair.int_bool G1)
    | str _ t => exact some_elim e (IsiPair.str_bool G1)
    | list _ ha hc => exact some_elim e (IsiPair.list_bool ha hc.1 G1)
    | tuple _ ha hc => exact some_elim e (IsiPair.tuple_bool ha hc G1)
    | inst => cases e
theorem ty_blt {t : Nat} {T : String} (hT : tyNames[t]? = some T) : bltNames.lookup (Str.ofString T) = some (.type T) := by
  match t, hT with
  | 0, hT => cases hT; decide
  | 1, hT => cases hT; decide
  | 2, hT => cases hT; decide
  | 3, hT => cases hT; decide
  | 4, hT => cases hT; decide
theorem ev_isi {t : Nat} {T : String} {fp pos pT : Pos} {q : Expr × DV} (hT : tyNames[t]? = some T) (hx : glob Φ.fx.env.scope.names "isinstance" = true) (hy : glob Φ.fx.env.scope.names (Str.ofString T) = true) (hp : plainE q.1 = true) (h : Good1 Φ q) :
    Ev Φ (eval (.Call (.Name "isinstance" fp) [q.1, .Name (Str.ofString T) pT] [] pos) Φ.fx.env) (fun K => q.2 fun x => okK (isT x t) fun b => K (.bool b)) := fun K s hd I E => by
  show wpAny _ _ (eval (.Name "isinstance" fp) Φ.fx.env >>= fun F => callWith pos F [] (backTo pos (starEach [q.1, .Name (Str.ofString T) pT] Φ.fx.env)) []) _ _ s
  refine wpAny_bind (name_blt (v := .builtin "isinstance") I hx rfl ?_ E)
  rw [star_plain hp]
  refine callWith_builtin rfl (Calls.evalArgs_plain ?_)
  have q' : spliced (backTo pos ((false, eval q.1 Φ.fx.env) :: starEach [.Name (Str.ofString T) pT] Φ.fx.env)) = (eval q.1 Φ.fx.env >>= fun v => holding [v] (eval (.Name (Str.ofString T) pT) Φ.fx.env >>= fun u => holding [u] (pure []) >>= fun vs => pure (u :: vs)) >>= fun vs => pure (v :: vs)) := rfl
  show wpAny _ _ (spliced (backTo pos ((false, eval q.1 Φ.fx.env) :: starEach [.Name (Str.ofString T) pT] Φ.fx.env))) _ _ _
  rw [q']
  refine wpAny_bind (wpAny_mono (h _ s hd I E) (fun v s₁ ⟨B, k, x, hx, r⟩ => ?_) fun _ _ z => z)
  have I₁ := I.keep B k
  refine wpAny_bind (wpAny_holding (wpAny_bind (name_blt I₁ hy (ty_blt hT) ?_ E)))
  refine wpAny_bind (wpAny_holding (wpAny_pure (wpAny_pure (wpAny_pure ?_))))
  exact okK_elim hx fun b e kb => wpAny_mono (step I₁ kb (isi_ok hT e r) E) (fun _ _ p => p.lift k) fun _ _ z => z
theorem grown_of {h' : Heap} {tk : Nat} (k : Keeps s.heap h') : Grown s { s with heap := h', toks := tk } := ⟨k, rfl, rfl⟩
theorem pair_elim {C : V → List V → Prop} {l : List V} (e : pairO x = some l) (kl : ∀ l : List V, l.length ≤ szLine → C (.list l) l) (kt : ∀ l : List V, l.length ≤ szLine → C (.tuple l) l) : C x l := by
  cases x with
  | list m => exact fit_elim e fun h => kl m h
  | tuple m => exact fit_elim e fun h => kt m h
  | _ => cases e
theorem made_at {h' : Heap} {vs : Array Value} {c tk : Nat} {l : List V} (I : Inv Φ s) (k : Keeps s.heap h') (hD : h'.get? s.heap.objs.size = some { cls := .type "list", dict := none, data := .seq vs c, slots := #[] }) (rr : Φ.rps h' vs.toList l) :
    Φ.Gives s (.list l) (.ref s.heap.objs.size) { s with heap := h', toks := tk } := ⟨grown_of k, .list I.fresh hD ⟨rfl, rfl⟩ rfl rr⟩
theorem list_ok {l : List V} (I : Inv Φ s) (e : pairO x = some l) (r : Φ.rp s.heap v x) : Φ.wp (call (.type "list") [v]) (Φ.Gives s (.list l)) s :=
  pair_elim (C := fun x l => Φ.rp s.heap v x → Φ.wp (call (.type "list") [v]) (Φ.Gives s (.list l)) s) e
    (fun l hz r => r.list_elim fun a o vs n _ ha hc hd hl E => call_list_seq (hsz := by rw [all_size hl]; exact sz_le hz) _ (.inl rfl) ha hc.1 hd fun h' c' hk hD => made_at (tk := s.toks) I hk hD (hl.keep hk))
    (fun l hz r => r.tuple_elim fun a o vs n _ ha hc hd hl E => call_list_seq (hsz := by rw [all_size hl]; exact sz_le hz) _ (.inr rfl) ha hc hd fun h' c' hk hD => made_at (tk := s.toks) I hk hD (hl.keep hk)) r
theorem strsAre_of {h : Heap} {vs : List Value} {l : List V} {ss : List (List Nat)} (e : strsL l = some ss) (r : Φ.rps h vs l) : StrsAre vs (ss.map fun x => (⟨x.toArray⟩ : Str)) := by
  refine r.ind (D := fun vs l => ∀ ss, strsL l = some ss → StrsAre vs (ss.map fun x => (⟨x.toArray⟩ : Str))) (fun ss e => some_elim e .nil) (fun v vs x l r _ ih ss e => ?_) ss e
  unfold strsL at e
  rw [List.mapM_cons] at e
  obtain ⟨a, ha, e⟩ := Option.bind_eq_some_iff.mp e
  obtain ⟨b, hb, e⟩ := Option.bind_eq_some_iff.mp e
  cases e
  exact strO_elim (C := fun x => Φ.rp h v x → StrsAre (v :: vs) ((a :: b).map fun x => (⟨x.toArray⟩ : Str))) ha (fun t et r => r.str_elim fun tk => by cases et; rw [List.map_cons, str_eta]; exact .cons _ _ (ih b hb)) r
theorem intsAre_of {h : Heap} {vs : List Value} {l : List V} {ns : List Int} (e : intsL l = some ns) (r : Φ.rps h vs l) : IntsAre vs ns := by
  refine r.ind (D := fun vs l => ∀ ns, intsL l = some ns → IntsAre vs ns) (fun ss e => some_elim e .nil) (fun v vs x l r _ ih ss e => ?_) ns e
  unfold intsL at e
  rw [List.mapM_cons] at e
  obtain ⟨a, ha, e⟩ := Option.bind_eq_some_iff.mp e
  obtain ⟨b, hb, e⟩ := Option.bind_eq_some_iff.mp e
  cases e
  exact intO_elim (C := fun x => Φ.rp h v x → IntsAre (v :: vs) (a :: b)) ha (fun i ei r => r.int_elim fun tk => by cases ei; exact .cons _ _ (ih b hb)) r
theorem joinL_fold (sep : List Nat) : ∀ (ss : List (List Nat)) (a : List Nat), ((ss.map fun x => (⟨x.toArray⟩ : Str)).foldl (fun acc p => acc ++ sep.toArray ++ p.cps) a.toArray).toList = joinL sep (a :: ss)
  | [], a => rfl
  | x :: r, a => by
    have := joinL_fold sep r (a ++ sep ++ x)
    rw [List.map_cons, List.foldl_cons, show a.toArray ++ sep.toArray ++ x.toArray = (a ++ sep ++ x).toArray by simp, this]
    cases r <;> simp [joinL]
theorem glued_toList (sep : List Nat) : ∀ ss : List (List Nat), (Builtin.Str.glued ⟨sep.toArray⟩ (ss.map fun x => (⟨x.toArray⟩ : Str))).cps.toList = joinL sep ss
  | [] => rfl
  | x :: r => joinL_fold sep r x
theorem join_ok {sep : Str} {l : List V} {ss : List (List Nat)} (e : strsL l = some ss) (hz : (ss.map List.length).sum + ss.length * sep.cps.toList.length ≤ szLine) (rs : Φ.rp s.heap u (.str sep)) (r : Φ.rp s.heap v (.list l)) :
    Φ.wp (call (.builtin "str.join") [u, v]) (Φ.Gives s (text (joinL sep.cps.toList ss))) s := by
  refine rs.str_elim fun t => r.list_elim fun a o vs n _ ha hc hd hl E => ?_
  have q := glued_toList sep.cps.toList ss
  rw [str_eta] at q
  refine PyProof.Rows.join_list ⟨_, ha, hc.1, _, hd⟩ (strsAre_of e hl) ?_ fun t' k => ⟨.toks _ _, .text q⟩
  have e1 : ((ss.map fun x => (⟨x.toArray⟩ : Str)).map (·.length)) = ss.map List.length := by simp [Str.length]
  rw [e1, List.length_map]
  rw [Array.length_toList] at hz
  exact Nat.le_trans hz (show szLine ≤ 16777216 by decide)
theorem count_ok {l : List V} (I : Inv Φ s) (q : (okEq y && okEq (.list l)) = true) (r : Φ.rp s.heap v (.list l)) (r2 : Φ.rp s.heap u y) : Φ.wp (call (.builtin "list.count") [v, u]) (Φ.Gives s (.int (l.countP fun z => PyData.eqv z y))) s := fun E => by
  have q := (Bool.and_eq_true _ _).mp q
  have h1 := okd q.1
  have h2 := okd q.2
  obtain ⟨bs, p2⟩ := r2.reads h1.1
  obtain ⟨as, p1⟩ := r.reads h2.1
  refine r.list_elim fun a o vs n _ ha hc hd hl => ?_
  obtain ⟨cls, dd, data, sl⟩ := o
  obtain ⟨rfl, rfl⟩ := hc
  cases hd
  obtain ⟨as, ra⟩ := (rp_reads (v := .none) (x := .none)).2 hl h2.1
  have := SeqAt.items_eqAt (A := Φ.fx.A) (vs := vs) ra p2 h2.1 h1.1 (min_ok I h1.2)
  refine call_meets PySem.F.slot_list_count ⟨_, ha, rfl⟩ PySem.F.entry_list_count (PySem.F.args_list_count_2 _ _) (SeqAt.list_countAt a vs n none sl u (fun y' => PyData.eqv (SeqAt.readOf s.heap y') y)) ⟨ha, this, ?_⟩
  have e : vs.toList.countP (fun y' => PyData.eqv (SeqAt.readOf s.heap y') y) = l.countP fun z => PyData.eqv z y := by
    rw [← SeqAt.readsAll_map l _ _ h2.1 ra, List.countP_map]; rfl
  rw [e]
  exact ⟨.toks _ _, .int _ _⟩
end
end Mine
end

noncomputable section
set_option maxRecDepth 100000
set_option linter.unusedVariables false
namespace Mine
open PySem PySem.Calls PyProof.Rows PySem.W

section
variable {Φ : Ct} {s : Shared} {v u : Value} {x y z : V} {d d1 d2 : DV}
theorem post_of_call {K : V → Prop} {f : Nat} {vs : List Value} {xs : List V} {E : Value → Shared → Prop} (I : Inv Φ s) (h : callN Φ.fx.g.P Φ.fx.d f xs K) (rs : Φ.rps s.heap vs xs) :
    wpAny (model Φ.fx.g.prog Φ.fx.g.w) Φ.fx.A (call (.ref (Φ.fx.g.fn f)) vs) (Post Φ Φ.rp s K) E s :=
  I.ok.call f xs K Φ.fx.A s Φ.bad vs E h I.ok.hand I.ok.room I.ok.units I.base (fun a b => I.badLive b) rs
theorem Inv.frag (I : Inv Φ s) : Φ.fx.g.K.In s.heap := I.ok.gr.frag.keeps I.base.stays
theorem ev_call {n : Str} {f : Nat} {fp pos : Pos} {qs : List (Expr × DV)} (hx : glob Φ.fx.env.scope.names n = true) (hf : Φ.fx.g.fns.lookup n = some f) (hfn : keepIn Φ.fx.g.K (.ref (Φ.fx.g.fn f)) = true) (hq : ∀ q ∈ qs, plainE q.1 = true ∧ Good1 Φ q) :
    Ev Φ (eval (.Call (.Name n fp) (qs.map Prod.fst) [] pos) Φ.fx.env) (fun K => manyV (qs.map Prod.snd) fun xs => callN Φ.fx.g.P Φ.fx.d f xs K) := fun K s hd I E => by
  show wpAny _ _ (eval (.Name n fp) Φ.fx.env >>= fun F => callWith pos F [] (backTo pos (starEach (qs.map Prod.fst) Φ.fx.env)) []) _ _ s
  refine wpAny_bind (name_main I hx (I.ok.gr.fns n f hf) ?_ E)
  refine callWith_of (by rw [back_any (star_false fun q m => (hq q m).1)]; rfl) (keeps_K hfn) (args_ok hq hd I fun vs xs s₁ I₁ k₁ hx rs => ⟨I₁.frag, ?_⟩)
  exact wpAny_mono (post_of_call I₁ hx rs) (fun _ _ p => p.lift k₁) fun _ _ z => z

/-! methods of Python's own -/
noncomputable def simpleE : Expr → Bool
  | .Constant .. => true
  | .Name .. => true
  | _ => false
theorem base_simple {o : Expr} {name : Str} {env : Env} {t : Sem Value} (h : simpleE o = true) : attributeBase o name env t = t := by
  cases o <;> first | rfl | cases h
theorem ev_met1 {o e : Expr} {name : Str} {T id : String} {apos pos : Pos} {op : V → V → Option V} (ho : simpleE o = true) (hp : plainE e = true) (hline : (apos.endLine == pos.line) = true)
    (pa : PlainAttrs T) (slot : PySem.Slot T name id) (hty : typeOf (.builtin id) = pure (.type "method_descriptor")) (h1 : Ev Φ (eval o Φ.fx.env) d1) (h2 : Ev Φ (eval e Φ.fx.env) d2) {ok : V → Bool}
    (hrecv : ∀ (s : Shared) v x, ok x = true → Φ.rp s.heap v x → s.TypeIs v T ∧ ∀ a, v = .ref a → ∃ ob, s.heap.get? a = some ob ∧ ob.dict = none)
    (hop : ∀ (s : Shared) u v x y z, Inv Φ s → Φ.rp s.heap u x → Φ.rp s.heap v y → op x y = some z → Φ.wp (call (.builtin id) [u, v]) (Φ.Gives s z) s) :
    Ev Φ (eval (.Call (.Attribute o name apos) [e] [] pos) Φ.fx.env) (fun K => d1 fun x => ok x = true ∧ d2 fun y => okK (op x y) K) := fun K s hd I E => by
  refine wpAny_Call_method (base_simple ho) ?_ hline pa slot hty ?_
  · rw [star_plain hp]; rfl
  refine wpAny_mono (h1 _ s hd I E) (fun ov s₁ ⟨B, k, x, ⟨hx, hd2⟩, r1⟩ => ?_) fun _ _ z => z
  have I₁ := I.keep B k
  obtain ⟨hT, hdd⟩ := hrecv s₁ ov x hx r1
  refine ⟨hT, hdd, callWith_builtin ?_ ?_⟩
  · rw [star_plain hp]; rfl
  refine args_ok (qs := [(e, d2)]) (K := fun ys => okK (one ys (op x)) K) (fun q m => by cases List.mem_singleton.mp m; exact ⟨hp, h2⟩) hd2 I₁ fun vs ys s₂ I₂ k₂ hy rs => okK_elim hy fun z e kz => ?_
  refine one_elim (C := fun vs => wpAny _ _ (call (.builtin id) ([ov] ++ vs) []) _ _ s₂) e rs fun v y r2 e => ?_
  exact wpAny_mono (step I₂ kz (hop s₂ ov v x y z I₂ (r1.keep k₂) r2 e) E) (fun _ _ p => (p.lift k₂).lift k) fun _ _ z => z
theorem ev_join {o e : Expr} {apos pos : Pos} (ho : simpleE o = true) (hp : plainE e = true) (hline : (apos.endLine == pos.line) = true) (h1 : Ev Φ (eval o Φ.fx.env) d1) (h2 : Ev Φ (eval e Φ.fx.env) d2) :
    Ev Φ (eval (.Call (.Attribute o "join" apos) [e] [] pos) Φ.fx.env) (fun K => d1 fun x => isStr x = true ∧ d2 fun y => okK (opN .join [x, y]) K) :=
  ev_met1 (op := fun x y => opN .join [x, y]) ho hp hline PySem.F.plainAttrs_str PySem.F.slot_str_join PySem.F.type_str_join h1 h2
    (fun s v x hx r => by
      cases x with
      | str t => exact r.str_elim (C := fun v => s.TypeIs v "str" ∧ ∀ a, v = .ref a → ∃ o, s.heap.get? a = some o ∧ o.dict = none) fun tk => ⟨typeIs_str _ _ _, fun _ q => nomatch q⟩
      | _ => cases hx)
    fun s u v x y z I ru rv e => strO_elim (f := fun sep => listO y fun l => (strsL l).bind fun ss => if (ss.map List.length).sum + ss.length * sep.length ≤ szLine then some (text (joinL sep ss)) else none) (C := fun x => Φ.rp s.heap u x → Φ.wp (call (.builtin "str.join") [u, v]) (Φ.Gives s z) s) e
      (fun t e ru => listO_elim (C := fun y => Φ.rp s.heap v y → Φ.wp (call (.builtin "str.join") [u, v]) (Φ.Gives s z) s) e (fun l e rv => (Option.bind_eq_some_iff.mp e).elim fun ss ⟨h, e⟩ => if_elim e fun hz => join_ok h hz ru rv) rv) ru
theorem ev_count {o e : Expr} {apos pos : Pos} (ho : simpleE o = true) (hp : plainE e = true) (hline : (apos.endLine == pos.line) = true) (h1 : Ev Φ (eval o Φ.fx.env) d1) (h2 : Ev Φ (eval e Φ.fx.env) d2) :
    Ev Φ (eval (.Call (.Attribute o "count" apos) [e] [] pos) Φ.fx.env) (fun K => d1 fun x => isList x = true ∧ d2 fun y => okK (opN .count [x, y]) K) :=
  ev_met1 (op := fun x y => opN .count [x, y]) ho hp hline PySem.F.plainAttrs_list PySem.F.slot_list_count PySem.F.type_list_count h1 h2
    (fun s v x hx r => by
      cases x with
      | list l => exact r.list_elim (C := fun v => s.TypeIs v "list" ∧ ∀ a, v = .ref a → ∃ o, s.heap.get? a = some o ∧ o.dict = none) fun a o vs n hb ha hc hd hl => ⟨⟨_, ha, hc.1⟩, fun a q => by cases q; exact ⟨_, ha, hc.2⟩⟩
      | _ => cases hx)
    fun s u v x y z I ru rv e => listO_elim (f := fun l => if (okEq y && okEq (.list l)) = true then some (PyData.int (l.countP fun z => PyData.eqv z y)) else none) (C := fun x => Φ.rp s.heap u x → Φ.wp (call (.builtin "list.count") [u, v]) (Φ.Gives s z) s) e (fun l e ru => if_elim e fun q => count_ok I q ru rv) ru
end
end Mine
end

noncomputable section
set_option maxRecDepth 100000
set_option linter.unusedVariables false
namespace Mine
open PySem PySem.Calls PyProof.Rows PySem.W

structure Feed (g : Gl) (A : Around) (T : Expr) (I : Addr) (fp wr : List Addr) (vals : List Value) (l0 l : List V) (St : Nat → Heap → Prop) : Prop where
  sub : ∀ b ∈ wr, b ∈ fp
  frame : ∀ i h h', St i h → (∀ b ∈ fp, ∀ o, h.get? b = some o → h'.get? b = some o) → St i h'
  live : ∀ i h b, St i h → b ∈ fp → Live h b
  item : ∀ i x (s : Shared) bad (Q : Value → Shared → Prop) (E : Value → Shared → Prop), l[i]? = some x → St i s.heap → RpAll g bad s.heap vals l0 → (∀ a, bad a → Live s.heap a) → (∀ b ∈ wr, bad b) →
    (∀ v h' tk, St (i + 1) h' → (∀ b o, b ∉ wr → s.heap.get? b = some o → h'.get? b = some o) → Rp g bad h' v x → Q v { s with heap := h', toks := tk }) →
    wpAny (model g.prog g.w) A (pyNext (.ref I)) (fun r s₁ => ∃ v, r = some v ∧ wpAny (model g.prog g.w) A (letOwnedTupleGo T (.ref I) v) (fun _ s₂ => Q v s₂) E s₁) E s
  done : ∀ (s : Shared) (Q : Shared → Prop) (E : Value → Shared → Prop), St l.length s.heap → (∀ h' tk, (∀ b o, b ∉ wr → s.heap.get? b = some o → h'.get? b = some o) → Q { s with heap := h', toks := tk }) →
    wpAny (model g.prog g.w) A (pyNext (.ref I)) (fun r s₁ => r = none ∧ Q s₁) E s
  self : ∀ i (s : Shared) (Q : Value → Shared → Prop) (E : Value → Shared → Prop), St i s.heap → Q (.ref I) s → wpAny (model g.prog g.w) A (pyIter (.ref I)) Q E s
noncomputable def GoesOn (I : Addr) (h : Heap) : Prop := ∃ o n vs, h.get? I = some o ∧ o.cls = .type n ∧ o.data = .fields vs ∧
  ["enumerate", "zip", "dict_itemiterator", "dict_reverseitemiterator", "odict_iterator", "itertools.zip_longest", "itertools.pairwise"].contains n = false
theorem letOwned_ok {M : Model} {A : Around} {E : Value → Shared → Prop} {s : Shared} {T : Expr} {I : Addr} {v : Value} {Q : Unit → Shared → Prop} (go : GoesOn I s.heap) (h : Q () s) : wpAny M A (letOwnedTupleGo T (.ref I) v) Q E s := by
  obtain ⟨o, n, vs, ho, hc, hd, hn⟩ := go
  unfold letOwnedTupleGo
  split
  · cases v with
    | ref a =>
      refine wpAny_bind (wpAny_load ho ?_)
      rw [hc, hd]
      simp only [hn, Bool.false_and, Bool.false_eq_true, if_false]
      exact wpAny_pure h
    | _ => exact wpAny_pure h
  · cases v with
    | ref a =>
      refine wpAny_bind (wpAny_load ho ?_)
      rw [hc, hd]
      simp only [hn, Bool.false_and, Bool.false_eq_true, if_false]
      exact wpAny_pure h
    | _ => exact wpAny_pure h
  · exact wpAny_pure h
section
variable {g : Gl} {A : Around} {T : Expr} {I : Addr} {fp wr : List Addr} {n : Nat} {P : Nat → Value → Prop} {St : Nat → Heap → Prop} {vals : List Value} {l0 l : List V}
theorem Feed.ofWalks (W : Walks g.prog g.w A I fp wr n P St) (hn : l.length = n) (hlive : ∀ i h b, St i h → b ∈ fp → Live h b) (hgo : ∀ i h, St i h → GoesOn I h)
    (hP : ∀ i x v h bad, l[i]? = some x → P i v → RpAll g bad h vals l0 → Rp g bad h v x) : Feed g A T I fp wr vals l0 l St where
  sub := W.sub
  frame := W.frame
  live := hlive
  item := fun i x s bad Q E hx hst hv hb hw hQ => W.item i s _ _ (hn ▸ (List.getElem?_eq_some_iff.mp hx).1) hst fun v h' tk hp hst' hk => ⟨v, rfl, letOwned_ok (hgo _ _ hst') (hQ v h' tk hst' hk (hP i x v h' bad hx hp (hv.map fun b o e nb => ⟨nb, hk b o (fun m => nb (hw b m)) e⟩)))⟩
  done := fun s Q E hst hQ => W.done s _ _ (hn ▸ hst) fun h' tk hk => ⟨rfl, hQ h' tk hk⟩
  self := W.self
theorem live2 {h : Heap} {a c b : Addr} (ha : Live h a) (hc : Live h c) (m : b ∈ [a, c]) : Live h b := by
  rcases List.mem_cons.mp m with rfl | m
  · exact ha
  · cases List.mem_singleton.mp m; exact hc
theorem feed_list (hh : A.handled = none) (I ax : Addr) (hne : ax ≠ I) (items : Array Value) (l : List V) (hl : items.size = l.length) :
    Feed g A T I [I, ax] [I] items.toList l l (fun i h => h.IsListIter I ax i ∧ h.IsList ax items) :=
  Feed.ofWalks (Walks.list hh I ax hne items) hl.symm (fun i h b st => live2 ⟨_, st.1.choose_spec.1⟩ ⟨_, st.2.choose_spec.1⟩)
    (fun i h st => by obtain ⟨o', e', c, d⟩ := st.1; exact ⟨_, _, _, e', c, d, by decide⟩)
    fun i x v h bad hx hv r => by
      obtain ⟨v', e, rr⟩ := r.get hx
      rw [Array.getElem?_toList, hv] at e
      cases e; exact rr
theorem feed_tuple (hh : A.handled = none) (I ax : Addr) (hne : ax ≠ I) (items : Array Value) (l : List V) (hl : items.size = l.length) :
    Feed g A T I [I, ax] [I] items.toList l l (fun i h => h.IsTupleIter I ax i ∧ h.IsTuple ax items) :=
  Feed.ofWalks (Walks.tuple hh I ax hne items) hl.symm (fun i h b st => live2 ⟨_, st.1.choose_spec.1⟩ ⟨_, st.2.choose_spec.1⟩)
    (fun i h st => by obtain ⟨o', e', c, d⟩ := st.1; exact ⟨_, _, _, e', c, d, by decide⟩)
    fun i x v h bad hx hv r => by
      obtain ⟨v', e, rr⟩ := r.get hx
      rw [Array.getElem?_toList, hv] at e
      cases e; exact rr
theorem feed_str (nm : String) (hnm : nm = "str_ascii_iterator" ∨ nm = "str_iterator") (I : Addr) (x : Str) (t : Tok) (W : Walks g.prog g.w A I [I] [I] x.cps.size (SignAt x) (fun i h => h.IsStrIter I nm x t i)) :
    Feed g A T I [I] [I] [] [] (charsV x.cps.toList) (fun i h => h.IsStrIter I nm x t i) :=
  Feed.ofWalks W (by unfold charsV; rw [List.length_map, Array.length_toList])
    (fun i h b st hb => by cases List.mem_singleton.mp hb; exact ⟨_, st.choose_spec.1⟩)
    (fun i h st => by obtain ⟨o', e', c, d⟩ := st; exact ⟨_, _, _, e', c, d, by rcases hnm with rfl | rfl <;> decide⟩)
    fun i y v h bad hx hv r => by
      obtain ⟨c, u, hc, rfl⟩ := hv
      unfold charsV at hx
      rw [List.getElem?_map, Array.getElem?_toList, hc] at hx
      cases hx
      exact .text rfl
theorem feed_range (hh : A.handled = none) (I : Addr) (a b : Int) : Feed g A T I [I] [I] [] [] (rangeL a b) (fun i h => IsRangeIter h I (a + (i : Nat) * 1) (((b - a).toNat : Int) - (i : Nat)) 1) :=
  Feed.ofWalks (Walks.range hh I a 1 (b - a).toNat) (by unfold rangeL; rw [List.length_map, List.length_range])
    (fun i h b st hb => by cases List.mem_singleton.mp hb; exact ⟨_, st⟩)
    (fun i h st => ⟨_, _, _, st, rfl, rfl, by decide⟩)
    fun i x v h bad hx hv r => by
      obtain ⟨t, rfl⟩ := hv
      unfold rangeL at hx
      rw [List.getElem?_map] at hx
      obtain ⟨j, hj, rfl⟩ := Option.map_eq_some_iff.mp hx
      rw [List.getElem?_range (by have := (List.getElem?_eq_some_iff.mp hj).1; rwa [List.length_range] at this)] at hj
      cases hj
      rw [Int.mul_one]
      exact .int _ _
end

noncomputable def FeedAt (Φ : Ct) (T : Expr) (st : Bool) (s₀ s₂ : Shared) (it : Value) (l : List V) : Prop :=
  ∃ I fp wr vals l0 St, it = .ref I ∧ Feed Φ.fx.g Φ.fx.A T I fp wr vals l0 l St ∧ St 0 s₂.heap ∧ Φ.rps s₀.heap vals l0 ∧ (∀ b ∈ wr, s₀.heap.get? b = none) ∧ (∀ b ∈ fp, s₀.heap.get? b = none ∨ (st = true → ¬ Φ.bad b)) ∧ l.length ≤ szLine
noncomputable def EvSrc (Φ : Ct) (T : Expr) (st : Bool) (iter : Expr) (d : (List V → Prop) → Prop) : Prop := ∀ K s, d K → Inv Φ s → ∀ (Q : Value → Shared → Prop) (E : Value → Shared → Prop),
  (∀ l s₀ it s₂, K l → Inv Φ s₀ → Keeps s.heap s₀.heap → Grown s₀ s₂ → FeedAt Φ T st s₀ s₂ it l → Q it s₂) →
  wpAny (model Φ.fx.g.prog Φ.fx.g.w) Φ.fx.A (eval iter Φ.fx.env) (fun x s₁ => wpAny (model Φ.fx.g.prog Φ.fx.g.w) Φ.fx.A (pyIter x) Q E s₁) E s

section
variable {Φ : Ct} {s : Shared} {v : Value} {x : V} {l : List V} {T : Expr} {st : Bool} {d : DV} {E : Value → Shared → Prop}
theorem ne_size {b : Addr} {o : Obj} (e : s.heap.get? b = some o) : b ≠ s.heap.objs.size := Nat.ne_of_lt (Heap.lt_size e)
theorem iter_list {a : Addr} {o : Obj} {vs : Array Value} {n : Nat} (I : Inv Φ s) (hz : l.length ≤ szLine) (hb : st = true → ¬ Φ.bad a) (ha : s.heap.get? a = some o) (hc : o.cls = .type "list") (hd : o.data = .seq vs n) (hl : Φ.rps s.heap vs.toList l) :
    wpAny (model Φ.fx.g.prog Φ.fx.g.w) Φ.fx.A (pyIter (.ref a)) (fun it s' => Grown s s' ∧ FeedAt Φ T st s s' it l) E s := by
  have hL : s.heap.IsList a vs := ⟨_, ha, hc, _, hd⟩
  refine wpAny_pyIter_list hL ⟨Grown.push s _ s.toks, _, _, _, _, _, _, rfl, feed_list I.ok.hand _ a (ne_size ha) vs l (all_size hl), ⟨⟨_, Heap.get?_push_size _ rfl, rfl, rfl⟩, hL.push _⟩, hl, fun b q => ?_, fun b q => ?_, hz⟩
  · cases List.mem_singleton.mp q; exact size_none _
  · rcases List.mem_cons.mp q with rfl | q
    · exact .inl (size_none _)
    · cases List.mem_singleton.mp q; exact .inr hb
theorem iter_e (I : Inv Φ s) (e : seqV x = some l) (r : Φ.rp s.heap v x) : wpAny (model Φ.fx.g.prog Φ.fx.g.w) Φ.fx.A (pyIter v) (fun it s' => Grown s s' ∧ FeedAt Φ T st s s' it l) E s := by
  refine seqV_elim (C := fun x l => Φ.rp s.heap v x → wpAny (model Φ.fx.g.prog Φ.fx.g.w) Φ.fx.A (pyIter v) (fun it s' => Grown s s' ∧ FeedAt Φ T st s s' it l) E s) e (fun l hz r => ?_) (fun l hz r => ?_) (fun t hz r => ?_) r
  · exact r.list_elim fun a o vs n hb ha hc hd hl => iter_list I hz (fun _ => hb) ha hc.1 hd hl
  · refine r.tuple_elim fun a o vs n hb ha hc hd hl => ?_
    have hL : s.heap.IsTuple a vs := ⟨_, ha, hc, _, hd⟩
    refine wpAny_pyIter_tuple hL ⟨Grown.push s _ s.toks, _, _, _, _, _, _, rfl, feed_tuple I.ok.hand _ a (ne_size ha) vs l (all_size hl), ⟨⟨_, Heap.get?_push_size _ rfl, rfl, rfl⟩, hL.at fun o e => Heap.get?_push_of_some _ e⟩, hl, fun b q => ?_, fun b q => ?_, hz⟩
    · cases List.mem_singleton.mp q; exact size_none _
    · rcases List.mem_cons.mp q with rfl | q
      · exact .inl (size_none _)
      · cases List.mem_singleton.mp q; exact .inr fun _ => hb
  · refine r.str_elim fun tk => ?_
    have mk : ∀ nm (hnm : nm = "str_ascii_iterator" ∨ nm = "str_iterator") (o : Obj), Walks Φ.fx.g.prog Φ.fx.g.w Φ.fx.A s.heap.objs.size [s.heap.objs.size] [s.heap.objs.size] t.cps.size (SignAt t) (fun i h => h.IsStrIter s.heap.objs.size nm t tk i) → (s.heap.push o).IsStrIter s.heap.objs.size nm t tk 0 →
        Grown s { s with heap := s.heap.push o } ∧ FeedAt Φ T st s { s with heap := s.heap.push o } (.ref s.heap.objs.size) (charsV t.cps.toList) := fun nm hnm o W st =>
      ⟨Grown.push s _ s.toks, _, _, _, _, _, _, rfl, feed_str nm hnm _ t tk W, st, .nil, fun b q => by cases List.mem_singleton.mp q; exact size_none _, fun b q => by cases List.mem_singleton.mp q; exact .inl (size_none _), by unfold charsV; rw [List.length_map]; exact hz⟩
    cases ha : t.cps.all (· < 128)
    · exact wpAny_pyIter_wide ha (mk _ (.inr rfl) _ (Walks.strWide I.ok.hand _ t tk) ⟨_, Heap.get?_push_size _ rfl, rfl, rfl⟩)
    · exact wpAny_pyIter_ascii ha (mk _ (.inl rfl) _ (Walks.strAscii I.ok.hand _ t tk) ⟨_, Heap.get?_push_size _ rfl, rfl, rfl⟩)
theorem src_e {e : Expr} (h : Ev Φ (eval e Φ.fx.env) d) : EvSrc Φ T st e (fun K => d fun x => okK (seqV x) K) := fun K s hd I Q E hQ =>
  wpAny_mono (h _ s hd I E) (fun v s₁ ⟨B, k, x, hx, r⟩ => okK_elim hx fun l e kl => wpAny_mono (iter_e (I.keep B k) e r) (fun it s₂ p => hQ l s₁ it s₂ kl (I.keep B k) k p.1 p.2) fun _ _ z => z) fun _ _ z => z
theorem own_some {G : Gs} {k : Nat} {l : List V} (e : ownLO G k = some l) : getSlot G k = .ownL l := by
  unfold ownLO at e
  split at e
  · cases e; assumption
  · cases e
theorem src_own {n : Str} {k : Nat} {pos : Pos} (hx : Φ.fx.ρ.lookup n = some k) (hn : okName n = true) : EvSrc Φ T false (.Name n pos) (fun K => okK (ownLO Φ.G k) fun l => okK (fitL l l) K) := fun K s hd I Q E hQ => okK_elim hd fun l e hk => okK_elim hk fun l' e' kl => by
  refine fit_elim (C := fun l' => K l' → _) e' (fun hz kl => ?_) kl
  refine own_read (C := fun _ => True) (sl := .ownL l) hx hn I (own_some e) id (fun a u ha ow => ?_) E
  obtain ⟨rfl, o, vs, n, ho, hc, hd, hl⟩ := ow
  exact wpAny_mono (iter_list (st := false) (T := T) I hz (fun q => nomatch q) ho hc.1 hd hl) (fun it s₂ p => hQ l s it s₂ kl I (.refl _) p.1 p.2) fun _ _ z => z
theorem rOk_of {i : Int} (h : rOk i = true) : -(2 ^ 62) ≤ i ∧ i < 2 ^ 62 := by
  have := Nat.le_of_ble_eq_true h
  omega
theorem iter_range {a b : Int} {r : Addr} {t u w : Tok} {s₀ : Shared} (I : Inv Φ s₀) (h1 : rOk a = true ∧ rOk b = true) (hz : (rangeL a b).length ≤ szLine) (hr : IsRange s.heap r a b 1 t u w) (gr : Grown s₀ s) :
    wpAny (model Φ.fx.g.prog Φ.fx.g.w) Φ.fx.A (pyIter (.ref r)) (fun it s' => Grown s₀ s' ∧ FeedAt Φ T st s₀ s' it (rangeL a b)) E s := by
  have qa := rOk_of h1.1
  have qb := rOk_of h1.2
  refine wpAny_pyIter_range hr (small_one qa.1 qa.2 qb.1 qb.2) ?_
  have n0 : s₀.heap.get? s.heap.objs.size = none := none_of gr.keeps.live (size_none _)
  refine ⟨gr.trans (Grown.push s _ s.toks), _, _, _, _, _, _, rfl, feed_range I.ok.hand _ a b, ?_, .nil, fun c hc => by cases List.mem_singleton.mp hc; exact n0, fun c hc => by cases List.mem_singleton.mp hc; exact .inl n0, hz⟩
  have e1 : a + ((0 : Nat) : Int) * 1 = a := by simp
  have e2 : ((b - a).toNat : Int) - ((0 : Nat) : Int) = Builtin.Range.rangeSize a b 1 := by rw [rangeSize_one]; split <;> omega
  show IsRangeIter _ _ (a + ((0 : Nat) : Int) * 1) (((b - a).toNat : Int) - ((0 : Nat) : Int)) 1
  rw [e1, e2]
  exact Heap.get?_push_size _ rfl
noncomputable abbrev IterOf (Φ : Ct) (T : Expr) (st : Bool) (s : Shared) (E : Value → Shared → Prop) (F : String) (l : List V) (vs : List Value) : Prop :=
  wpAny (model Φ.fx.g.prog Φ.fx.g.w) Φ.fx.A (call (.type F) vs) (fun z s₁ => wpAny (model Φ.fx.g.prog Φ.fx.g.w) Φ.fx.A (pyIter z) (fun it s' => Grown s s' ∧ FeedAt Φ T st s s' it l) E s₁) E s
theorem src_call {f : Str} {F : String} {fp pos : Pos} {qs : List (Expr × DV)} {op : List V → Option V} (hx : glob Φ.fx.env.scope.names f = true) (hF : bltNames.lookup f = some (.type F)) (hq : ∀ q ∈ qs, plainE q.1 = true ∧ Good1 Φ q)
    (hop : ∀ s vs xs z l E, Inv Φ s → Φ.rps s.heap vs xs → op xs = some z → seqV z = some l → IterOf Φ T st s E F l vs) :
    EvSrc Φ T st (.Call (.Name f fp) (qs.map Prod.fst) [] pos) (fun K => manyV (qs.map Prod.snd) fun xs => okK (op xs) fun z => okK (seqV z) K) := fun K s hd I Q E hQ => by
  show wpAny _ _ (eval (.Name f fp) Φ.fx.env >>= fun F => callWith pos F [] (backTo pos (starEach (qs.map Prod.fst) Φ.fx.env)) []) _ _ s
  refine wpAny_bind (name_blt I hx hF ?_ E)
  refine PySem.callWith_type (back_any (star_false fun q m => (hq q m).1)) (args_ok hq hd I fun vs xs s₁ I₁ k₁ hx rs => okK_elim hx fun z e hz => okK_elim hz fun l el kl => ?_)
  exact wpAny_mono (hop s₁ vs xs z l E I₁ rs e el) (fun z s₂ p => wpAny_mono p (fun it s₃ p => hQ l s₁ it s₃ kl I₁ k₁ p.1 p.2) fun _ _ z => z) fun _ _ z => z
theorem rangeO_elim {a b : Int} {z : V} (e : rangeO a b = some z) (el : seqV z = some l) {C : List V → Prop} (k : rOk a = true ∧ rOk b = true → (rangeL a b).length ≤ szLine → C (rangeL a b)) : C l :=
  ifo_elim e fun h1 e => fit_elim (C := fun z => seqV z = some l → C l) e (fun hz el => fit_elim (C := C) el fun _ => k h1 hz) el
theorem src_range {fp pos : Pos} {qs : List (Expr × DV)} (hx : glob Φ.fx.env.scope.names "range" = true) (hq : ∀ q ∈ qs, plainE q.1 = true ∧ Good1 Φ q) :
    EvSrc Φ T st (.Call (.Name "range" fp) (qs.map Prod.fst) [] pos) (fun K => manyV (qs.map Prod.snd) fun xs => okK (opN .range xs) fun z => okK (seqV z) K) := by
  refine src_call (F := "range") hx rfl hq fun s vs xs z l E I rs e el => ?_
  cases rs with
  | nil => cases e
  | cons r rs =>
    cases rs with
    | nil => exact intO_elim (f := fun b => rangeO 0 b) (C := fun x => Φ.rp s.heap _ x → IterOf Φ T st s E "range" l [_]) e (fun b e r => r.int_elim (C := fun v => IterOf Φ T st s E "range" l [v]) fun t => rangeO_elim (C := fun l => IterOf Φ T st s E "range" l [.int b t]) e el fun h1 hz => call_range_1 (iter_range I h1 hz (IsRange.new ..) (Grown.push s _ _))) r
    | cons r' rs =>
      cases rs with
      | nil => exact int2_ok (C := fun v u => IterOf Φ T st s E "range" l [v, u]) e r r' fun a b t t' e => rangeO_elim (C := fun l => IterOf Φ T st s E "range" l [.int a t, .int b t']) e el fun h1 hz => call_range_2 (iter_range I h1 hz (IsRange.new ..) (Grown.push s _ _))
      | cons _ _ => cases e
end
end Mine
end

noncomputable section
set_option maxRecDepth 100000
set_option linter.unusedVariables false
namespace Mine
open PySem PySem.Calls PyProof.Rows PySem.W

noncomputable def SqAt (h : Heap) (k : Bool) (l : Addr) (xs : Array Value) : Prop := match k with
  | true => h.IsList l xs
  | false => h.IsTuple l xs
noncomputable def SqIt (h : Heap) (k : Bool) (it l : Addr) (i : Nat) : Prop := match k with
  | true => h.IsListIter it l i
  | false => h.IsTupleIter it l i
theorem SqAt.at {h h' : Heap} {k : Bool} {l : Addr} {xs : Array Value} (x : SqAt h k l xs) (e : ∀ o, h.get? l = some o → h'.get? l = some o) : SqAt h' k l xs := by
  cases k
  · exact Heap.IsTuple.at x e
  · exact Heap.IsList.at x e
theorem SqIt.at {h h' : Heap} {k : Bool} {it l : Addr} {i : Nat} (x : SqIt h k it l i) (e : ∀ o, h.get? it = some o → h'.get? it = some o) : SqIt h' k it l i := by
  cases k
  · exact Heap.IsTupleIter.at x e
  · exact Heap.IsListIter.at x e
theorem SqIt.lt {h : Heap} {k : Bool} {it l : Addr} {i : Nat} (x : SqIt h k it l i) : Live h it ∧ it < h.objs.size := by
  cases k
  · obtain ⟨o, e, _⟩ := x; exact ⟨⟨o, e⟩, Heap.lt_size e⟩
  · obtain ⟨o, e, _⟩ := x; exact ⟨⟨o, e⟩, Heap.lt_size e⟩
theorem SqAt.live {h : Heap} {k : Bool} {l : Addr} {xs : Array Value} (x : SqAt h k l xs) : Live h l := by
  cases k
  · obtain ⟨o, e, _⟩ := x; exact ⟨o, e⟩
  · obtain ⟨o, e, _⟩ := x; exact ⟨o, e⟩
section
variable {prog : Program} {w : World} {A : Around} {E : Value → Shared → Prop} {s : Shared}
theorem nextOf_item {k : Bool} {it l : Addr} {i : Nat} {items} {x : Value} {Q : Value → Shared → Prop} (hit : SqIt s.heap k it l i) (hl : SqAt s.heap k l items) (hx : items[i]? = some x)
    (hQ : ∀ h', SqIt h' k it l (i + 1) → Heap.SameBut it s.heap h' → Q x { s with heap := h' }) : wpAny (model prog w) A (Builtin.SmallTypes.nextOf (.ref it)) Q E s := by
  cases k with
  | true => exact wpAny_nextOf_list_item hit hl hx hQ
  | false =>
    obtain ⟨o, ho, hc, hd⟩ := id hit
    obtain ⟨ol, hol, _, nl, hdl⟩ := hl
    have hT : s.TypeIs (.ref it) "tuple_iterator" := ⟨o, ho, hc⟩
    unfold Builtin.SmallTypes.nextOf
    refine wpAny_bind (wpAny_callSpecial?_slot (name := Str.ofString "__next__") hT PySem.F.slot_tuple_iterator_next
      (wpAny_call_entry PySem.F.slot_tuple_iterator_next hT PySem.F.entry_tuple_iterator_next ?_ (PySem.F.args_tuple_iterator_next_1 _)))
    show wpAny _ _ (field (.ref it) 0 >>= _) _ _ s
    refine wpAny_bind (wpAny_field ho hd (x := .ref l) rfl ?_)
    show wpAny _ _ (if (Value.ref l == Value.none) = true then _ else _) _ _ s
    rw [if_neg (show ¬ ((Value.ref l == Value.none) = true) from Bool.false_ne_true)]
    show wpAny _ _ (field (.ref it) 1 >>= _) _ _ s
    refine wpAny_bind (wpAny_field ho hd (x := .int i 0) rfl ?_)
    show wpAny _ _ (seqItems? (.ref l) >>= _) _ _ s
    refine wpAny_bind (wpAny_seqItems hol hdl ?_)
    simp only [Int.toNat_natCast, hx]
    refine wpAny_bind (wpAny_setField ho hd (by simp) (wpAny_pure ⟨x, rfl, wpAny_pure (hQ _ ?_ (Heap.SameBut.update ..))⟩))
    exact ⟨_, Heap.get?_update_self _ ho (Obj.isFreed_of_fields (Obj.data_mapFields hd _)), (Obj.cls_mapFields ..).trans hc, by rw [Obj.data_mapFields hd]; simp [rawInt]⟩
theorem nextOf_end {k : Bool} {it l : Addr} {i : Nat} {items} {Q : Value → Shared → Prop} (hh : A.handled = none) (hit : SqIt s.heap k it l i) (hl : SqAt s.heap k l items) (hx : items[i]? = none)
    (hE : ∀ h' e, Heap.ExtBut it s.heap h' → (∃ o, h'.get? e = some o ∧ o.cls = .type "StopIteration") → E (.ref e) { s with heap := h' }) : wpAny (model prog w) A (Builtin.SmallTypes.nextOf (.ref it)) Q E s := by
  cases k with
  | true => exact wpAny_nextOf_list_end hh hit hl hx hE
  | false =>
    obtain ⟨o, ho, hc, hd⟩ := id hit
    obtain ⟨ol, hol, _, nl, hdl⟩ := hl
    have hT : s.TypeIs (.ref it) "tuple_iterator" := ⟨o, ho, hc⟩
    unfold Builtin.SmallTypes.nextOf
    refine wpAny_bind (wpAny_callSpecial?_slot (name := Str.ofString "__next__") hT PySem.F.slot_tuple_iterator_next
      (wpAny_call_entry PySem.F.slot_tuple_iterator_next hT PySem.F.entry_tuple_iterator_next ?_ (PySem.F.args_tuple_iterator_next_1 _)))
    show wpAny _ _ (field (.ref it) 0 >>= _) _ _ s
    refine wpAny_bind (wpAny_field ho hd (x := .ref l) rfl ?_)
    show wpAny _ _ (if (Value.ref l == Value.none) = true then _ else _) _ _ s
    rw [if_neg (show ¬ ((Value.ref l == Value.none) = true) from Bool.false_ne_true)]
    show wpAny _ _ (field (.ref it) 1 >>= _) _ _ s
    refine wpAny_bind (wpAny_field ho hd (x := .int i 0) rfl ?_)
    show wpAny _ _ (seqItems? (.ref l) >>= _) _ _ s
    refine wpAny_bind (wpAny_seqItems hol hdl ?_)
    simp only [Int.toNat_natCast, hx]
    refine wpAny_bind (wpAny_rule (wpAny_bind (wpAny_setField ho hd (by simp) ?_)))
    show wpAny _ _ (newExc (.type "StopIteration") [] >>= _) _ _ _
    refine wpAny_bind ?_
    simp only [newExc, newTuple]
    refine wpAny_bind (wpAny_newObj_type ?_ (by size_fits))
    refine wpAny_bind (m := firstArgMember _ _) (wpAny_of_eq (a := Value.none) (by first | rfl | (simp only [firstArgMember]; rfl)) ?_)
    refine wpAny_newObj_type ?_ (by size_fits)
    simp only [raiseNew]
    refine wpAny_bind (wpAny_handled ?_)
    first | rw [show A.in1.handled = none from hh] | rw [hh]
    refine wpAny_bind (wpAny_pure (wpAny_throw ?_))
    exact hE _ _ (((Heap.SameBut.update ..).extBut.push _).push _) ⟨_, Heap.get?_push_size _ rfl, rfl⟩

theorem zipnext_item {c1 c2 : Bool} {z TI TO i1 i2 l1 l2 : Addr} {k1 k2 : Nat} {xs ys : Array Value} {x y a b : Value} {Q : Value → Shared → Prop} (D : ZipApart z TI TO i1 i2 l1 l2)
    (hz : IsZip s.heap z TI TO .none) (hTI : IsPair s.heap TI (.ref i1) (.ref i2)) (hTO : IsPair s.heap TO a b)
    (h1 : SqIt s.heap c1 i1 l1 k1) (h2 : SqIt s.heap c2 i2 l2 k2) (hl1 : SqAt s.heap c1 l1 xs) (hl2 : SqAt s.heap c2 l2 ys) (hx : xs[k1]? = some x) (hy : ys[k2]? = some y)
    (hQ : ∀ h', IsZip h' z TI TO (rawInt s.heap.objs.size) → IsPair h' TO x y → SqIt h' c1 i1 l1 (k1 + 1) → SqIt h' c2 i2 l2 (k2 + 1) → IsPair h' s.heap.objs.size x y →
      (∀ c o, c ≠ z → c ≠ TO → c ≠ i1 → c ≠ i2 → s.heap.get? c = some o → h'.get? c = some o) → Q (.ref s.heap.objs.size) { s with heap := h' }) :
    wpAny (model prog w) A (Builtin.«zip.__next__» ⟨[.ref z], []⟩) (fun fin s' => ∃ v, fin = .done (.ret v) ∧ Q v s') E s := by
  show wpAny _ _ (field (.ref z) 2 >>= _) _ _ _
  refine wpAny_bind (wpAny_field hz rfl (x := .bool false) rfl ?_)
  show wpAny _ _ (field (.ref z) 3 >>= _) _ _ _
  refine wpAny_bind (wpAny_field hz rfl (x := .ref TI) rfl ?_)
  refine wpAny_bind (wpAny_seqItems hTI rfl ?_)
  show wpAny _ _ (Builtin.SmallTypes.ownedTupleIsFree (.ref z) >>= _) _ _ _
  refine wpAny_bind ?_
  unfold Builtin.SmallTypes.ownedTupleIsFree
  refine wpAny_bind (wpAny_field hz rfl (x := .none) rfl (wpAny_pure ?_))
  simp only [if_true]
  refine wpAny_bind (wpAny_rule ?_)
  refine wpAny_bind (wpAny_field hz rfl (x := .ref TO) rfl ?_)
  refine wpAny_bind (wpAny_setField_rec hz (by simp) fun h₁ hz₁ hs₁ => ?_)
  replace hz₁ : IsZip h₁ z TI TO .ellipsis := hz₁
  refine wpAny_bind ?_
  simp only [List.zipIdx_cons, List.zipIdx_nil, List.forIn_cons, List.forIn_nil]
  refine wpAny_bind (wpAny_bind (wpAny_onRaise ?_))
  show wpAny _ _ (Builtin.SmallTypes.nextOf (.ref i1) >>= _) _ _ _
  refine wpAny_bind (nextOf_item (h1.at fun o e => hs₁.extBut _ o D.i1z e) (hl1.at fun o e => hs₁.extBut _ o D.l1z e) hx fun h₂ h1₂ hs₂ => wpAny_pure ?_)
  have hTO₂ : IsPair h₂ TO a b := hs₂.extBut _ _ D.TOi1 (hs₁.extBut _ _ D.TOz hTO)
  refine wpAny_bind (wpAny_seqItems hTO₂ rfl ?_)
  refine wpAny_bind (wpAny_updateSeq_pair hTO₂ fun h₃ hTO₃ hs₃ => ?_)
  replace hTO₃ : IsPair h₃ TO x b := hTO₃
  refine wpAny_bind (wpAny_letGo (wpAny_pure ?_))
  refine wpAny_bind (wpAny_bind (wpAny_onRaise ?_))
  show wpAny _ _ (Builtin.SmallTypes.nextOf (.ref i2) >>= _) _ _ _
  refine wpAny_bind (nextOf_item (h2.at fun o e => hs₃.extBut _ o D.TOi2.symm (hs₂.extBut _ o D.i12.symm (hs₁.extBut _ o D.i2z e)))
    (hl2.at fun o e => hs₃.extBut _ o D.l2TO (hs₂.extBut _ o D.l2i1 (hs₁.extBut _ o D.l2z e))) hy fun h₄ h2₄ hs₄ => wpAny_pure ?_)
  have hTO₄ : IsPair h₄ TO x b := hs₄.extBut _ _ D.TOi2 hTO₃
  refine wpAny_bind (wpAny_seqItems hTO₄ rfl ?_)
  refine wpAny_bind (wpAny_updateSeq_pair hTO₄ fun h₅ hTO₅ hs₅ => ?_)
  replace hTO₅ : IsPair h₅ TO x y := hTO₅
  refine wpAny_bind (wpAny_letGo (wpAny_pure (wpAny_pure ?_)))
  refine wpAny_bind (wpAny_seqItems hTO₅ rfl ?_)
  refine wpAny_bind (wpAny_newTuple ?_)
  have hsz : h₅.objs.size = s.heap.objs.size := by rw [hs₅.1, hs₄.1, hs₃.1, hs₂.1, hs₁.1]
  have hz₅ : IsZip h₅ z TI TO .ellipsis := hs₅.extBut _ _ D.TOz.symm (hs₄.extBut _ _ D.i2z.symm (hs₃.extBut _ _ D.TOz.symm (hs₂.extBut _ _ D.i1z.symm hz₁)))
  have hk₅ : ∀ c o, c ≠ z → c ≠ TO → c ≠ i1 → c ≠ i2 → s.heap.get? c = some o → h₅.get? c = some o := fun c o c1 c2 c3 c4 e =>
    hs₅.extBut _ _ c2 (hs₄.extBut _ _ c4 (hs₃.extBut _ _ c2 (hs₂.extBut _ _ c3 (hs₁.extBut _ _ c1 e))))
  have h1₅ : SqIt h₅ c1 i1 l1 (k1 + 1) := h1₂.at fun o e => hs₅.extBut _ o D.TOi1.symm (hs₄.extBut _ o D.i12 (hs₃.extBut _ o D.TOi1.symm e))
  have h2₅ : SqIt h₅ c2 i2 l2 (k2 + 1) := h2₄.at fun o e => hs₅.extBut _ o D.TOi2.symm e
  have hzlt : z < h₅.objs.size := Heap.lt_size hz₅
  show wpAny _ _ (Builtin.SmallTypes.ownedTupleHandOut (.ref z) (.ref h₅.objs.size) >>= _) _ _ _
  refine wpAny_bind ?_
  unfold Builtin.SmallTypes.ownedTupleHandOut
  have hz₆ : IsZip (h₅.push { cls := .type "tuple", data := .seq #[x, y] }) z TI TO .ellipsis := Heap.get?_push_of_some _ hz₅
  refine wpAny_bind (wpAny_setField_rec hz₆ (by simp) fun h₇ hz₇ hs₇ => ?_)
  replace hz₇ : IsZip h₇ z TI TO (rawInt h₅.objs.size) := hz₇
  refine wpAny_setField_rec hz₇ (by simp) fun h₈ hz₈ hs₈ => ?_
  replace hz₈ : IsZip h₈ z TI TO (rawInt h₅.objs.size) := hz₈
  have up : ∀ c o, c ≠ z → h₅.get? c = some o → h₈.get? c = some o := fun c o c1 e => hs₈.extBut _ _ c1 (hs₇.extBut _ _ c1 (Heap.get?_push_of_some _ e))
  have hT₈ : IsPair h₈ h₅.objs.size x y := hs₈.extBut _ _ (Nat.ne_of_gt hzlt) (hs₇.extBut _ _ (Nat.ne_of_gt hzlt) (Heap.get?_push_size _ rfl))
  rw [hsz] at hz₈ hT₈
  refine wpAny_pure ⟨_, rfl, ?_⟩
  show Q (.ref h₅.objs.size) _
  rw [hsz]
  exact hQ h₈ hz₈ (up _ _ D.TOz hTO₅) (h1₅.at fun o e => up _ o D.i1z e) (h2₅.at fun o e => up _ o D.i2z e) hT₈ fun c o c1 c2 c3 c4 e => up c o c1 (hk₅ c o c1 c2 c3 c4 e)
theorem zipnext_end {c1 c2 : Bool} {z TI TO i1 i2 l1 l2 : Addr} {k1 k2 : Nat} {xs ys : Array Value} {a b : Value} {Q : Fin → Shared → Prop} (hh : A.handled = none) (D : ZipApart z TI TO i1 i2 l1 l2)
    (hz : IsZip s.heap z TI TO .none) (hTI : IsPair s.heap TI (.ref i1) (.ref i2)) (hTO : IsPair s.heap TO a b)
    (h1 : SqIt s.heap c1 i1 l1 k1) (h2 : SqIt s.heap c2 i2 l2 k2) (hl1 : SqAt s.heap c1 l1 xs) (hl2 : SqAt s.heap c2 l2 ys) (hend : xs[k1]? = none ∨ ys[k2]? = none)
    (hE : ∀ h' e, (∀ c o, c ≠ z → c ≠ TO → c ≠ i1 → c ≠ i2 → s.heap.get? c = some o → h'.get? c = some o) → (∃ o, h'.get? e = some o ∧ o.cls = .type "StopIteration") → E (.ref e) { s with heap := h' }) :
    wpAny (model prog w) A (Builtin.«zip.__next__» ⟨[.ref z], []⟩) Q E s := by
  show wpAny _ _ (field (.ref z) 2 >>= _) _ _ _
  refine wpAny_bind (wpAny_field hz rfl (x := .bool false) rfl ?_)
  show wpAny _ _ (field (.ref z) 3 >>= _) _ _ _
  refine wpAny_bind (wpAny_field hz rfl (x := .ref TI) rfl ?_)
  refine wpAny_bind (wpAny_seqItems hTI rfl ?_)
  show wpAny _ _ (Builtin.SmallTypes.ownedTupleIsFree (.ref z) >>= _) _ _ _
  refine wpAny_bind ?_
  unfold Builtin.SmallTypes.ownedTupleIsFree
  refine wpAny_bind (wpAny_field hz rfl (x := .none) rfl (wpAny_pure ?_))
  simp only [if_true]
  refine wpAny_bind (wpAny_rule ?_)
  refine wpAny_bind (wpAny_field hz rfl (x := .ref TO) rfl ?_)
  refine wpAny_bind (wpAny_setField_rec hz (by simp) fun h₁ hz₁ hs₁ => ?_)
  replace hz₁ : IsZip h₁ z TI TO .ellipsis := hz₁
  refine wpAny_bind ?_
  simp only [List.zipIdx_cons, List.zipIdx_nil, List.forIn_cons, List.forIn_nil]
  refine wpAny_bind (wpAny_bind (wpAny_onRaise ?_))
  show wpAny _ _ (Builtin.SmallTypes.nextOf (.ref i1) >>= _) _ _ _
  cases hx : xs[k1]? with
  | none =>
    refine wpAny_bind (nextOf_end hh (h1.at fun o e => hs₁.extBut _ o D.i1z e) (hl1.at fun o e => hs₁.extBut _ o D.l1z e) hx fun h₂ e hs₂ he => ?_)
    obtain ⟨oe, hoe, hce⟩ := he
    have hz₂ : IsZip h₂ z TI TO .ellipsis := hs₂ _ _ D.i1z.symm hz₁
    have hez : e ≠ z := fun x => by subst x; rw [hz₂] at hoe; cases hoe; simp at hce
    refine wpAny_setField_rec hz₂ (by simp) fun h₃ _ hs₃ => hE h₃ e (fun c o c1 _ c3 _ x => hs₃.extBut _ _ c1 (hs₂ _ _ c3 (hs₁.extBut _ _ c1 x))) ⟨oe, hs₃.extBut _ _ hez hoe, hce⟩
  | some x =>
    have hy : ys[k2]? = none := by rcases hend with h | h; rw [hx] at h; cases h; exact h
    refine wpAny_bind (nextOf_item (h1.at fun o e => hs₁.extBut _ o D.i1z e) (hl1.at fun o e => hs₁.extBut _ o D.l1z e) hx fun h₂ h1₂ hs₂ => wpAny_pure ?_)
    have hTO₂ : IsPair h₂ TO a b := hs₂.extBut _ _ D.TOi1 (hs₁.extBut _ _ D.TOz hTO)
    refine wpAny_bind (wpAny_seqItems hTO₂ rfl ?_)
    refine wpAny_bind (wpAny_updateSeq_pair hTO₂ fun h₃ hTO₃ hs₃ => ?_)
    refine wpAny_bind (wpAny_letGo (wpAny_pure ?_))
    refine wpAny_bind (wpAny_bind (wpAny_onRaise ?_))
    show wpAny _ _ (Builtin.SmallTypes.nextOf (.ref i2) >>= _) _ _ _
    refine wpAny_bind (nextOf_end hh (h2.at fun o e => hs₃.extBut _ o D.TOi2.symm (hs₂.extBut _ o D.i12.symm (hs₁.extBut _ o D.i2z e)))
      (hl2.at fun o e => hs₃.extBut _ o D.l2TO (hs₂.extBut _ o D.l2i1 (hs₁.extBut _ o D.l2z e))) hy fun h₄ e hs₄ he => ?_)
    obtain ⟨oe, hoe, hce⟩ := he
    have hz₄ : IsZip h₄ z TI TO .ellipsis := hs₄ _ _ D.i2z.symm (hs₃.extBut _ _ D.TOz.symm (hs₂.extBut _ _ D.i1z.symm hz₁))
    have hez : e ≠ z := fun x => by subst x; rw [hz₄] at hoe; cases hoe; simp at hce
    refine wpAny_setField_rec hz₄ (by simp) fun h₅ _ hs₅ => hE h₅ e (fun c o c1 c2 c3 c4 x => hs₅.extBut _ _ c1 (hs₄ _ _ c4 (hs₃.extBut _ _ c2 (hs₂.extBut _ _ c3 (hs₁.extBut _ _ c1 x))))) ⟨oe, hs₅.extBut _ _ hez hoe, hce⟩
end

structure ZipSt (c1 c2 : Bool) (z TI TO i1 i2 l1 l2 : Addr) (xs ys : Array Value) (i : Nat) (h : Heap) : Prop where
  z : IsZip h z TI TO .none
  ti : IsPair h TI (.ref i1) (.ref i2)
  to : ∃ a b, IsPair h TO a b
  h1 : SqIt h c1 i1 l1 i
  h2 : SqIt h c2 i2 l2 i
  hl1 : SqAt h c1 l1 xs
  hl2 : SqAt h c2 l2 ys
theorem zipL_get {l r : List V} {i : Nat} {x : V} (e : (zipL l r)[i]? = some x) : ∃ a b, l[i]? = some a ∧ r[i]? = some b ∧ x = .tuple [a, b] := by
  unfold zipL at e
  rw [List.getElem?_zipWith] at e
  cases h1 : l[i]? <;> cases h2 : r[i]? <;> rw [h1, h2] at e <;> cases e
  exact ⟨_, _, rfl, rfl, rfl⟩
theorem zipL_length (l r : List V) : (zipL l r).length = min l.length r.length := List.length_zipWith
theorem feed_zip {g : Gl} {A : Around} (hh : A.handled = none) {elts : List Expr} {kk : Nat} {pos : Pos} {c1 c2 : Bool} {z TI TO i1 i2 l1 l2 : Addr} (D : ZipApart z TI TO i1 i2 l1 l2) (xs ys : Array Value) (la lb : List V) (hla : xs.size = la.length) (hlb : ys.size = lb.length) :
    Feed g A (.Tuple elts kk pos) z [z, TI, TO, i1, i2, l1, l2] [z, TO, i1, i2] (xs.toList ++ ys.toList) (la ++ lb) (zipL la lb) (ZipSt c1 c2 z TI TO i1 i2 l1 l2 xs ys) where
  sub := fun c hc => by simp at hc ⊢; rcases hc with rfl | rfl | rfl | rfl <;> simp
  frame := fun i h h' st hk => ⟨hk z (by simp) _ st.z, hk TI (by simp) _ st.ti, let ⟨a, b, e⟩ := st.to; ⟨a, b, hk TO (by simp) _ e⟩, st.h1.at fun o e => hk i1 (by simp) o e, st.h2.at fun o e => hk i2 (by simp) o e,
      st.hl1.at fun o e => hk l1 (by simp) o e, st.hl2.at fun o e => hk l2 (by simp) o e⟩
  live := fun i h b st hb => by
    obtain ⟨a, b', hto⟩ := st.to
    simp only [List.mem_cons, List.not_mem_nil, or_false] at hb
    rcases hb with rfl | rfl | rfl | rfl | rfl | rfl | rfl
    · exact ⟨_, st.z⟩
    · exact ⟨_, st.ti⟩
    · exact ⟨_, hto⟩
    · exact st.h1.lt.1
    · exact st.h2.lt.1
    · exact st.hl1.live
    · exact st.hl2.live
  item := fun i x s bad Q E hx st hv hb hw hQ => by
    obtain ⟨xa, xb, ha, hbb, rfl⟩ := zipL_get hx
    have h1 := (List.getElem?_eq_some_iff.mp ha).1
    have h2 := (List.getElem?_eq_some_iff.mp hbb).1
    obtain ⟨va, eva, ra⟩ := hv.get (i := i) (x := xa) (by rw [List.getElem?_append_left h1]; exact ha)
    obtain ⟨vb, evb, rb⟩ := hv.get (i := la.length + i) (x := xb) (by rw [List.getElem?_append_right (by omega)]; simpa using hbb)
    rw [List.getElem?_append_left (by simp; omega)] at eva
    rw [List.getElem?_append_right (by simp; omega)] at evb
    simp only [Array.getElem?_toList, Array.length_toList, hla, Nat.add_sub_cancel_left] at eva evb
    obtain ⟨a, b, hto⟩ := st.to
    have hT : s.TypeIs (.ref z) "zip" := ⟨_, st.z, rfl⟩
    unfold pyNext
    refine wpAny_bind (wpAny_attempt (wpAny_callSpecial?_slot (name := Str.ofString "__next__") hT PySem.F.slot_zip_next
      (wpAny_call_entry PySem.F.slot_zip_next hT PySem.F.entry_zip_next
        (zipnext_item D st.z st.ti hto st.h1 st.h2 st.hl1 st.hl2 eva evb fun h' a1 a2 a3 a4 a5 hk => wpAny_pure ?_) (PySem.F.args_zip_next_1 _))))
    refine ⟨_, rfl, wpAny_letOwnedTupleGo_zip a1 fun h'' hz' hs' => ?_⟩
    have up : ∀ c o, c ∉ [z, TO, i1, i2] → s.heap.get? c = some o → h''.get? c = some o := fun c o hc e => by
      simp only [List.mem_cons, List.not_mem_nil, or_false, not_or] at hc
      exact hs'.extBut _ _ hc.1 (hk c o hc.1 hc.2.1 hc.2.2.1 hc.2.2.2 e)
    have hnew : s.heap.objs.size ≠ z := Nat.ne_of_gt (Heap.lt_size st.z)
    have kb : MapK bad bad s.heap h'' := fun c o e nb => ⟨nb, up c o (fun m => nb (hw c m)) e⟩
    refine hQ _ h'' s.toks ⟨hz', ?_, ⟨_, _, hs'.extBut _ _ D.TOz a2⟩, a3.at fun o e => hs'.extBut _ o D.i1z e, a4.at fun o e => hs'.extBut _ o D.i2z e, ?_, ?_⟩ up (.tuple (fun q => by obtain ⟨o, e⟩ := hb _ q; rw [size_none] at e; cases e) (hs'.extBut _ _ hnew a5) rfl rfl ?_)
    · exact hs'.extBut _ _ D.TIz (hk _ _ D.TIz D.TITO D.TIi1 D.TIi2 st.ti)
    · exact st.hl1.at fun o e => hs'.extBut _ o D.l1z (hk _ o D.l1z D.l1TO D.l1i1 D.l1i2 e)
    · exact st.hl2.at fun o e => hs'.extBut _ o D.l2z (hk _ o D.l2z D.l2TO D.l2i1 D.l2i2 e)
    · exact .cons (ra.map kb) (.cons (rb.map kb) .nil)
  done := fun s Q E st hQ => by
    obtain ⟨a, b, hto⟩ := st.to
    have hT : s.TypeIs (.ref z) "zip" := ⟨_, st.z, rfl⟩
    unfold pyNext
    refine wpAny_bind (wpAny_attempt (wpAny_callSpecial?_slot (name := Str.ofString "__next__") hT PySem.F.slot_zip_next
      (wpAny_call_entry PySem.F.slot_zip_next hT PySem.F.entry_zip_next (zipnext_end hh D st.z st.ti hto st.h1 st.h2 st.hl1 st.hl2 ?_ fun h' e hk he => ?_) (PySem.F.args_zip_next_1 _))))
    · rw [zipL_length]
      rcases Nat.le_total la.length lb.length with q | q
      · left; rw [Nat.min_eq_left q, ← hla]; simp
      · right; rw [Nat.min_eq_right q, ← hlb]; simp
    · obtain ⟨o, ho, hc⟩ := he
      refine wpAny_bind (wpAny_isInstance (T := "StopIteration") (b := true) ⟨o, ho, hc⟩ isSubtype_stop ?_)
      refine wpAny_pure ⟨rfl, hQ _ s.toks fun c o hc e => ?_⟩
      simp only [List.mem_cons, List.not_mem_nil, or_false, not_or] at hc
      exact hk c o hc.1 hc.2.1 hc.2.2.1 hc.2.2.2 e
  self := fun i s Q E st hQ => wpAny_pyIter_zip st.z hQ
section
variable {A : Around} {E : Value → Shared → Prop} {s : Shared}
noncomputable def itObj (c : Bool) (l : Addr) : Obj := { cls := .type (if c then "list_iterator" else "tuple_iterator"), data := .fields #[.ref l, .int 0 0] }
theorem itObj_at {h : Heap} {c : Bool} {l i : Addr} (e : h.get? i = some (itObj c l)) : SqIt h c i l 0 := by
  cases c
  · exact ⟨_, e, rfl, rfl⟩
  · exact ⟨_, e, rfl, rfl⟩
theorem pyIter_sq {prog : Program} {w : World} {c : Bool} {l : Addr} {xs : Array Value} {Q : Value → Shared → Prop} (h : SqAt s.heap c l xs) (hQ : Q (.ref s.heap.objs.size) { s with heap := s.heap.push (itObj c l) }) : wpAny (model prog w) A (pyIter (.ref l)) Q E s := by
  cases c
  · exact wpAny_pyIter_tuple h hQ
  · exact wpAny_pyIter_list h hQ
noncomputable def zH1 (h : Heap) (c1 : Bool) (l1 : Addr) : Heap := h.push (itObj c1 l1)
noncomputable def zH2 (h : Heap) (c1 c2 : Bool) (l1 l2 : Addr) : Heap := (zH1 h c1 l1).push (itObj c2 l2)
noncomputable def zH3 (h : Heap) (c1 c2 : Bool) (l1 l2 : Addr) : Heap := (zH2 h c1 c2 l1 l2).push { cls := .type "tuple", data := .seq #[.ref h.objs.size, .ref (zH1 h c1 l1).objs.size] }
noncomputable def zH4 (h : Heap) (c1 c2 : Bool) (l1 l2 : Addr) : Heap := (zH3 h c1 c2 l1 l2).push { cls := .type "tuple", data := .seq #[.none, .none] }
noncomputable def zH5 (h : Heap) (c1 c2 : Bool) (l1 l2 : Addr) : Heap := (zH4 h c1 c2 l1 l2).push { cls := .type "zip", data := .fields #[.none, .bool false, .bool false, .ref (zH2 h c1 c2 l1 l2).objs.size, .ref (zH3 h c1 c2 l1 l2).objs.size] }
theorem zip_meets (c1 c2 : Bool) (l1 l2 : Addr) (xs ys : Array Value) :
    Meets (Builtin.«zip.__new__» ⟨[.type "zip", .ref l1, .ref l2], []⟩) (fun _ R s => SqAt s.heap c1 l1 xs ∧ SqAt s.heap c2 l2 ys ∧
      R (.ok (.ret (.ref (zH4 s.heap c1 c2 l1 l2).objs.size))) { s with heap := zH5 s.heap c1 c2 l1 l2 }) :=
  .of_wp fun prog w A R s h => by
    obtain ⟨hp, g, d, tk, os⟩ := s; obtain ⟨hl1, hl2, h⟩ := h
    have hsub := sub_zip
    have hL1 : SqAt (Shared.heap ⟨hp, g, d, tk, os⟩) c1 l1 xs := hl1
    have hL2 : SqAt (Shared.heap ⟨hp.push (itObj c1 l1), g, d, tk, os⟩) c2 l2 ys := hl2.at fun o e => Heap.get?_push_of_some _ e
    wp_walk using pyIter_sq hL1, pyIter_sq hL2
    exact ⟨_, rfl, h⟩
theorem make_zip {prog : Program} {w : World} {c1 c2 : Bool} {l1 l2 : Addr} {xs ys : Array Value} {Q : Value → Shared → Prop} (hl1 : SqAt s.heap c1 l1 xs) (hl2 : SqAt s.heap c2 l2 ys)
    (h : ∀ h', IsZip h' (s.heap.objs.size + 4) (s.heap.objs.size + 2) (s.heap.objs.size + 3) .none → IsPair h' (s.heap.objs.size + 2) (.ref s.heap.objs.size) (.ref (s.heap.objs.size + 1)) →
      IsPair h' (s.heap.objs.size + 3) .none .none → SqIt h' c1 s.heap.objs.size l1 0 → SqIt h' c2 (s.heap.objs.size + 1) l2 0 →
      (∀ c o, s.heap.get? c = some o → h'.get? c = some o) → Q (.ref (s.heap.objs.size + 4)) { s with heap := h' }) :
    wpAny (model prog w) A (call (.type "zip") [.ref l1, .ref l2]) Q E s := by
  refine callType_new PySem.F.called_zip (by decide) (PySem.F.typeCall_zip_2 _ _) (PySem.F.newCall_zip_2 _ _) (fun obj => PySem.F.args_object_init_3 obj _ _) PySem.F.entry_zip_new
    (zip_meets c1 c2 l1 l2 xs ys) ⟨hl1, hl2, ?_⟩
  have z1 : (zH1 s.heap c1 l1).objs.size = s.heap.objs.size + 1 := Heap.size_push ..
  have z2 : (zH2 s.heap c1 c2 l1 l2).objs.size = s.heap.objs.size + 2 := by unfold zH2; rw [Heap.size_push, z1]
  have z3 : (zH3 s.heap c1 c2 l1 l2).objs.size = s.heap.objs.size + 3 := by unfold zH3; rw [Heap.size_push, z2]
  have z4 : (zH4 s.heap c1 c2 l1 l2).objs.size = s.heap.objs.size + 4 := by unfold zH4; rw [Heap.size_push, z3]
  have g5 : (zH5 s.heap c1 c2 l1 l2).get? (zH4 s.heap c1 c2 l1 l2).objs.size = some _ := Heap.get?_push_size _ rfl
  have g4 : (zH5 s.heap c1 c2 l1 l2).get? (zH3 s.heap c1 c2 l1 l2).objs.size = some _ := Heap.get?_push_of_some _ (Heap.get?_push_size _ rfl)
  have g3 : (zH5 s.heap c1 c2 l1 l2).get? (zH2 s.heap c1 c2 l1 l2).objs.size = some _ := Heap.get?_push_of_some _ (Heap.get?_push_of_some _ (Heap.get?_push_size _ rfl))
  have g2 : (zH5 s.heap c1 c2 l1 l2).get? (zH1 s.heap c1 l1).objs.size = some _ := Heap.get?_push_of_some _ (Heap.get?_push_of_some _ (Heap.get?_push_of_some _ (Heap.get?_push_size _ rfl)))
  have g1 : (zH5 s.heap c1 c2 l1 l2).get? s.heap.objs.size = some _ := Heap.get?_push_of_some _ (Heap.get?_push_of_some _ (Heap.get?_push_of_some _ (Heap.get?_push_of_some _ (Heap.get?_push_size _ rfl))))
  show _ ∧ _
  rw [z2, z3, z4] at g5
  rw [z1, z2] at g3
  rw [z3] at g4
  rw [z1] at g2
  rw [z4]
  exact ⟨⟨_, g5, rfl⟩, h _ g5 g3 g4 (itObj_at g1) (itObj_at g2) fun c o x =>
    Heap.get?_push_of_some _ (Heap.get?_push_of_some _ (Heap.get?_push_of_some _ (Heap.get?_push_of_some _ (Heap.get?_push_of_some _ x))))⟩
end
theorem apartN (n a b : Nat) (h1 : a < n) (h2 : b < n) : ZipApart (n + 4) (n + 2) (n + 3) n (n + 1) a b := by
  constructor <;> exact fun h => by (have h' : (_ : Nat) = (_ : Nat) := h); omega
section
variable {Φ : Ct} {E : Value → Shared → Prop} {s : Shared} {st : Bool}
theorem sq_of {v : Value} {x : V} {l : List V} (e : pairO x = some l) (r : Φ.rp s.heap v x) : ∃ c a xs, v = .ref a ∧ SqAt s.heap c a xs ∧ Φ.rps s.heap xs.toList l ∧ xs.size = l.length ∧ ¬ Φ.bad a ∧ l.length ≤ szLine :=
  pair_elim (C := fun x l => Φ.rp s.heap v x → ∃ c a xs, v = .ref a ∧ SqAt s.heap c a xs ∧ Φ.rps s.heap xs.toList l ∧ xs.size = l.length ∧ ¬ Φ.bad a ∧ l.length ≤ szLine) e
    (fun l hz r => r.list_elim fun a o vs n hb ha hc hd hl => ⟨true, a, vs, rfl, ⟨_, ha, hc.1, _, hd⟩, hl, all_size hl, hb, hz⟩) (fun l hz r => r.tuple_elim fun a o vs n hb ha hc hd hl => ⟨false, a, vs, rfl, ⟨_, ha, hc, _, hd⟩, hl, all_size hl, hb, hz⟩) r
theorem iter_zip {elts : List Expr} {kk : Nat} {pos : Pos} {v1 v2 : Value} {x y : V} {la lb : List V} (I : Inv Φ s) (e1 : pairO x = some la) (e2 : pairO y = some lb) (r1 : Φ.rp s.heap v1 x) (r2 : Φ.rp s.heap v2 y) : IterOf Φ (.Tuple elts kk pos) st s E "zip" (zipL la lb) [v1, v2] := by
  obtain ⟨c1, a1, xs, rfl, h1, rr1, len1, nb1, sz1⟩ := sq_of e1 r1
  obtain ⟨c2, a2, ys, rfl, h2, rr2, len2, nb2, _⟩ := sq_of e2 r2
  refine make_zip h1 h2 fun h' hz hti hto hi1 hi2 hk => wpAny_pyIter_zip hz ⟨⟨hk, rfl, rfl⟩, ?_⟩
  have fresh : ∀ k, s.heap.get? (s.heap.objs.size + k) = none := fun k => by
    cases e : s.heap.get? (s.heap.objs.size + k) with
    | none => rfl
    | some o => exact absurd (Heap.lt_size e) (Nat.not_lt.mpr (Nat.le_add_right _ _))
  have lt1 : a1 < s.heap.objs.size := by obtain ⟨o, e⟩ := h1.live; exact Heap.lt_size e
  have lt2 : a2 < s.heap.objs.size := by obtain ⟨o, e⟩ := h2.live; exact Heap.lt_size e
  have D : ZipApart (s.heap.objs.size + 4) (s.heap.objs.size + 2) (s.heap.objs.size + 3) s.heap.objs.size (s.heap.objs.size + 1) a1 a2 := apartN _ _ _ lt1 lt2
  refine ⟨_, _, _, _, _, _, rfl, feed_zip I.ok.hand (c1 := c1) (c2 := c2) D xs ys la lb len1 len2, ⟨hz, hti, ⟨_, _, hto⟩, hi1, hi2, h1.at fun o e => hk _ o e, h2.at fun o e => hk _ o e⟩, rr1.append rr2, fun b hb => ?_, fun b hb => ?_, ?_⟩
  · simp only [List.mem_cons, List.not_mem_nil, or_false] at hb
    rcases hb with rfl | rfl | rfl | rfl
    · exact fresh 4
    · exact fresh 3
    · exact fresh 0
    · exact fresh 1
  · simp only [List.mem_cons, List.not_mem_nil, or_false] at hb
    rcases hb with rfl | rfl | rfl | rfl | rfl | rfl | rfl
    · exact .inl (fresh 4)
    · exact .inl (fresh 2)
    · exact .inl (fresh 3)
    · exact .inl (fresh 0)
    · exact .inl (fresh 1)
    · exact .inr fun _ => nb1
    · exact .inr fun _ => nb2
  · rw [zipL_length]; omega
theorem src_zip {fp pos : Pos} {qs : List (Expr × DV)} {elts : List Expr} {kk : Nat} {tp : Pos} (hx : glob Φ.fx.env.scope.names "zip" = true) (hq : ∀ q ∈ qs, plainE q.1 = true ∧ Good1 Φ q) :
    EvSrc Φ (.Tuple elts kk tp) st (.Call (.Name "zip" fp) (qs.map Prod.fst) [] pos) (fun K => manyV (qs.map Prod.snd) fun xs => okK (opN .zip xs) fun z => okK (seqV z) K) :=
  src_call (F := "zip") hx rfl hq fun s vs xs z l E I rs e el => two_elim (C := IterOf Φ (.Tuple elts kk tp) st s E "zip" l) e rs fun v u x y r1 r2 e => (Option.bind_eq_some_iff.mp e).elim fun la ⟨h1, e⟩ => map_elim (C := fun z => seqV z = some l → IterOf Φ (.Tuple elts kk tp) st s E "zip" l [v, u]) e (fun lb h2 el => fit_elim (C := fun l => IterOf Φ (.Tuple elts kk tp) st s E "zip" l [v, u]) el fun _ => iter_zip I h1 h2 r1 r2) el
end
end Mine
end

noncomputable section
set_option maxRecDepth 100000
set_option linter.unusedVariables false
namespace Mine
open PySem PySem.Calls PyProof.Rows PySem.W

theorem no_some {α : Type} {x : Option α} {a : α} (h : x = none) (e : x = some a) : False := nomatch h.symm.trans e
noncomputable def PlSet (h : Heap) (p : Pl) (v : Option Value) (h' : Heap) : Prop := match p with
  | .ns a x => (∃ m, h.Ns a m ∧ h'.Ns a (fun y => if y = x then v else m y)) ∧ Heap.SameBut a h h'
  | .cell c => h'.IsCell c v ∧ Heap.SameBut c h h'
  | .off => False
section
variable {Φ Φ' : Ct} {s s' s₀ : Shared} {h h' : Heap}
theorem store_ok {x : Str} {k : Nat} {v : Value} {Q : Unit → Shared → Prop} (I : Inv Φ s) (hx : Φ.fx.ρ.lookup x = some k) (hnf : Φ.fx.env.kindOf x ≠ some .free) (h : ∀ h' tk, PlSet s.heap (Φ.fx.pl k) (some v) h' → Q () { s with heap := h', toks := tk }) : Φ.wp (storeName Φ.fx.env x v) Q s := fun E => by
  obtain ⟨u, pr, _⟩ := I.slot k
  rcases I.ok.vis x k hx with ⟨hl, hp⟩ | ⟨hl, c, hc, hp⟩
  · rw [hp] at pr h
    obtain ⟨m, hns, hv⟩ := pr
    exact wpAny_storeName_local hl hns (fun h' hn' hs' => h h' _ ⟨⟨m, hns, hn'⟩, hs'⟩) (by rw [I.ok.kind]; rfl)
  · rw [hp] at pr h
    rcases hl with hl | hl
    · exact wpAny_storeName_cell I.ok.kind hl hc pr fun h' hc' hs' => h h' s.toks ⟨hc', hs'⟩
    · exact absurd hl hnf
theorem PlSet.addr {p : Pl} {v : Option Value} (ps : PlSet h p v h') : ∃ a, p.addr = some a ∧ Heap.SameBut a h h' ∧ Live h' a := by
  cases p with
  | ns a x => obtain ⟨⟨m, _, hn⟩, hs⟩ := ps; obtain ⟨o, es, ep, ho, _⟩ := hn; exact ⟨a, rfl, hs, ⟨o, ho⟩⟩
  | cell c => obtain ⟨⟨o, ho, hd⟩, hs⟩ := ps; exact ⟨c, rfl, hs, ⟨o, ho⟩⟩
  | off => exact ps.elim
theorem PlSet.self {p : Pl} {v : Option Value} (ps : PlSet h p v h') : PlRead h' p v := by
  cases p with
  | ns a x => obtain ⟨⟨m, _, hn⟩, hs⟩ := ps; exact ⟨_, hn, if_pos rfl⟩
  | cell c => exact ps.1
  | off => exact ps.elim
theorem PlSet.other {p q : Pl} {v u : Option Value} (ps : PlSet h p v h') (hne : q ≠ p) (ap : ∀ a x c, (p = .ns a x ∧ q = .cell c) ∨ (q = .ns a x ∧ p = .cell c) → a ≠ c) (r : PlRead h q u) : PlRead h' q u := by
  cases p with
  | ns a x =>
    obtain ⟨⟨m, hm, hn⟩, hs⟩ := ps
    cases q with
    | ns b y =>
      obtain ⟨m', hm', hu⟩ := r
      by_cases e : b = a
      · subst e
        refine ⟨_, hn, ?_⟩
        rw [if_neg fun q => hne (by rw [q])]
        obtain ⟨o, es, ep, ho, hd, _, hf⟩ := hm
        obtain ⟨o', es', ep', ho', hd', _, hf'⟩ := hm'
        rw [ho] at ho'; cases ho'
        rw [hd] at hd'; cases hd'
        rw [← hf, hf']; exact hu
      · exact ⟨m', hm'.sameBut hs e, hu⟩
    | cell c => obtain ⟨o, ho, hd⟩ := r; exact ⟨o, hs.extBut c o (Ne.symm (ap a x c (.inl ⟨rfl, rfl⟩))) ho, hd⟩
    | off => exact r
  | cell c =>
    obtain ⟨hc, hs⟩ := ps
    cases q with
    | ns b y => obtain ⟨m', hm', hu⟩ := r; exact ⟨m', hm'.sameBut hs (ap b y c (.inr ⟨rfl, rfl⟩)), hu⟩
    | cell d => obtain ⟨o, ho, hd⟩ := r; exact ⟨o, hs.extBut d o (fun q => hne (by rw [q])) ho, hd⟩
    | off => exact r
  | off => exact ps.elim
noncomputable def isI : Slot → Prop
  | .ownI _ => True
  | _ => False
structure Tr (Φ : Ct) (s : Shared) (Φ' : Ct) (s' : Shared) : Prop where
  fx : Φ'.fx = Φ.fx
  keep : ∀ b o, s.heap.get? b = some o → ¬ Φ.own b → s'.heap.get? b = some o
  live : ∀ b, Live s.heap b → Live s'.heap b
  grow : ∀ a, Live s.heap a → Φ'.own a → Φ.own a
  inst : ∀ k a, Φ'.oa k = some a → isI (getSlot Φ'.G k) → Φ.oa k = some a ∧ isI (getSlot Φ.G k)
theorem Tr.refl (Φ : Ct) (s : Shared) : Tr Φ s Φ s := ⟨rfl, fun _ _ e _ => e, fun _ l => l, fun _ _ q => q, fun _ _ e q => ⟨e, q⟩⟩
theorem Tr.trans {Φ₂ Φ₃ : Ct} {s₂ s₃ : Shared} (x : Tr Φ s Φ₂ s₂) (y : Tr Φ₂ s₂ Φ₃ s₃) : Tr Φ s Φ₃ s₃ where
  fx := y.fx.trans x.fx
  keep := fun b o e n => y.keep b o (x.keep b o e n) fun q => n (x.grow b ⟨o, e⟩ q)
  live := fun b l => y.live b (x.live b l)
  grow := fun a l q => x.grow a l (y.grow a (x.live a l) q)
  inst := fun k a e q => (y.inst k a e q).elim fun e q => x.inst k a e q
theorem Tr.of_keeps (k : Keeps s.heap s'.heap) : Tr Φ s Φ s' := ⟨rfl, fun b o e _ => k b o e, fun _ => k.live, fun _ _ q => q, fun _ _ e q => ⟨e, q⟩⟩
theorem Tr.mapK (t : Tr Φ s Φ' s') : MapK Φ.bad Φ'.bad s.heap s'.heap := fun a o e n =>
  ⟨fun b => b.elim (fun b => n (.inl (t.fx ▸ b))) fun b => n (.inr (t.grow a ⟨o, e⟩ b)), t.keep a o e fun q => n (.inr q)⟩
theorem getSlot_self {G : Gs} {k : Nat} {x : Slot} (hk : k < G.length) : getSlot (G.set k x) k = x := by
  unfold getSlot; rw [List.getD_eq_getElem?_getD, List.getElem?_set_self hk]; rfl
theorem getSlot_ne {G : Gs} {k j : Nat} {x : Slot} (h : j ≠ k) : getSlot (G.set k x) j = getSlot G j := by
  unfold getSlot; rw [List.getD_eq_getElem?_getD, List.getD_eq_getElem?_getD, List.getElem?_set_ne (Ne.symm h)]
noncomputable def Ct.put (Φ : Ct) (k : Nat) (oak : Option Addr) (sl : Slot) : Ct := ⟨Φ.fx, fun j => if j = k then oak else Φ.oa j, Φ.G.set k sl⟩
theorem put_own {k : Nat} {oak : Option Addr} {sl : Slot} {a : Addr} (q : (Φ.put k oak sl).own a) : oak = some a ∨ Φ.own a := by
  rcases q with q | ⟨j, q⟩
  · exact .inr (.inl q)
  · by_cases e : j = k
    · exact .inl ((if_pos e).symm.trans q)
    · exact .inr (.inr ⟨j, (if_neg e).symm.trans q⟩)
theorem put_inst {k : Nat} {oak : Option Addr} {sl : Slot} (hon : k < Φ.G.length) (h : isI sl → Φ.oa k = oak ∧ isI (getSlot Φ.G k)) : ∀ j a, (Φ.put k oak sl).oa j = some a → isI (getSlot (Φ.put k oak sl).G j) → Φ.oa j = some a ∧ isI (getSlot Φ.G j) := fun j a e q => by
  have e : (if j = k then oak else Φ.oa j) = some a := e
  have q : isI (getSlot (Φ.G.set k sl) j) := q
  by_cases c : j = k
  · subst c
    rw [getSlot_self hon] at q
    rw [if_pos rfl] at e
    exact ⟨(h q).1.trans e, (h q).2⟩
  · rw [if_neg c] at e
    rw [getSlot_ne c] at q
    exact ⟨e, q⟩
theorem Inv.put {k tk : Nat} {v : Option Value} {sl : Slot} {oak : Option Addr} (I : Inv Φ s₀) (B : Base Φ.fx.g s) (k₀ : Keeps s₀.heap s.heap) (ps : PlSet s.heap (Φ.fx.pl k) v h')
    (so : SlotOk Φ.fx.g (Φ.put k oak sl).bad h' oak v sl) (hnew : ∀ a, oak = some a → s₀.heap.get? a = none ∧ Live h' a) (hni : ¬ isI sl) : Inv (Φ.put k oak sl) { s with heap := h', toks := tk } ∧ Tr Φ s₀ (Φ.put k oak sl) { s with heap := h', toks := tk } := by
  obtain ⟨a, ha, hs, hl⟩ := ps.addr
  have hon : k < Φ.G.length := by
    rw [I.gl]
    refine Nat.lt_of_lt_of_le (Nat.lt_of_not_le fun q => ?_) I.ok.nfs
    rw [I.ok.offs k q] at ha; cases ha
  have hown : Φ.own a := .inl ⟨k, ha⟩
  have kp : ∀ b o, b ≠ a → s₀.heap.get? b = some o → h'.get? b = some o := fun b o n e => hs.extBut b o n (k₀ b o e)
  have live : ∀ b, Live s₀.heap b → Live h' b := fun b ⟨o, e⟩ => (Classical.em (b = a)).elim (fun q => q ▸ hl) fun n => ⟨o, kp b o n e⟩
  have nl : ∀ b, oak = some b → ¬ Live s₀.heap b := fun b e ⟨o, q⟩ => by rw [(hnew b e).1] at q; cases q
  have mk : MapK Φ.bad (Φ.put k oak sl).bad s₀.heap h' := fun b o e n => by
    refine ⟨fun q => ?_, kp b o (fun q => n (.inr (q ▸ hown))) e⟩
    rcases q with q | q
    · exact n (.inl q)
    · exact (put_own q).elim (fun q => nl b q ⟨o, e⟩) fun q => n (.inr q)
  have nonew : ∀ b, Φ.own b → ¬ oak = some b := fun b q e => nl b e (I.new b q).1
  refine ⟨⟨I.ok, ⟨fun b o e => hs.extBut b o (fun q => no_some (I.new a hown).2.1 (q ▸ e)) (B.stays b o e), B.os, B.gens⟩, fun j => ?_, fun b q => ?_, fun i j b e1 e2 => ?_, fun j b e i q => ?_, ?_, fun b q => live b (I.mo b q)⟩,
    ⟨rfl, fun b o e n => kp b o (fun q => n (q ▸ hown)) e, live, fun b l q => (put_own q).elim (fun q => absurd l (nl b q)) id, put_inst hon fun q => absurd q hni⟩⟩
  · by_cases e : j = k
    · subst e
      refine ⟨v, ps.self, ?_⟩
      have e1 : (Φ.put j oak sl).oa j = oak := if_pos rfl
      have e2 : getSlot (Φ.put j oak sl).G j = sl := getSlot_self hon
      rw [e1, e2]; exact so
    · obtain ⟨u, pr, sj⟩ := I.slot j
      have e1 : (Φ.put k oak sl).oa j = Φ.oa j := if_neg e
      have e2 : getSlot (Φ.put k oak sl).G j = getSlot Φ.G j := getSlot_ne e
      rw [e1, e2]
      refine ⟨u, ?_, sj.map mk fun b eb o e => kp b o (fun q => I.off j b eb k (q ▸ ha)) e⟩
      by_cases ho : Φ.fx.pl j = .off
      · show PlRead h' (Φ.fx.pl j) u
        rw [ho] at pr ⊢; exact pr
      · exact ps.other (fun q => e (I.ok.inj j k q ho)) (fun a' x c q => q.elim (fun q => I.ok.apart k j a' x c q.1 q.2) fun q => I.ok.apart j k a' x c q.1 q.2) (pr.keep k₀)
  · rcases put_own q with q | q
    · exact ⟨(hnew b q).2, none_of (fun l => I.base.stays.live l) (hnew b q).1, fun z => nl b q (I.mo b z)⟩
    · obtain ⟨l, n⟩ := I.new b q
      exact ⟨live b l, n⟩
  · have c1 : (if i = k then oak else Φ.oa i) = some b := e1
    have c2 : (if j = k then oak else Φ.oa j) = some b := e2
    by_cases h1 : i = k <;> by_cases h2 : j = k
    · exact h1.trans h2.symm
    · rw [if_pos h1] at c1; rw [if_neg h2] at c2; exact absurd c1 (nonew b (.inr ⟨j, c2⟩))
    · rw [if_neg h1] at c1; rw [if_pos h2] at c2; exact absurd c2 (nonew b (.inr ⟨i, c1⟩))
    · rw [if_neg h1] at c1; rw [if_neg h2] at c2; exact I.inj i j b c1 c2
  · have c : (if j = k then oak else Φ.oa j) = some b := e
    by_cases h1 : j = k
    · rw [if_pos h1] at c; exact nonew b (.inl ⟨i, q⟩) c
    · rw [if_neg h1] at c; exact I.off j b c i q
  · show (Φ.G.set k sl).length = _
    rw [List.length_set]; exact I.gl
theorem Inv.mutate {k tk : Nat} {a : Addr} {u : Value} {sl : Slot} (I : Inv Φ s) (hk : Φ.oa k = some a) (pr : PlRead s.heap (Φ.fx.pl k) (some u)) (hs : Heap.SameBut a s.heap h') (hl : Live h' a) (ow : OwnAt Φ.fx.g Φ.bad h' a u sl) (hsl : ∀ x, sl ≠ .v x) (hsl' : sl ≠ .unset) (hni : isI sl → isI (getSlot Φ.G k)) :
    Inv (Φ.put k (some a) sl) { s with heap := h', toks := tk } ∧ Tr Φ s (Φ.put k (some a) sl) { s with heap := h', toks := tk } := by
  have kp : ∀ b o, b ≠ a → s.heap.get? b = some o → h'.get? b = some o := fun b o n e => hs.extBut b o n e
  have hown : Φ.own a := .inr ⟨k, hk⟩
  have hon : k < Φ.G.length := by
    rw [I.gl]
    refine Nat.lt_of_lt_of_le (Nat.lt_of_not_le fun q => ?_) I.ok.nfs
    rw [I.ok.offs k q] at pr; cases pr
  have eo : (Φ.put k (some a) sl).oa = Φ.oa := funext fun j => (Classical.em (j = k)).elim (fun e => (if_pos e).trans (e ▸ hk.symm)) fun e => if_neg e
  have eb : (Φ.put k (some a) sl).bad = Φ.bad := by unfold Ct.bad Ct.own; rw [eo]; rfl
  have ew : (Φ.put k (some a) sl).own = Φ.own := by unfold Ct.own; rw [eo]; rfl
  have live : ∀ b, Live s.heap b → Live h' b := fun b ⟨o, e⟩ => (Classical.em (b = a)).elim (fun q => q ▸ hl) fun n => ⟨o, kp b o n e⟩
  have mk : MapK Φ.bad Φ.bad s.heap h' := fun b o e n => ⟨n, kp b o (fun q => n (.inr (q ▸ hown))) e⟩
  have plr : ∀ j u, PlRead s.heap (Φ.fx.pl j) u → PlRead h' (Φ.fx.pl j) u := fun j u r => by
    have na : ∀ c, (Φ.fx.pl j).addr = some c → c ≠ a := fun c e q => I.off k a hk j (q ▸ e)
    generalize Φ.fx.pl j = p at r na
    cases p with
    | ns c x => obtain ⟨m, hn, hu⟩ := r; exact ⟨m, hn.at' fun o e => kp c o (na c rfl) e, hu⟩
    | cell c => obtain ⟨o, ho, hd⟩ := r; exact ⟨o, kp c o (na c rfl) ho, hd⟩
    | off => exact r
  refine ⟨⟨I.ok, ⟨fun b o e => kp b o (fun q => no_some (I.new a hown).2.1 (q ▸ e)) (I.base.stays b o e), I.base.os, I.base.gens⟩, fun j => ?_, fun b q => ?_, by rw [eo]; exact I.inj, by rw [eo]; exact I.off, ?_, fun b q => live b (I.mo b q)⟩,
    ⟨rfl, fun b o e n => kp b o (fun q => n (q ▸ hown)) e, live, fun b l q => ew ▸ q, put_inst hon fun q => ⟨hk, hni q⟩⟩⟩
  · rw [eb, eo]
    by_cases e : j = k
    · subst e
      refine ⟨some u, plr j _ pr, ?_⟩
      have e2 : getSlot (Φ.put j (some a) sl).G j = sl := getSlot_self hon
      rw [e2]
      cases sl with
      | unset => exact absurd rfl hsl'
      | v x => exact absurd rfl (hsl x)
      | _ => exact ⟨a, u, hk, rfl, ow⟩
    · obtain ⟨w, r, sj⟩ := I.slot j
      have e2 : getSlot (Φ.put k (some a) sl).G j = getSlot Φ.G j := getSlot_ne e
      rw [e2]
      exact ⟨w, plr j w r, sj.map mk fun b eb o e' => kp b o (fun q => e (I.inj j k a (q ▸ eb) hk)) e'⟩
  · rw [ew] at q
    obtain ⟨l, n⟩ := I.new b q
    exact ⟨live b l, n⟩
  · show (Φ.G.set k sl).length = _
    rw [List.length_set]; exact I.gl
end
end Mine
end

noncomputable section
set_option maxRecDepth 100000
set_option linter.unusedVariables false
namespace Mine
open PySem PySem.Calls PyProof.Rows PySem.W

noncomputable abbrev Ct.wi (Φ : Ct) (oa : Nat → Option Addr) (G : Gs) : Ct := ⟨Φ.fx, oa, G⟩
section
variable {Φ : Ct} {s s' s₁ : Shared} {v : Value} {x : V}
theorem put_val {k tk : Nat} {h' : Heap} (I : Inv Φ s) (ps : PlSet s.heap (Φ.fx.pl k) (some v) h') (r : Φ.rp s.heap v x) : Inv (Φ.put k none (.v x)) { s with heap := h', toks := tk } ∧ Tr Φ s (Φ.put k none (.v x)) { s with heap := h', toks := tk } := by
  obtain ⟨a, ha, hs, _⟩ := ps.addr
  refine Inv.put (oak := none) (sl := .v x) I I.base (.refl _) ps ⟨rfl, v, rfl, r.map fun b o e n => ⟨fun q => ?_, hs.extBut b o (fun q => n (.inr (.inl ⟨k, q ▸ ha⟩))) e⟩⟩ (fun a q => nomatch q) id
  exact n (q.imp id fun (q : (Φ.put k none (.v x)).own b) => (put_own q).elim (fun (z : none = some b) => nomatch z) id)
structure TgtOk (ρ : List (Str × Nat)) (env : Env) (n : Str) (k : Nat) : Prop where
  lk : ρ.lookup n = some k
  nf : env.kindOf n ≠ some .free
theorem tgt1 {n : Str} {k : Nat} {py : Pos} (hT : TgtOk Φ.fx.ρ Φ.fx.env n k) (I : Inv Φ s) (r : Φ.rp s.heap v x) :
    Φ.wp (assign (.Name n py) Φ.fx.env v) (fun _ s' => Inv (Φ.put k none (.v x)) s' ∧ Tr Φ s (Φ.put k none (.v x)) s' ∧ ∀ b o, s.heap.get? b = some o → (Φ.fx.pl k).addr ≠ some b → s'.heap.get? b = some o) s := fun E => by
  rw [arm_assign_Name]
  refine wpAny_bind (wpAny_standAt (wpAny_bindName (store_ok I hT.lk hT.nf (fun h' tk ps => ?_) E)))
  obtain ⟨a, ha, hs, _⟩ := ps.addr
  have q := put_val (tk := tk) I ps r
  exact ⟨q.1, q.2, fun b o e n => hs.extBut b o (fun q => n (q ▸ ha)) e⟩
noncomputable def setAll (ks : List Nat) (xs : List V) (G : Gs) : Gs := (ks.zip xs).foldl (fun G p => G.set p.1 (.v p.2)) G
inductive TgtsOk (ρ : List (Str × Nat)) (env : Env) : List Expr → List Nat → Prop
  | nil : TgtsOk ρ env [] []
  | cons {n : Str} {p : Pos} {k : Nat} {es : List Expr} {ks : List Nat} : TgtOk ρ env n k → TgtsOk ρ env es ks → TgtsOk ρ env (.Name n p :: es) (k :: ks)
theorem tgts {fx : Fx} {es : List Expr} {ks : List Nat} (hT : TgtsOk fx.ρ fx.env es ks) : ∀ {oa : Nat → Option Addr} {G : Gs} {vs : List Value} {xs : List V} {s : Shared}, xs.length = ks.length → Inv ⟨fx, oa, G⟩ s → (Ct.mk fx oa G).rps s.heap vs xs →
    (Ct.mk fx oa G).wp (assignInOrder ((assignEach es fx.env).map (·.2)) vs) (fun _ s' => ∃ oa', Inv ⟨fx, oa', setAll ks xs G⟩ s' ∧ Tr ⟨fx, oa, G⟩ s ⟨fx, oa', setAll ks xs G⟩ s') s := by
  induction hT with
  | nil =>
    intro oa G vs xs s hl I r E
    cases List.length_eq_zero_iff.mp hl
    cases r
    exact wpAny_pure ⟨oa, I, .refl _ _⟩
  | @cons n p k es ks h1 _ ih =>
    intro oa G vs xs s hl I r E
    cases r with
    | nil => cases hl
    | @cons v vs x xs r rs =>
      show wpAny _ _ (holding vs (assign (.Name n p) fx.env v) >>= fun _ => assignInOrder ((assignEach es fx.env).map (·.2)) vs) _ _ _
      refine wpAny_bind (wpAny_holding (wpAny_mono (tgt1 (Φ := ⟨fx, oa, G⟩) h1 I r E) (fun _ s₁ q => ?_) fun _ _ z => z))
      refine wpAny_mono (ih (Nat.succ.inj hl) q.1 (rs.map q.2.1.mapK) E) (fun _ s₂ z => ?_) fun _ _ z => z
      obtain ⟨oa', I', t'⟩ := z
      exact ⟨oa', I', q.2.1.trans t'⟩
theorem tgts_plain {ρ : List (Str × Nat)} {e0 env : Env} {es : List Expr} {ks : List Nat} (hT : TgtsOk ρ e0 es ks) : (assignEach es env).length = ks.length ∧ (assignEach es env).findIdx? (·.1) = none := by
  induction hT with
  | nil => exact ⟨rfl, rfl⟩
  | @cons n p k es ks h1 _ ih =>
    have e : assignEach (.Name n p :: es) env = (false, assign (.Name n p) env) :: assignEach es env := rfl
    rw [e]
    exact ⟨congrArg (· + 1) ih.1, by rw [List.findIdx?_cons, ih.2]; rfl⟩
theorem setMany_some {ks : List Nat} {G G' : Gs} (e : setMany ks G x = some G') {C : V → Gs → Prop} (k : ∀ xs, xs.length = ks.length → C (.tuple xs) (setAll ks xs G)) : C x G' := by
  cases x with
  | tuple xs => exact if_elim e fun h => k xs h
  | _ => cases e
theorem tgtM {es : List Expr} {ks : List Nat} {kk : Nat} {p : Pos} {G' : Gs} (hT : TgtsOk Φ.fx.ρ Φ.fx.env es ks) (I : Inv Φ s) (e : setMany ks Φ.G x = some G') (r : Φ.rp s.heap v x) :
    Φ.wp (assign (.Tuple es kk p) Φ.fx.env v) (fun _ s' => ∃ oa', Inv (Φ.wi oa' G') s' ∧ Tr Φ s (Φ.wi oa' G') s') s := fun E =>
  setMany_some (C := fun x G' => Φ.rp s.heap v x → wpAny _ _ (assign (.Tuple es kk p) Φ.fx.env v) (fun _ s' => ∃ oa', Inv (Φ.wi oa' G') s' ∧ Tr Φ s (Φ.wi oa' G') s') E s) e (fun xs hl r => r.tuple_elim fun a o vs n hb ha hc hd hr => by
    obtain ⟨h1, h2⟩ := tgts_plain (env := Φ.fx.env) hT
    refine wpAny_assign_Tuple I.ok.hand ⟨_, ha, hc, _, hd⟩ (by rw [h1, ← hl]; exact (all_size hr).symm) h2 fun h' he => ?_
    have gr : Grown s { s with heap := h' } := ⟨fun b o e => he b o (Nat.ne_of_lt (Heap.lt_size e)) e, rfl, rfl⟩
    refine wpAny_mono (tgts (oa := Φ.oa) (G := Φ.G) hT hl (I.keep (I.base.grown gr) gr.keeps) (hr.keep gr.keeps) E) (fun _ s₂ ⟨oa', I', t'⟩ => ⟨oa', I', (Tr.of_keeps gr.keeps).trans t'⟩) fun _ _ z => z) r

/-! statements -/
noncomputable def FlOk (Φ : Ct) (h : Heap) (f : Flow) (fl : Option V) : Prop := match fl with
  | none => f = .next
  | some x => ∃ v, f = .ret v ∧ Φ.rp h v x
noncomputable def PostS (Φ : Ct) (s : Shared) (K : Option V → Gs → Prop) (f : Flow) (s' : Shared) : Prop := ∃ oa' G' fl, Inv (Φ.wi oa' G') s' ∧ Tr Φ s (Φ.wi oa' G') s' ∧ FlOk (Φ.wi oa' G') s'.heap f fl ∧ K fl G'
noncomputable def ExB (fx : Fx) (t : Sem Flow) (X : B) : Prop := ∀ oa G K s, X G K → Inv ⟨fx, oa, G⟩ s → (Ct.mk fx oa G).wp t (PostS ⟨fx, oa, G⟩ s K) s
theorem PostS.lift {K : Option V → Gs → Prop} {f : Flow} {oa₁ : Nat → Option Addr} {G₁ : Gs} (p : PostS (Φ.wi oa₁ G₁) s₁ K f s') (t : Tr Φ s (Φ.wi oa₁ G₁) s₁) : PostS Φ s K f s' := by
  obtain ⟨oa', G', fl, I, t', h⟩ := p
  exact ⟨oa', G', fl, I, t.trans t', h⟩
theorem PostS.next {K : Option V → Gs → Prop} {oa' : Nat → Option Addr} {G' : Gs} (I : Inv (Φ.wi oa' G') s') (t : Tr Φ s (Φ.wi oa' G') s') (k : K none G') : PostS Φ s K .next s' := ⟨oa', G', none, I, t, rfl, k⟩
end
section
variable {fx : Fx} {s : Shared}
theorem ex_nil : ExB fx (execs [] fx.env) (fun G K => K none G) := fun oa G K s hd I E => wpAny_execs_nil (.next I (.refl _ _) hd)
theorem ex_cons {st : Stmt} {r : List Stmt} {X Y : B} (h1 : ExB fx (exec st fx.env) X) (h2 : ExB fx (execs r fx.env) Y) : ExB fx (execs (st :: r) fx.env) (fun G K => X G fun fl G' => match fl with | none => Y G' K | some x => K (some x) G') := fun oa G K s hd I E => by
  refine wpAny_execs_cons (wpAny_mono (h1 oa G _ s hd I E) (fun f s₁ ⟨oa₁, G₁, fl, I₁, t₁, hf, hk⟩ => ?_) fun _ _ z => z)
  cases fl with
  | none => cases hf; exact wpAny_mono (h2 oa₁ G₁ K s₁ hk I₁ E) (fun _ _ p => p.lift t₁) fun _ _ z => z
  | some x => obtain ⟨v, rfl, r⟩ := hf; exact ⟨oa₁, G₁, some x, I₁, t₁, ⟨v, rfl, r⟩, hk⟩
theorem ex_if {c : Expr} {a b : List Stmt} {pos : Pos} {d : Gs → DV} {X Y : B} (hc : ∀ oa G, EvT ⟨fx, oa, G⟩ (isTrue c fx.env (eval c fx.env)) (tst (d G))) (ha : ExB fx (execs a fx.env) X) (hb : ExB fx (execs b fx.env) Y) :
    ExB fx (exec (.If c a b pos) fx.env) (fun G K => d G fun x => okK (boolO x some) fun t => if t = true then X G K else Y G K) := fun oa G K s hd I E => by
  refine wpAny_If (wpAny_mono (hc oa G (fun t => if t = true then X G K else Y G K) s hd I E) (fun t s₁ ⟨B, k, t', hk, e⟩ => ?_) fun _ _ z => z)
  subst e
  cases t with
  | true => exact wpAny_mono (ha oa G K s₁ hk (I.keep B k) E) (fun _ _ p => p.lift (.of_keeps k)) fun _ _ z => z
  | false => exact wpAny_mono (hb oa G K s₁ hk (I.keep B k) E) (fun _ _ p => p.lift (.of_keeps k)) fun _ _ z => z
theorem ex_ret {e : Expr} {pos : Pos} {d : Gs → DV} (h : ∀ oa G, Ev ⟨fx, oa, G⟩ (eval e fx.env) (d G)) : ExB fx (exec (.Return (some e) pos) fx.env) (fun G K => d G fun x => K (some x) G) := fun oa G K s hd I E => by
  rw [exec_Return_some]
  exact wpAny_bind (wpAny_standAt (wpAny_bind (wpAny_mono (h oa G _ s hd I E) (fun v s₁ ⟨B, k, x, hx, r⟩ => wpAny_pure ⟨oa, G, some x, I.keep B k, .of_keeps k, ⟨v, rfl, r⟩, hx⟩) fun _ _ z => z)))
theorem ex_raise {st : Stmt} : ExB fx (exec st fx.env) (fun _ _ => False) := fun oa G K s hd I E => hd.elim
noncomputable def notComp : Expr → Bool
  | .ListComp .. => false
  | .SetComp .. => false
  | .DictComp .. => false
  | _ => true
theorem swaps_no {value : Expr} {t : Expr} {n : Nat} {env : Env} (h : notComp value = true) : swapsWith value (some t) n env = pure false := by
  cases value <;> first | rfl | cases h
theorem ex_assign {n : Str} {k : Nat} {py spos : Pos} {value : Expr} {d : Gs → DV} (hs : swapsWith value (some (.Name n py)) spos.line fx.env = pure false) (hT : TgtOk fx.ρ fx.env n k) (h : ∀ oa G, Ev ⟨fx, oa, G⟩ (eval value fx.env) (d G)) :
    ExB fx (exec (.Assign [.Name n py] value spos) fx.env) (fun G K => d G fun x => K none (G.set k (.v x))) := fun oa G K s hd I E => by
  rw [exec_Assign_Name _ _ _ _ _ hs]
  refine wpAny_bind (wpAny_standAt (wpAny_bind (wpAny_mono (h oa G _ s hd I E) (fun v s₁ ⟨B, k₁, x, hx, r⟩ => ?_) fun _ _ z => z)))
  have I₁ := I.keep B k₁
  refine wpAny_bind (wpAny_standAt (wpAny_bind (wpAny_bindName (store_ok I₁ hT.lk hT.nf (fun h' tk ps => wpAny_pure ?_) E))))
  have q := put_val (tk := tk) I₁ ps r
  exact .next q.1 ((Tr.of_keeps k₁).trans q.2) hx
end
end Mine
end

noncomputable section
set_option maxRecDepth 100000
set_option linter.unusedVariables false
namespace Mine
open PySem PySem.Calls PyProof.Rows PySem.W

noncomputable abbrev Fx.mo (fx : Fx) (X : Addr → Prop) : Fx := { fx with Mo := fun b => fx.Mo b ∨ X b }
noncomputable abbrev Ct.mo (Φ : Ct) (X : Addr → Prop) : Ct := ⟨Φ.fx.mo X, Φ.oa, Φ.G⟩
section
variable {Φ : Ct} {s s' s₀ s₂ : Shared} {h' : Heap} {X : Addr → Prop}
theorem FxOk.any {fx : Fx} {M : Addr → Prop} (ok : FxOk fx) : FxOk { fx with Mo := M } := ⟨ok.gr, ok.hand, ok.kind, ok.globals, ok.builtins, ok.vis, ok.inj, ok.apart, ok.offs, ok.nfs, ok.room, ok.units, ok.call⟩
theorem mapK_mo (hX : ∀ b, X b → s₀.heap.get? b = none) (k : Keeps s₀.heap s₂.heap) : MapK Φ.bad (Φ.mo X).bad s₀.heap s₂.heap := fun b o e n =>
  ⟨fun q => q.elim (fun q => q.elim (fun q => n (.inl q)) fun q => no_some (hX b q) e) fun q => n (.inr q), k b o e⟩
theorem Inv.more (I : Inv Φ s₀) (B : Base Φ.fx.g s₂) (k : Keeps s₀.heap s₂.heap) (hX : ∀ b, X b → s₀.heap.get? b = none) (hl : ∀ b, X b → Live s₂.heap b) : Inv (Φ.mo X) s₂ where
  ok := I.ok.any
  base := B
  slot := fun j => let ⟨v, r, x⟩ := I.slot j; ⟨v, r.keep k, x.map (mapK_mo hX k) fun a _ o e => k a o e⟩
  new := fun a q => let ⟨x, y, z⟩ := I.new a q; ⟨k.live x, y, fun w => w.elim z fun w => x.elim fun o e => no_some (hX a w) e⟩
  inj := I.inj
  off := I.off
  gl := I.gl
  mo := fun a q => q.elim (fun q => k.live (I.mo a q)) (hl a)
theorem mapK_less {h : Heap} : MapK (Φ.mo X).bad Φ.bad h h := fun b o e n => ⟨fun q => n (q.imp .inl id), e⟩
theorem Inv.less (I : Inv (Φ.mo X) s) : Inv Φ s where
  ok := I.ok.any (M := Φ.fx.Mo)
  base := I.base
  slot := fun j => let ⟨v, r, x⟩ := I.slot j; ⟨v, r, x.map mapK_less fun a _ o e => e⟩
  new := fun a q => let ⟨x, y, z⟩ := I.new a q; ⟨x, y, fun w => z (.inl w)⟩
  inj := I.inj
  off := I.off
  gl := I.gl
  mo := fun a q => I.mo a (.inl q)
theorem Inv.others {wr : List Addr} {tk : Nat} {Mo₂ : Addr → Prop} (I : Inv Φ s) (k : ∀ b o, b ∉ wr → s.heap.get? b = some o → h'.get? b = some o) (hw : ∀ b ∈ wr, Φ.fx.Mo b) (h0 : ∀ b ∈ wr, Φ.fx.g.h0.get? b = none) (hs : ∀ a, Mo₂ a → Φ.fx.Mo a) (hl : ∀ a, Mo₂ a → Live h' a) : Inv ⟨{ Φ.fx with Mo := Mo₂ }, Φ.oa, Φ.G⟩ { s with heap := h', toks := tk } := by
  have nown : ∀ b, Φ.own b → b ∉ wr := fun b q m => (I.new b q).2.2 (hw b m)
  have mk : MapK Φ.bad (Ct.mk { Φ.fx with Mo := Mo₂ } Φ.oa Φ.G).bad s.heap h' := fun b o e n => ⟨fun q => n (q.imp (hs b) id), k b o (fun m => n (.inl (hw b m))) e⟩
  refine ⟨I.ok.any, ⟨fun b o e => k b o (fun m => no_some (h0 b m) e) (I.base.stays b o e), I.base.os, I.base.gens⟩, fun j => ?_, fun a q => ?_, I.inj, I.off, I.gl, hl⟩
  · obtain ⟨u, r, so⟩ := I.slot j
    refine ⟨u, ?_, so.map mk fun a ea o e => k a o (nown a (.inr ⟨j, ea⟩)) e⟩
    show PlRead h' (Φ.fx.pl j) u
    have na : ∀ a, (Φ.fx.pl j).addr = some a → a ∉ wr := fun a e => nown a (.inl ⟨j, e⟩)
    generalize Φ.fx.pl j = p at r na
    cases p with
    | ns a x => obtain ⟨m, hn, hu⟩ := r; exact ⟨m, hn.at' fun o e => k a o (na a rfl) e, hu⟩
    | cell c => obtain ⟨o, ho, hd⟩ := r; exact ⟨o, k c o (na c rfl) ho, hd⟩
    | off => exact r
  · obtain ⟨⟨o, e⟩, y, z⟩ := I.new a q
    exact ⟨⟨o, k a o (nown a q) e⟩, y, fun w => z (hs a w)⟩
theorem Tr.mo {Φ' : Ct} (e : Φ'.fx = Φ.fx) (t : Tr (Φ.mo X) s (Φ'.mo X) s') : Tr Φ s Φ' s' := ⟨e, t.keep, t.live, t.grow, t.inst⟩
theorem Tr.others {Φ' : Ct} {wr : List Addr} {tk : Nat} (t : Tr Φ s₀ Φ' s) (k : ∀ b o, b ∉ wr → s.heap.get? b = some o → h'.get? b = some o) (hw : ∀ b ∈ wr, s₀.heap.get? b = none) : Tr Φ s₀ Φ' { s with heap := h', toks := tk } where
  fx := t.fx
  keep := fun b o e n => k b o (fun m => no_some (hw b m) e) (t.keep b o e n)
  live := fun b l => (t.live b l).elim fun o' e' => ⟨o', k b o' (fun m => l.elim fun o e => no_some (hw b m) e) e'⟩
  grow := t.grow
  inst := t.inst
theorem folded_no {e : Expr} {env : Env} (h : notSet e = true) (x : Value) : foldedSetIterable e env x = pure x := by
  cases e <;> first | rfl | cases h
noncomputable def TgtSim (fx : Fx) (T : Expr) (b : Gs → V → Option Gs) : Prop := ∀ X oa G v x G' s, Inv ⟨fx.mo X, oa, G⟩ s → b G x = some G' → (Ct.mk (fx.mo X) oa G).rp s.heap v x → (Ct.mk (fx.mo X) oa G).wp (assign T fx.env v) (fun _ s' => ∃ oa', Inv ⟨fx.mo X, oa', G'⟩ s' ∧ Tr ⟨fx.mo X, oa, G⟩ s ⟨fx.mo X, oa', G'⟩ s') s
end
theorem Feed.turn {g : Gl} {A : Around} {T : Expr} {I : Addr} {fp wr : List Addr} {vals : List Value} {l0 l : List V} {St : Nat → Heap → Prop} (F : Feed g A T I fp wr vals l0 l St) {i : Nat} {x : V} {s : Shared} {bad : Addr → Prop} {N : Shared → Prop} {Q : Value → Shared → Prop} {E : Value → Shared → Prop}
    (hx : l[i]? = some x) (st : St i s.heap) (rv : RpAll g bad s.heap vals l0) (hb : ∀ a, bad a → Live s.heap a) (hw : ∀ b ∈ wr, bad b)
    (hQ : ∀ v h' tk, St (i + 1) h' → (∀ b o, b ∉ wr → s.heap.get? b = some o → h'.get? b = some o) → Rp g bad h' v x → Q v { s with heap := h', toks := tk }) :
    wpAny (model g.prog g.w) A (pyNext (.ref I)) (fun r s₁ => match r with | none => N s₁ | some v => wpAny (model g.prog g.w) A (letOwnedTupleGo T (.ref I) v) (fun _ s₂ => Q v s₂) E s₁) E s :=
  wpAny_mono (F.item i x s bad Q E hx st rv hb hw hQ) (fun r s₁ ⟨v, e, z⟩ => by subst e; exact z) fun _ _ z => z
theorem Feed.over {g : Gl} {A : Around} {T : Expr} {I : Addr} {fp wr : List Addr} {vals : List Value} {l0 l : List V} {St : Nat → Heap → Prop} (F : Feed g A T I fp wr vals l0 l St) {s : Shared} {N : Shared → Prop} {Q : Value → Shared → Prop} {E : Value → Shared → Prop}
    (st : St l.length s.heap) (hN : ∀ h' tk, (∀ b o, b ∉ wr → s.heap.get? b = some o → h'.get? b = some o) → N { s with heap := h', toks := tk }) :
    wpAny (model g.prog g.w) A (pyNext (.ref I)) (fun r s₁ => match r with | none => N s₁ | some v => wpAny (model g.prog g.w) A (letOwnedTupleGo T (.ref I) v) (fun _ s₂ => Q v s₂) E s₁) E s :=
  wpAny_mono (F.done s N E st hN) (fun r s₁ ⟨e, z⟩ => by subst e; exact z) fun _ _ z => z
theorem gen_goal {G : Prop} (h : ∀ P : Prop, (G → P) → P) : G := h G id
theorem ex_for {fx : Fx} {T iter : Expr} {body : List Stmt} {pos : Pos} {d : Gs → (List V → Prop) → Prop} {b : Gs → V → Option Gs} {A : B} (hset : notSet iter = true) (hT : TgtSim fx T b) (hsrc : ∀ oa G, EvSrc ⟨fx, oa, G⟩ T true iter (d G)) (hb : ∀ X, ExB (fx.mo X) (execs body fx.env) A) :
    ExB fx (exec (.For T iter body [] pos) fx.env) (fun G K => d G fun xs => forL b A xs G K) := fun oa G K s hd I E => by
  refine wpAny_For (hsrc oa G _ s hd I _ _ fun l s₀ it s₂ kl I₀ k₀ gr fa => ?_) (folded_no hset)
  obtain ⟨J, fp, wr, vals, l0, Sp, rfl, F, st0, rv, hwr, hfp, hsz⟩ := fa
  have start : Tr ⟨fx, oa, G⟩ s ⟨fx, oa, G⟩ s₀ := .of_keeps k₀
  have wr0 : ∀ b ∈ wr, fx.g.h0.get? b = none := fun b m => none_of (fun l => I₀.base.stays.live l) (hwr b m)
  let X : Addr → Prop := fun b => b ∈ fp ∧ s₀.heap.get? b = none
  have wrX : ∀ b ∈ wr, (fx.mo X).Mo b := fun b m => .inr ⟨F.sub b m, hwr b m⟩
  let LI : Nat → Shared → Prop := fun n s' => ∃ i oa' G', n = l.length - i ∧ i ≤ l.length ∧ Sp i s'.heap ∧ Inv ⟨fx.mo X, oa', G'⟩ s' ∧ Tr ⟨fx, oa, G⟩ s₀ ⟨fx, oa', G'⟩ s' ∧ (Ct.mk (fx.mo X) oa' G').rps s'.heap vals l0 ∧ forL b A (l.drop i) G' K
  have notown : ∀ {oa' : Nat → Option Addr} {G' : Gs} {s' : Shared}, Inv ⟨fx.mo X, oa', G'⟩ s' → Tr ⟨fx, oa, G⟩ s₀ ⟨fx, oa', G'⟩ s' → ∀ b ∈ fp, ¬ (Ct.mk fx oa' G').own b := fun I' t' b hb q => by
    cases e : s₀.heap.get? b with
    | none => exact (I'.new b q).2.2 (.inr ⟨hb, e⟩)
    | some o => exact ((hfp b hb).resolve_left fun z => no_some z e) rfl (.inr (t'.grow b ⟨o, e⟩ q))
  refine codeAny_forLoop_any LI (fun n s' hLI => ?_) l.length ⟨0, oa, G, rfl, Nat.zero_le _, st0, I₀.more (I₀.base.grown gr) gr.keeps (fun b q => q.2) fun b q => F.live 0 _ b st0 q.1, .of_keeps gr.keeps, rv.map (mapK_mo (fun b q => q.2) gr.keeps), kl⟩
  refine gen_goal fun Z kZ => ?_
  obtain ⟨i, oa', G', rfl, hi, st, I', t', rv', ef⟩ := hLI
  cases hx : l[i]? with
  | none =>
    have hil : i = l.length := Nat.le_antisymm hi (List.getElem?_eq_none_iff.mp hx)
    subst hil
    rw [List.drop_length] at ef
    refine kZ (F.over st fun h' tk hk => wpAny_execs_nil ?_)
    have I3 : Inv ⟨fx, oa', G'⟩ { s' with heap := h', toks := tk } := Inv.others (Φ := ⟨fx.mo X, oa', G'⟩) (Mo₂ := fx.Mo) I' hk wrX wr0 (fun a q => .inl q) fun a q => (I'.mo a (.inl q)).elim fun o e => ⟨o, hk a o (fun m => (I₀.mo a q).elim fun o e => no_some (hwr a m) e) e⟩
    exact .next I3 (start.trans (t'.others hk hwr)) ef
  | some x =>
    have hil := (List.getElem?_eq_some_iff.mp hx).1
    have ed : l.drop i = x :: l.drop (i + 1) := by rw [List.drop_eq_getElem_cons hil]; congr 1; exact (List.getElem?_eq_some_iff.mp hx).2
    rw [ed] at ef
    refine kZ (F.turn hx st rv' (fun a q => I'.badLive q) (fun b m => .inl (wrX b m)) fun v h' tk st' hk rx => ?_)
    clear kZ
    refine gen_goal fun Z kZ => ?_
    refine okK_elim ef fun G₁ e₁ ef => ?_
    have I3 : Inv ⟨fx.mo X, oa', G'⟩ { s' with heap := h', toks := tk } := Inv.others (Φ := ⟨fx.mo X, oa', G'⟩) (Mo₂ := (fx.mo X).Mo) I' hk wrX wr0 (fun a q => q) fun a q => by
      by_cases nw : a ∈ wr
      · exact F.live _ _ a st' (F.sub a nw)
      · obtain ⟨o, e⟩ := I'.mo a q
        exact ⟨o, hk a o nw e⟩
    have t3 : Tr ⟨fx, oa, G⟩ s₀ ⟨fx, oa', G'⟩ { s' with heap := h', toks := tk } := t'.others hk hwr
    have rv3 : (Ct.mk (fx.mo X) oa' G').rps h' vals l0 := rv'.map fun b o e n => ⟨n, hk b o (fun m => n (.inl (wrX b m))) e⟩
    refine kZ (wpAny_mono (hT X oa' G' v x G₁ _ I3 e₁ rx _) (fun _ s₄ ⟨oa₄, I4, t4⟩ => ?_) fun _ _ z => z)
    have t04 : Tr ⟨fx, oa, G⟩ s₀ ⟨fx, oa₄, G₁⟩ s₄ := t3.trans (t4.mo (Φ := ⟨fx, oa', G'⟩) (Φ' := ⟨fx, oa₄, G₁⟩) rfl)
    have st4 : Sp (i + 1) s₄.heap := F.frame _ _ _ st' fun b hb o e => t4.keep b o e (notown I3 t3 b hb)
    refine wpAny_mono (hb X oa₄ G₁ _ s₄ ef I4 _) (fun f s₅ ⟨oa₅, G₅, fl, I5, t5, hf, ek⟩ => ?_) fun _ _ z => z
    have t05 : Tr ⟨fx, oa, G⟩ s₀ ⟨fx, oa₅, G₅⟩ s₅ := t04.trans (t5.mo (Φ := ⟨fx, oa₄, G₁⟩) (Φ' := ⟨fx, oa₅, G₅⟩) rfl)
    cases fl with
    | none =>
      cases hf
      exact ⟨l.length - (i + 1), by omega, i + 1, oa₅, G₅, rfl, hil, F.frame _ _ _ st4 fun b hb o e => t5.keep b o e (notown I4 t04 b hb), I5, t05, (rv3.map t4.mapK).map t5.mapK, ek⟩
    | some y =>
      obtain ⟨w, rfl, rw⟩ := hf
      exact ⟨oa₅, G₅, some y, I5.less (Φ := ⟨fx, oa₅, G₅⟩), start.trans t05, ⟨w, rfl, rw.map (mapK_less (Φ := ⟨fx, oa₅, G₅⟩))⟩, ek⟩
section
variable {fx : Fx}
theorem sim_tgt1 {n : Str} {k : Nat} {py : Pos} (hT : TgtOk fx.ρ fx.env n k) : TgtSim fx (.Name n py) (fun G x => some (G.set k (.v x))) := fun X oa G v x G' s I e r E => by
  cases e
  exact wpAny_mono (tgt1 (Φ := ⟨fx.mo X, oa, G⟩) hT I r E) (fun _ s' q => ⟨_, q.1, q.2.1⟩) fun _ _ z => z
theorem sim_tgtM {es : List Expr} {ks : List Nat} {kk : Nat} {p : Pos} (hT : TgtsOk fx.ρ fx.env es ks) : TgtSim fx (.Tuple es kk p) (setMany ks) := fun X oa G v x G' s I e r => tgtM (Φ := ⟨fx.mo X, oa, G⟩) hT I e r
theorem put_new {oa : Nat → Option Addr} {G : Gs} {n : Str} {k : Nat} {a : Addr} {u : Value} {sl : Slot} {s s₀ : Shared} {Q : Unit → Shared → Prop} (hT : TgtOk fx.ρ fx.env n k) (I : Inv ⟨fx, oa, G⟩ s₀) (B : Base fx.g s) (k₀ : Keeps s₀.heap s.heap) (ha : s₀.heap.get? a = none) (hl : Live s.heap a) (hsl : ∀ x, sl ≠ .v x) (hsl' : sl ≠ .unset) (hni : ¬ isI sl)
    (ow : ∀ h', (∀ b o, s.heap.get? b = some o → ¬ (Ct.mk fx oa G).own b → h'.get? b = some o) → OwnAt fx.g ((Ct.mk fx oa G).put k (some a) sl).bad h' a u sl)
    (h : ∀ s', Inv ((Ct.mk fx oa G).put k (some a) sl) s' → Tr ⟨fx, oa, G⟩ s₀ ((Ct.mk fx oa G).put k (some a) sl) s' → Q () s') : (Ct.mk fx oa G).wp (storeName fx.env n u) Q s := fun E => by
  refine store_ok (Φ := ⟨fx, oa, G⟩) (I.keep B k₀) hT.lk hT.nf (fun h' tk ps => ?_) E
  obtain ⟨c, hc, hs, _⟩ := ps.addr
  have kp : ∀ b o, s.heap.get? b = some o → ¬ (Ct.mk fx oa G).own b → h'.get? b = some o := fun b o e nb => hs.extBut b o (fun q => nb (.inl ⟨k, q ▸ hc⟩)) e
  have no : ¬ (Ct.mk fx oa G).own a := fun q => (I.new a q).1.elim fun o e => no_some ha e
  have so : SlotOk fx.g ((Ct.mk fx oa G).put k (some a) sl).bad h' (some a) (some u) sl := by
    cases sl with
    | unset => exact absurd rfl hsl'
    | v x => exact absurd rfl (hsl x)
    | _ => exact ⟨a, u, rfl, rfl, ow h' kp⟩
  have q := Inv.put (tk := tk) I B k₀ ps so (fun b e => by cases e; exact ⟨ha, hl.elim fun o e => ⟨o, kp a o e no⟩⟩) hni
  exact h _ q.1 q.2
theorem ex_ownL {n : Str} {k : Nat} {py spos pos : Pos} {qs : Gs → List (Expr × DV)} {es : List Expr} (hT : TgtOk fx.ρ fx.env n k) (he : ∀ G, (qs G).map Prod.fst = es) (hq : ∀ oa G, ∀ q ∈ qs G, plainE q.1 = true ∧ Good1 ⟨fx, oa, G⟩ q) :
    ExB fx (exec (.Assign [.Name n py] (.List es pos) spos) fx.env) (fun G K => manyV ((qs G).map Prod.snd) fun xs => xs.length ≤ szLine ∧ K none (G.set k (.ownL xs))) := fun oa G K s hd I E => by
  rw [exec_Assign_Name _ _ _ _ _ (swaps_no rfl), arm_eval_List, ← he G]
  simp only [bind_assoc]
  refine wpAny_bind (wpAny_standAt (wpAny_bind (wpAny_standAt (wpAny_bind (wpAny_mono (ev_items (Φ := ⟨fx, oa, G⟩) (hq oa G) _ s hd I E) (fun vs s₁ ⟨B, k₁, xs, ⟨hz, hx⟩, rs⟩ => ?_) fun _ _ z => z)))))
  have I₁ := I.keep B k₁
  refine wpAny_bind (wpAny_newObj_type ?_ (by show vs.toArray.size ≤ sizeLine; rw [List.size_toArray, rs.length]; exact sz_le hz))
  have gr := Grown.push s₁ { cls := .type "list", data := .seq vs.toArray } s₁.toks
  have hD : s₁.heap.get? s₁.heap.objs.size = none := size_none _
  refine wpAny_bind (wpAny_standAt (wpAny_bind (wpAny_bindName (put_new (a := s₁.heap.objs.size) (sl := .ownL xs) hT I₁ (B.grown gr) gr.keeps hD ⟨_, Heap.get?_push_size _ rfl⟩ (fun _ q => nomatch q) (fun q => nomatch q) id (fun h' kp => ?_) (fun s' I' t' => wpAny_pure (.next I' ((Tr.of_keeps k₁).trans t') hx)) E))))
  have nb : ¬ (Ct.mk fx oa G).own s₁.heap.objs.size := fun q => I₁.fresh (.inr q)
  refine ⟨rfl, _, _, _, kp _ _ (Heap.get?_push_size _ rfl) nb, ⟨rfl, rfl⟩, rfl, ?_⟩
  refine rs.map fun b o e n => ⟨fun q => ?_, kp b o (keeps_push _ _ b o e) fun q => n (.inr q)⟩
  rcases q with q | q
  · exact n (.inl q)
  · exact (put_own q).elim (fun q => by cases q; exact no_some hD e) fun q => n (.inr q)
end
end Mine
end

noncomputable section
set_option maxRecDepth 100000
set_option linter.unusedVariables false
namespace Mine
open PySem PySem.Calls PyProof.Rows PySem.W

noncomputable def noSwap : Expr → Bool
  | .Tuple .. => false
  | .ListComp .. => false
  | .SetComp .. => false
  | .DictComp .. => false
  | _ => true
section
variable {fx : Fx}
theorem swapped_no {es : List Expr} {kk : Nat} {p : Pos} {value : Expr} {env : Env} (h : noSwap value = true) : swappedStores [.Tuple es kk p] value env = pure none ∧ ∀ t n, swapsWith value t n env = pure false := by
  cases value <;> first | exact ⟨rfl, fun t n => rfl⟩ | cases h
theorem ex_assignM {es : List Expr} {ks : List Nat} {kk : Nat} {p spos : Pos} {value : Expr} {d : Gs → DV} (hs : noSwap value = true) (hT : TgtsOk fx.ρ fx.env es ks) (h : ∀ oa G, Ev ⟨fx, oa, G⟩ (eval value fx.env) (d G)) :
    ExB fx (exec (.Assign [.Tuple es kk p] value spos) fx.env) (fun G K => d G fun x => okK (setMany ks G x) (K none)) := fun oa G K s hd I E =>
  Assign_Tuple (wpAny_mono (h oa G _ s hd I E) (fun v s₁ ⟨B, k₁, x, hx, r⟩ => okK_elim hx fun G' e kG => wpAny_mono (tgtM (Φ := ⟨fx, oa, G⟩) hT (I.keep B k₁) e r E) (fun _ s₂ ⟨oa', I', t'⟩ => .next I' ((Tr.of_keeps k₁).trans t') kG) fun _ _ z => z) fun _ _ z => z) (show swapsWith value (some (.Tuple es kk p)) spos.line fx.env = pure false from (swapped_no (es := es) (kk := kk) (p := p) hs).2 _ _) (swapped_no hs).1
theorem own_of {Φ : Ct} {s : Shared} {k : Nat} {sl : Slot} (I : Inv Φ s) (e : getSlot Φ.G k = sl) (h : ∀ {g bad h oak v}, SlotOk g bad h oak v sl → ∃ a u, oak = some a ∧ v = some u ∧ OwnAt g bad h a u sl) : ∃ a u, Φ.oa k = some a ∧ PlRead s.heap (Φ.fx.pl k) (some u) ∧ OwnAt Φ.fx.g Φ.bad s.heap a u sl := by
  obtain ⟨v, pr, so⟩ := I.slot k
  rw [e] at so
  obtain ⟨a, u, ha, rfl, ow⟩ := h so
  exact ⟨a, u, ha, pr, ow⟩
theorem Inv.freeze {Φ : Ct} {s : Shared} {k : Nat} {l : List V} (I : Inv Φ s) (e : getSlot Φ.G k = .ownL l) : Inv (Φ.put k none (.v (.list l))) s ∧ Tr Φ s (Φ.put k none (.v (.list l))) s := by
  obtain ⟨a, u, ha, pr, rfl, o, vs, n, ho, hc, hd, hl⟩ := own_of I e id
  have hon : k < Φ.G.length := by
    rw [I.gl]
    refine Nat.lt_of_lt_of_le (Nat.lt_of_not_le fun q => ?_) I.ok.nfs
    rw [I.ok.offs k q] at pr; cases pr
  have sub : ∀ b, (Φ.put k none (.v (.list l))).own b → Φ.own b := fun b q => (put_own q).elim (fun (q : none = some b) => nomatch q) id
  have mk : MapK Φ.bad (Φ.put k none (.v (.list l))).bad s.heap s.heap := fun b o e n => ⟨fun q => n (q.imp id (sub b)), e⟩
  have na : ¬ (Φ.put k none (.v (.list l))).bad a := fun q => by
    rcases q with q | q | ⟨j, q⟩
    · exact (I.new a (.inr ⟨k, ha⟩)).2.2 q
    · exact q.elim fun j q => I.off k a ha j q
    · have q : (if j = k then none else Φ.oa j) = some a := q
      by_cases e : j = k
      · rw [if_pos e] at q; cases q
      · rw [if_neg e] at q; exact e (I.inj j k a q ha)
  refine ⟨⟨I.ok, I.base, fun j => ?_, fun b q => I.new b (sub b q), fun i j b e1 e2 => ?_, fun j b e i => ?_, ?_, I.mo⟩, ⟨rfl, fun b o e _ => e, fun _ l => l, fun b _ q => sub b q, put_inst hon fun q => q.elim⟩⟩
  · by_cases e : j = k
    · subst e
      have e1 : (Φ.put j none (.v (.list l))).oa j = none := if_pos rfl
      have e2 : getSlot (Φ.put j none (.v (.list l))).G j = .v (.list l) := getSlot_self hon
      rw [e1, e2]
      exact ⟨_, pr, rfl, _, rfl, .list na ho hc hd (hl.map mk)⟩
    · obtain ⟨v, r, so⟩ := I.slot j
      have e1 : (Φ.put k none (.v (.list l))).oa j = Φ.oa j := if_neg e
      have e2 : getSlot (Φ.put k none (.v (.list l))).G j = getSlot Φ.G j := getSlot_ne e
      rw [e1, e2]
      exact ⟨v, r, so.map mk fun _ _ _ e => e⟩
  · have c1 : (if i = k then none else Φ.oa i) = some b := e1
    have c2 : (if j = k then none else Φ.oa j) = some b := e2
    by_cases h1 : i = k
    · rw [if_pos h1] at c1; cases c1
    · by_cases h2 : j = k
      · rw [if_pos h2] at c2; cases c2
      · rw [if_neg h1] at c1; rw [if_neg h2] at c2; exact I.inj i j b c1 c2
  · have c : (if j = k then none else Φ.oa j) = some b := e
    by_cases h1 : j = k
    · rw [if_pos h1] at c; cases c
    · rw [if_neg h1] at c; exact I.off j b c i
  · show (Φ.G.set k _).length = _
    rw [List.length_set]; exact I.gl
theorem ex_freeze {k : Nat} {t : Sem Flow} {Y : B} (h : ExB fx t Y) : ExB fx t (fun G K => okK (ownLO G k) fun l => Y (G.set k (.v (.list l))) K) := fun oa G K s hd I E => okK_elim hd fun l e hk => by
  have q := Inv.freeze (Φ := ⟨fx, oa, G⟩) I (own_some e)
  exact wpAny_mono (h _ _ K s hk q.1 E) (fun _ _ p => p.lift (Φ := ⟨fx, oa, G⟩) q.2) fun _ _ z => z
theorem Inv.quiet {Φ : Ct} {s : Shared} (I : Inv Φ s) : interactive Φ.fx.env = false := by unfold interactive; rw [I.ok.kind]; rfl
theorem ex_expr {e : Expr} {pos : Pos} {d : Gs → DV} (hs : ∀ n, swapsWith e none n fx.env = pure false) (h : ∀ oa G, Ev ⟨fx, oa, G⟩ (eval e fx.env) (d G)) : ExB fx (exec (.Expr e pos) fx.env) (fun G K => d G fun x => isNone x = true ∧ K none G) := fun oa G K s hd I E => by
  refine wpAny_Expr (wpAny_mono (h oa G _ s hd I E) (fun v s₁ ⟨B, k, x, hx, r⟩ => ?_) fun _ _ z => z) I.quiet (hs _)
  cases x with
  | none => exact r.none_elim (.next (Φ := ⟨fx, oa, G⟩) (I.keep B k) (.of_keeps k) hx.2)
  | _ => cases hx.1
theorem mapSeq_dict (o : Obj) (f : Array Value → Array Value) : (o.mapSeq f).dict = o.dict := by
  obtain ⟨c, d, dt, sl⟩ := o; cases dt <;> rfl
theorem append_at {prog : Program} {w : World} {A : Around} {E : Value → Shared → Prop} {s : Shared} {l : Addr} {o : Obj} {items : Array Value} {n : Nat} {x : Value} {Q : Value → Shared → Prop} (ho : s.heap.get? l = some o) (hc : o.cls = .type "list" ∧ o.dict = none) (hd : o.data = .seq items n) (hsz : items.size ≤ sizeLine)
    (hQ : ∀ h' o' n', h'.get? l = some o' → o'.cls = .type "list" ∧ o'.dict = none → o'.data = .seq (items.push x) n' → Heap.SameBut l s.heap h' → Q .none { s with heap := h' }) : wpAny (model prog w) A (call (.builtin "list.append") [.ref l, x]) Q E s := by
  obtain ⟨n', hd'⟩ := Obj.data_mapSeq hd (·.push x)
  refine wpAny_call_entry slot_list_append ⟨o, ho, hc.1⟩ entry_list_append ?_ (args_list_append _ _)
  show wpAny _ _ (updateSeq l (·.push x) >>= fun _ => ret .none) _ _ s
  exact wpAny_bind (wpAny_updateSeq ho hd (wpAny_pure ⟨.none, rfl, hQ _ _ n' (Heap.get?_update_self _ ho (Obj.isFreed_of_seq hd')) ⟨(Obj.cls_mapSeq ..).trans hc.1, (mapSeq_dict ..).trans hc.2⟩ hd' (Heap.SameBut.update ..)⟩))
theorem ex_append {n : Str} {k : Nat} {np apos pos spos : Pos} {e : Expr} {d : Gs → DV} (hx : fx.ρ.lookup n = some k) (hn : okName n = true) (hp : plainE e = true) (hline : (apos.endLine == pos.line) = true) (h : ∀ oa G, Ev ⟨fx, oa, G⟩ (eval e fx.env) (d G)) :
    ExB fx (exec (.Expr (.Call (.Attribute (.Name n np) "append" apos) [e] [] pos) spos) fx.env) (fun G K => okK (ownLO G k) fun l => d G fun x => l.length < szLine ∧ K none (G.set k (.ownL (l ++ [x])))) := fun oa G K s hd I E => okK_elim hd fun l el hd => by
  refine wpAny_Expr ?_ I.quiet rfl
  obtain ⟨a, u, ha, pr, rfl, o, vs, m, ho, hc, hd', hl⟩ := own_of I (own_some el) id
  refine wpAny_Call_method (T := "list") (id := "list.append") (base_simple rfl) ?_ hline PySem.F.plainAttrs_list slot_list_append type_list_append (name_read (Φ := ⟨fx, oa, G⟩) I.ok hx hn pr ⟨⟨o, ho, hc.1⟩, fun a q => by cases q; exact ⟨o, ho, hc.2⟩, ?_⟩ E)
  · rw [star_plain hp]; rfl
  refine callWith_builtin (by rw [star_plain hp]; rfl) ?_
  refine args_ok (Φ := ⟨fx, oa, G⟩) (qs := [(e, d G)]) (K := fun xs => okK (one xs some) fun x => l.length < szLine ∧ K none (G.set k (.ownL (l ++ [x])))) (fun q m => by cases List.mem_singleton.mp m; exact ⟨hp, h oa G⟩) hd I fun ws xs s₁ I₁ k₁ hx rs => okK_elim hx fun x e hk => ?_
  refine one_elim (Φ := ⟨fx, oa, G⟩) (C := fun ws => wpAny _ _ (call (.builtin "list.append") ([.ref a] ++ ws) []) _ _ s₁) e rs fun w y r e => ?_
  cases e
  refine append_at (k₁ a o ho) hc hd' (sz_le (by rw [all_size (Φ := ⟨fx, oa, G⟩) hl]; exact Nat.le_of_lt hk.1)) fun h' o' n' ho' hc' hd'' hs => ?_
  have mk : MapK (Ct.mk fx oa G).bad (Ct.mk fx oa G).bad s₁.heap h' := fun b o e nb => ⟨nb, hs.extBut b o (fun q => nb (.inr (.inr ⟨k, q ▸ ha⟩))) e⟩
  have q := Inv.mutate (Φ := ⟨fx, oa, G⟩) (sl := .ownL (l ++ [x])) (tk := s₁.toks) I₁ ha (pr.keep k₁) hs ⟨_, ho'⟩ ⟨rfl, o', _, n', ho', hc', hd'', by rw [Array.toList_push]; exact ((hl.keep k₁).map mk).append (.cons (r.map mk) .nil)⟩ (fun _ q => nomatch q) (fun q => nomatch q) fun q => q.elim
  exact .next (Φ := ⟨fx, oa, G⟩) q.1 ((Tr.of_keeps k₁).trans q.2) hk.2
end
end Mine
end

noncomputable section
set_option maxRecDepth 100000
set_option linter.unusedVariables false
namespace Mine
open PySem PySem.Calls PyProof.Rows PySem.W

/-! comprehensions -/
section
variable {prog : Program} {w : World} {A : Around} {R : Result → Shared → Prop} {s : Shared}
theorem compLoop_any {elt target iter : Expr} {ifs : List Expr} {scope : Scope} {pos : Pos} {it acc : Value} {env : Env} (I : Nat → Shared → Prop)
    (turn : ∀ n s, I n s → wpAny (model prog w) A (pyNext it) (fun r s₁ => match r with
      | none => R (.ok .next) s₁
      | some v => wpAny (model prog w) A (letOwnedTupleGo target it v) (fun _ s₁' => wpAny (model prog w) A (assign target env v) (fun _ s₂ =>
          wpAny (model prog w) A (forIn ifs true fun c r => if r = true then do let ok ← isTrue c env (eval c env); pure (ForInStep.yield ok) else pure (ForInStep.yield r)) (fun ok s₃ =>
            if ok = true then wpAny (model prog w) A (eval elt env) (fun x s₄ =>
              wpAny (model prog w) A (call (.builtin "list.append") [acc, x]) (fun _ s₅ => ∃ m, m < n ∧ I m s₅) (notedBy (model prog w) A env fun e s' => R (.error e) s') s₄) (notedBy (model prog w) A env fun e s' => R (.error e) s') s₃
            else ∃ m, m < n ∧ I m s₃) (notedBy (model prog w) A env fun e s' => R (.error e) s') s₂) (notedBy (model prog w) A env fun e s' => R (.error e) s') s₁') (notedBy (model prog w) A env fun e s' => R (.error e) s') s₁) (notedBy (model prog w) A env fun e s' => R (.error e) s') s)
    (n : Nat) (h : I n s) : codeAny (model prog w) A (.compLoop (.ListComp elt [⟨target, iter, ifs, 0⟩] scope pos) 0 it acc env) R s := by
  refine codeAny_loop rfl I (fun n s hI => ?_) n h
  show wpAny _ A ((compTurn (.ListComp elt [⟨target, iter, ifs, 0⟩] scope pos) 0 it acc env).onRaise (fun x => do noteFrame x env; theTreesLotGoes x)) _ _ s
  refine wpAny_noted ?_
  rw [compTurn_list]
  refine wpAny_bind (wpAny_standAt (wpAny_bind (wpAny_mono (turn n s hI) (fun r s₁ h₁ => ?_) fun _ _ h' => h')))
  cases r with
  | none => exact wpAny_pure h₁
  | some v =>
    refine wpAny_bind (wpAny_mono h₁ (fun _ s₁' h₁' => ?_) fun _ _ h' => h')
    refine wpAny_bind (wpAny_mono h₁' (fun _ s₂ h₂ => wpAny_bind (wpAny_mono h₂ (fun ok s₃ h₃ => ?_) fun _ _ h' => h')) fun _ _ h' => h')
    cases ok with
    | false => exact wpAny_pure ⟨rfl, h₃⟩
    | true =>
      exact wpAny_bind (wpAny_bind (wpAny_mono h₃ (fun x s₄ h₄ => wpAny_bind (wpAny_mono h₄ (fun _ s₅ h₅ => wpAny_pure (wpAny_pure ⟨rfl, h₅⟩)) fun _ _ h' => h')) fun _ _ h' => h'))
end

noncomputable def testsT (ifs : List Expr) (env : Env) : Sem Bool := forIn ifs true fun c r => if r = true then do let ok ← isTrue c env (eval c env); pure (ForInStep.yield ok) else pure (ForInStep.yield r)
theorem tests_false (env : Env) : ∀ ifs : List Expr, (forIn ifs false fun c r => if r = true then do let ok ← isTrue c env (eval c env); pure (ForInStep.yield ok) else pure (ForInStep.yield r) : Sem Bool) = pure false
  | [] => rfl
  | c :: r => by
    rw [List.forIn_cons]
    simp only [Bool.false_eq_true, if_false, pure_bind]
    exact tests_false env r
/-! the comprehension's own scope -/
noncomputable def relab (sc names : List (Str × NameKind)) : List (Str × NameKind) := names.map fun (n, k) => if k == .free && sc.lookup n == some .cell then (n, .cell) else (n, k)
theorem relabel_names {scope : Scope} {env : Env} (hk : env.scope.kind = .function) : (relabel scope env).names = relab env.scope.names scope.names := by
  unfold relabel relab
  simp only [hk]
  apply List.map_congr_left
  rintro ⟨n, k⟩ _
  have : (ScopeKind.function == ScopeKind.function) = true := by decide
  simp only [this, Bool.and_true]
  rfl
theorem relab_lookup (sc : List (Str × NameKind)) : ∀ (names : List (Str × NameKind)) (x : Str), (relab sc names).lookup x = (names.lookup x).map fun k => if k == .free && sc.lookup x == some .cell then .cell else k
  | [], x => rfl
  | (n, k) :: r, x => by
    have ih := relab_lookup sc r x
    have e : relab sc ((n, k) :: r) = (n, if k == .free && sc.lookup n == some .cell then .cell else k) :: relab sc r := by
      unfold relab
      rw [List.map_cons]
      congr 1
      show (if _ then (n, NameKind.cell) else (n, k)) = _
      split <;> rfl
    rw [e, List.lookup_cons, List.lookup_cons]
    cases hx : x == n with
    | true => have := beq_iff_eq.mp hx; subst this; rfl
    | false => exact ih
noncomputable def clOf (cells : List (Str × Addr)) : List (Str × NameKind) → List (Str × Addr) → List (Str × Addr)
  | [], acc => acc
  | (n, k) :: r, acc => clOf cells r (if k == .free then (n, (cells.lookup n).getD 0) :: acc else acc)
noncomputable def freeOk (cells : List (Str × Addr)) (names : List (Str × NameKind)) : Prop := ∀ n, (n, NameKind.free) ∈ names → ∃ c, cells.lookup n = some c
theorem closure_eq {scope : Scope} {env : Env} (h : freeOk env.cells scope.names) : closureFor scope env = pure (clOf env.cells scope.names []) := by
  unfold closureFor
  suffices ∀ (names : List (Str × NameKind)) (acc : List (Str × Addr)), freeOk env.cells names → (do
      let r ← forIn names acc fun x r => match x with
        | (name, kind) => if (kind == NameKind.free) = true then do let c ← cellOf env name; pure (ForInStep.yield ((name, c) :: r)) else pure (ForInStep.yield r)
      pure r : Sem (List (Str × Addr))) = pure (clOf env.cells names acc) by
    simpa using this scope.names [] h
  intro names
  induction names with
  | nil => intro acc _; rfl
  | cons p r ih =>
    obtain ⟨n, k⟩ := p
    intro acc hf
    rw [List.forIn_cons]
    have hr : freeOk env.cells r := fun m q => hf m (.tail _ q)
    by_cases hk : k = .free
    · subst hk
      obtain ⟨c, hc⟩ := hf n (.head _)
      have e1 : cellOf env n = pure c := by unfold cellOf; rw [hc]
      have := ih ((n, c) :: acc) hr
      simp only [beq_self_eq_true, if_true, e1, pure_bind, clOf, hc, Option.getD_some] at this ⊢
      exact this
    · have hb : (k == NameKind.free) = false := by simpa using hk
      have := ih acc hr
      simp only [hb, Bool.false_eq_true, if_false, pure_bind, clOf] at this ⊢
      exact this
theorem clOf_mem (cells : List (Str × Addr)) : ∀ (names : List (Str × NameKind)) (acc : List (Str × Addr)) (x : Str) (c : Addr), cells.lookup x = some c → ((x, NameKind.free) ∈ names ∨ acc.lookup x = some c) → (∀ d, acc.lookup x = some d → d = c) → (clOf cells names acc).lookup x = some c
  | [], acc, x, c, _, h, _ => by rcases h with h | h; cases h; exact h
  | (n, k) :: r, acc, x, c, hc, h, ha => by
    unfold clOf
    by_cases hk : k = .free
    · subst hk
      simp only [beq_self_eq_true, if_true]
      by_cases hx : x = n
      · subst hx
        refine clOf_mem cells r _ x c hc (.inr ?_) fun d hd => ?_
        · simp [hc]
        · simp only [List.lookup_cons, beq_self_eq_true, hc, Option.getD_some, Option.some.injEq] at hd; exact hd.symm
      · have hb : (x == n) = false := by simpa using hx
        refine clOf_mem cells r _ x c hc ?_ fun d hd => ?_
        · rcases h with h | h
          · rcases List.mem_cons.mp h with q | q
            · cases q; exact absurd rfl hx
            · exact .inl q
          · exact .inr (by rw [List.lookup_cons, hb]; exact h)
        · rw [List.lookup_cons, hb] at hd; exact ha d hd
    · have hb : (k == NameKind.free) = false := by simpa using hk
      simp only [hb, Bool.false_eq_true, if_false]
      refine clOf_mem cells r acc x c hc ?_ ha
      rcases h with h | h
      · rcases List.mem_cons.mp h with q | q
        · cases q; exact absurd rfl hk
        · exact .inl q
      · exact .inr h
theorem mem_lookup {α : Type} : ∀ {l : List (Str × α)} {n : Str} {c : α}, l.lookup n = some c → (n, c) ∈ l
  | (k, v) :: r, n, c, h => by
    rw [List.lookup_cons] at h
    cases hb : n == k with
    | true => rw [hb] at h; cases h; rw [beq_iff_eq.mp hb]; exact .head _
    | false => rw [hb] at h; exact .tail _ (mem_lookup h)
theorem filter_lookup {p : Str → Bool} : ∀ {l : List (Str × Nat)} {x : Str} {k : Nat}, (l.filter fun q => p q.1).lookup x = some k → p x = true ∧ l.lookup x = some k
  | [], _, _, h => by simp at h
  | (n, v) :: r, x, k, h => by
    rw [List.filter_cons] at h
    split at h
    · rename_i hp
      rw [List.lookup_cons] at h ⊢
      cases hx : x == n with
      | true => rw [hx] at h; cases h; have := beq_iff_eq.mp hx; subst this; exact ⟨hp, rfl⟩
      | false => rw [hx] at h; exact filter_lookup h
    · rename_i hp
      obtain ⟨h1, h2⟩ := filter_lookup h
      refine ⟨h1, ?_⟩
      rw [List.lookup_cons]
      cases hx : x == n with
      | true => have := beq_iff_eq.mp hx; subst this; exact absurd h1 (by simpa using hp)
      | false => exact h2

theorem tests_ok {Φ : Ct} : ∀ {qs : List (Expr × DV)}, (∀ q ∈ qs, EvT Φ (isTrue q.1 Φ.fx.env (eval q.1 Φ.fx.env)) (tst q.2)) → EvT Φ (testsT (qs.map Prod.fst) Φ.fx.env) (alls true (qs.map Prod.snd))
  | [], _ => fun K s hd I => EvR.pure (a := true) I hd rfl
  | q :: r, h => fun K s hd I => by
    have e : testsT ((q :: r).map Prod.fst) Φ.fx.env = (isTrue q.1 Φ.fx.env (eval q.1 Φ.fx.env) >>= fun ok => if ok then testsT (r.map Prod.fst) Φ.fx.env else pure false) := by
      unfold testsT
      rw [List.map_cons, List.forIn_cons]
      simp only [if_true, bind_assoc, pure_bind]
      congr 1
      funext ok
      cases ok
      · exact tests_false _ _
      · rfl
    rw [e]
    refine (h q (.head _)).bind (K₁ := fun c => if c = true then alls true (r.map Prod.snd) K else K c) hd I fun t c s₁ I₁ k₁ hk e => ?_
    subst e
    cases t
    · exact EvR.pure I₁ hk rfl
    · exact tests_ok (fun x m => h x (.tail _ m)) K s₁ hk I₁
noncomputable def compFx (fx : Fx) (scope : Scope) (C : Addr) (x : Str) (X : Addr → Prop) : Fx :=
  { fx with env := compEnvC scope (clOf fx.env.cells scope.names []) C fx.env, ρ := (x, fx.nf) :: fx.ρ.filter (fun p => scope.names.lookup p.1 == some .free), nf := fx.nf + 1, Mo := fun b => fx.Mo b ∨ X b, pl := fun k => if k = fx.nf then .ns C x else fx.pl k }
structure CompOk (fx : Fx) (scope : Scope) (x : Str) : Prop where
  kind : scope.kind = .function
  loc : scope.names.lookup x = some .local
  nocell : ∀ y ∈ scope.names, y.2 ≠ .cell
  names : ∀ y ∈ scope.names, y.2 = .local → scope.names.lookup y.1 = some .local
  free : ∀ n, (n, NameKind.free) ∈ scope.names → fx.env.kindOf n = some .cell ∨ fx.env.kindOf n = some .free
  cells : freeOk fx.env.cells scope.names
  room : fx.nf + 1 ≤ fx.ns
section
variable {Φ : Ct} {s s₀ s₂ : Shared} {X : Addr → Prop} {scope : Scope} {x : Str} {C : Addr}
theorem compFx_addr {fx : Fx} {k : Nat} {a : Addr} (h : ((compFx fx scope C x X).pl k).addr = some a) : a = C ∨ (fx.pl k).addr = some a := by
  have h : (if k = fx.nf then Pl.ns C x else fx.pl k).addr = some a := h
  by_cases e : k = fx.nf
  · rw [if_pos e] at h; cases h; exact .inl rfl
  · rw [if_neg e] at h; exact .inr h
theorem CompOk.toFx {fx : Fx} (c : CompOk fx scope x) (ok : FxOk fx) (hC : ∀ j, (fx.pl j).addr ≠ some C) : FxOk (compFx fx scope C x X) where
  gr := ok.gr
  hand := ok.hand
  kind := c.kind
  globals := ok.globals
  builtins := ok.builtins
  vis := fun y k hy => by
    have kn : ∀ y, (compFx fx scope C x X).env.kindOf y = (relab fx.env.scope.names scope.names).lookup y := fun y => by
      show (relabel scope fx.env).names.lookup y = _
      rw [relabel_names ok.kind]
    have hy : ((x, fx.nf) :: fx.ρ.filter (fun p => scope.names.lookup p.1 == some .free)).lookup y = some k := hy
    rw [List.lookup_cons] at hy
    cases hb : y == x with
    | true =>
      rw [hb] at hy; cases hy
      cases eq_of_beq hb
      exact .inl ⟨by rw [kn, relab_lookup, c.loc]; rfl, if_pos rfl⟩
    | false =>
      rw [hb] at hy
      obtain ⟨hf, hk⟩ := filter_lookup (p := fun y => scope.names.lookup y == some .free) hy
      have hf := eq_of_beq hf
      have hm := mem_lookup hf
      right
      refine ⟨?_, ?_⟩
      · rw [kn, relab_lookup, hf]
        simp only [Option.map_some, beq_self_eq_true, Bool.true_and]
        split
        · exact .inl rfl
        · exact .inr rfl
      · obtain ⟨cc, hcc⟩ := c.cells y hm
        refine ⟨cc, clOf_mem _ _ _ _ _ hcc (.inl hm) (fun d hd => by cases hd), ?_⟩
        rcases ok.vis y k hk with ⟨q, _⟩ | ⟨_, c', hc', hp⟩
        · rcases c.free y hm with q' | q' <;> rw [q] at q' <;> cases q'
        · rw [hcc] at hc'; cases hc'
          exact (if_neg fun q => by rw [ok.offs k (Nat.le_of_eq q.symm)] at hp; cases hp).trans hp
  inj := fun k j e hne => by
    have e : (if k = fx.nf then Pl.ns C x else fx.pl k) = (if j = fx.nf then Pl.ns C x else fx.pl j) := e
    have hne : (if k = fx.nf then Pl.ns C x else fx.pl k) ≠ .off := hne
    by_cases h1 : k = fx.nf <;> by_cases h2 : j = fx.nf
    · exact h1.trans h2.symm
    · rw [if_pos h1, if_neg h2] at e; exact absurd (by rw [← e]; rfl) (hC j)
    · rw [if_neg h1, if_pos h2] at e; exact absurd (by rw [e]; rfl) (hC k)
    · rw [if_neg h1, if_neg h2] at e; rw [if_neg h1] at hne; exact ok.inj k j e hne
  apart := fun k j a y cc e1 e2 => by
    have e1 : (if k = fx.nf then Pl.ns C x else fx.pl k) = .ns a y := e1
    have e2 : (if j = fx.nf then Pl.ns C x else fx.pl j) = .cell cc := e2
    by_cases h2 : j = fx.nf
    · rw [if_pos h2] at e2; cases e2
    · rw [if_neg h2] at e2
      by_cases h1 : k = fx.nf
      · rw [if_pos h1] at e1; cases e1; exact fun q => hC j (by rw [e2, q]; rfl)
      · rw [if_neg h1] at e1; exact ok.apart k j a y cc e1 e2
  offs := fun k hk => (if_neg (Nat.ne_of_gt hk)).trans (ok.offs k (Nat.le_of_succ_le hk))
  nfs := c.room
  room := ok.room
  units := ok.units
  call := ok.call
theorem comp_own {oa : Nat → Option Addr} {G : Gs} {a : Addr} (q : (Ct.mk (compFx Φ.fx scope C x X) oa G).own a) (h : oa = Φ.oa) : a = C ∨ Φ.own a := by
  subst h
  rcases q with ⟨j, q⟩ | q
  · exact (compFx_addr q).imp id fun q => .inl ⟨j, q⟩
  · exact .inr (.inr q)
theorem own_comp {a : Addr} (I : Inv Φ s) (q : Φ.own a) : (Ct.mk (compFx Φ.fx scope C x X) Φ.oa Φ.G).own a := by
  rcases q with ⟨j, q⟩ | q
  · exact .inl ⟨j, by show (if j = Φ.fx.nf then Pl.ns C x else Φ.fx.pl j).addr = some a; rw [if_neg fun e => by rw [I.ok.offs j (Nat.le_of_eq e.symm)] at q; cases q]; exact q⟩
  · exact .inr q
theorem Inv.comp (c : CompOk Φ.fx scope x) (I : Inv Φ s₀) (B : Base Φ.fx.g s) (k : Keeps s₀.heap s.heap) (hX : ∀ b, X b → s₀.heap.get? b = none ∧ Live s.heap b ∧ b ≠ C) (hC0 : s₀.heap.get? C = none) (hC : s.heap.Ns C fun _ => none) :
    Inv ⟨compFx Φ.fx scope C x X, Φ.oa, Φ.G⟩ s ∧ MapK Φ.bad (Ct.mk (compFx Φ.fx scope C x X) Φ.oa Φ.G).bad s₀.heap s.heap := by
  have hCl : Live s.heap C := by obtain ⟨o, _, _, e, _⟩ := hC; exact ⟨o, e⟩
  have hCp : ∀ j, (Φ.fx.pl j).addr ≠ some C := fun j e => (I.new C (.inl ⟨j, e⟩)).1.elim fun o e => no_some hC0 e
  have mk : MapK Φ.bad (Ct.mk (compFx Φ.fx scope C x X) Φ.oa Φ.G).bad s₀.heap s.heap := fun b o e n => by
    refine ⟨fun q => ?_, k b o e⟩
    rcases q with (q | q) | q
    · exact n (.inl q)
    · exact no_some (hX b q).1 e
    · exact (comp_own (Φ := Φ) q rfl).elim (fun q => no_some hC0 (q ▸ e)) fun q => n (.inr q)
  refine ⟨⟨c.toFx I.ok hCp, B, fun j => ?_, fun a q => ?_, I.inj, fun j a e i q => ?_, I.gl, fun a q => q.elim (fun q => k.live (I.mo a q)) fun q => (hX a q).2.1⟩, mk⟩
  · obtain ⟨v, r, so⟩ := I.slot j
    have so' := so.map mk fun a _ o e => k a o e
    by_cases hj : j = Φ.fx.nf
    · rw [I.ok.offs j (Nat.le_of_eq hj.symm)] at r
      cases r
      refine ⟨none, ?_, so'⟩
      show PlRead s.heap (if j = Φ.fx.nf then Pl.ns C x else Φ.fx.pl j) none
      rw [if_pos hj]
      exact ⟨_, hC, rfl⟩
    · refine ⟨v, ?_, so'⟩
      show PlRead s.heap (if j = Φ.fx.nf then Pl.ns C x else Φ.fx.pl j) v
      rw [if_neg hj]
      exact r.keep k
  · rcases comp_own (Φ := Φ) q rfl with rfl | q
    · exact ⟨hCl, none_of (fun l => I.base.stays.live l) hC0, fun z => z.elim (fun z => (I.mo a z).elim fun o e => no_some hC0 e) fun z => (hX a z).2.2 rfl⟩
    · obtain ⟨⟨o, e⟩, n, m⟩ := I.new a q
      exact ⟨⟨o, k a o e⟩, n, fun z => z.elim m fun z => no_some (hX a z).1 e⟩
  · rcases compFx_addr q with rfl | q
    · exact (I.new a (.inr ⟨j, e⟩)).1.elim fun o e => no_some hC0 e
    · exact I.off j a e i q
end
end Mine
end

noncomputable section
set_option maxRecDepth 100000
set_option linter.unusedVariables false
namespace Mine
open PySem PySem.Calls PyProof.Rows PySem.W

theorem plain_at {h h' : Heap} {D : Addr} {vs : Array Value} (p : h.PlainList D vs) (k : ∀ o, h.get? D = some o → h'.get? D = some o) : h'.PlainList D vs := p.elim fun c e => ⟨c, k _ e⟩
theorem plain_live {h : Heap} {D : Addr} {vs : Array Value} (p : h.PlainList D vs) : Live h D := p.elim fun c e => ⟨_, e⟩
theorem put_same {Φ : Ct} {k : Nat} {sl : Slot} (h : Φ.oa k = none) : Φ.put k none sl = ⟨Φ.fx, Φ.oa, Φ.G.set k sl⟩ := by
  unfold Ct.put
  congr 1
  funext j
  by_cases e : j = k
  · rw [if_pos e, e, h]
  · exact if_neg e
section
variable {Φ : Ct} {s s₀ s₂ : Shared} {scope : Scope} {x : Str}
noncomputable def CompEnd (Φ : Ct) (s₀ : Shared) (K : List V → Prop) (D C : Addr) (s' : Shared) : Prop :=
  ∃ m ys, Base Φ.fx.g s' ∧ Keeps s₀.heap s'.heap ∧ s₀.heap.get? C = none ∧ s₀.heap.get? D = none ∧ D ≠ C ∧ s'.heap.Ns C m ∧ K ys ∧ ∃ vs, s'.heap.PlainList D vs ∧ RpAll Φ.fx.g (fun b => Φ.bad b ∨ b = C) s'.heap vs.toList ys
theorem comp_core {elt iter : Expr} {ifs : List Expr} {pos py : Pos} {l : List V} {it : Value} {de : D} {ts : List D} {K : List V → Prop} {RR : Value → Addr → Result → Shared → Prop} {E : Value → Shared → Prop}
    (c : CompOk Φ.fx scope x) (I₀ : Inv Φ s₀) (gr : Grown s₀ s₂) (fa : FeedAt Φ (.Name x py) false s₀ s₂ it l)
    (helt : ∀ C X oa G, Ev ⟨compFx Φ.fx scope C x X, oa, G⟩ (eval elt (compFx Φ.fx scope C x X).env) (de G))
    (htest : ∀ C X oa G, EvT ⟨compFx Φ.fx scope C x X, oa, G⟩ (testsT ifs (compFx Φ.fx scope C x X).env) (boolsD true ts G))
    (er : compL de ts Φ.fx.nf Φ.G l K)
    (hK : ∀ D C s', CompEnd Φ s₀ K D C s' → RR (.ref D) C (.ok .next) s') :
    wpAny (model Φ.fx.g.prog Φ.fx.g.w) Φ.fx.A (newList []) (fun acc s₃ => wpAny (model Φ.fx.g.prog Φ.fx.g.w) Φ.fx.A (newFunctionEnv scope Φ.fx.env.globals (clOf Φ.fx.env.cells scope.names []) [] Φ.fx.env.qual none .none (some Φ.fx.env)) (fun cenv s₄ =>
      codeAny (model Φ.fx.g.prog Φ.fx.g.w) Φ.fx.A (.compStart (.ListComp elt [⟨.Name x py, iter, ifs, 0⟩] scope pos) 0 it acc { cenv with scope := relabel scope Φ.fx.env }) (RR acc cenv.locals) s₄) E s₃) E s₂ := by
  refine gen_goal fun Z kZ => ?_
  obtain ⟨J, fp, wr, vals, l0, Sp, rfl, F, st0, rv, hwr, hfp, hsz⟩ := fa
  refine kZ (wpAny_newObj_type (wpAny_newFunctionEnv c.nocell (fun y hy => nomatch hy) (fun h₁ hns₁ hsb₁ => ?_) c.kind))
  clear kZ
  dsimp only at hns₁ hsb₁ ⊢
  generalize hH2 : s₂.heap.push { cls := .type "list", dict := none, data := .seq ([] : List Value).toArray } = H2 at hns₁ hsb₁ ⊢
  have hDn : s₂.heap.get? s₂.heap.objs.size = none := size_none _
  have hD0 : s₀.heap.get? s₂.heap.objs.size = none := none_of gr.keeps.live hDn
  have up1 : ∀ b o, s₂.heap.get? b = some o → H2.get? b = some o := fun b o e => hH2 ▸ Heap.get?_push_of_some _ e
  have hD1 : H2.get? s₂.heap.objs.size = some { cls := .type "list", dict := none, data := .seq ([] : List Value).toArray } := hH2 ▸ Heap.get?_push_size _ rfl
  have hCn : H2.get? H2.objs.size = none := size_none _
  have hC2 : s₂.heap.get? H2.objs.size = none := none_of (fun l => l.elim fun o e => ⟨o, up1 _ o e⟩) hCn
  have hC0 : s₀.heap.get? H2.objs.size = none := none_of gr.keeps.live hC2
  have hDC : s₂.heap.objs.size ≠ H2.objs.size := fun q => no_some hCn (q ▸ hD1)
  have up2 : ∀ b o, b ≠ H2.objs.size → H2.get? b = some o → h₁.get? b = some o := fun b o n e => hsb₁.extBut b o n (Heap.get?_push_of_some _ e)
  have up : Keeps s₂.heap h₁ := fun b o e => up2 b o (fun q => no_some hC2 (q ▸ e)) (up1 b o e)
  have hDh : h₁.PlainList s₂.heap.objs.size #[] := ⟨_, up2 _ _ hDC hD1⟩
  generalize hDD : s₂.heap.objs.size = D at hDn hD0 hD1 hDC hDh ⊢
  generalize hCC : H2.objs.size = C at hns₁ hsb₁ hCn hC0 hC2 hDC up2 ⊢
  have gr' : Grown s₀ { s₂ with heap := h₁, toks := s₂.toks + ([] : List (Str × Value)).length } := gr.trans ⟨up, rfl, rfl⟩
  let X : Addr → Prop := fun b => (b ∈ fp ∧ s₀.heap.get? b = none) ∨ b = D
  have fpl : ∀ b ∈ fp, Live s₂.heap b := fun b hb => F.live 0 _ b st0 hb
  have fpC : ∀ b ∈ fp, b ≠ C := fun b hb q => (fpl b hb).elim fun o e => no_some hC2 (q ▸ e)
  have fpD : ∀ b ∈ fp, b ≠ D := fun b hb q => (fpl b hb).elim fun o e => no_some hDn (q ▸ e)
  have hXp : ∀ b, X b → s₀.heap.get? b = none ∧ Live h₁ b ∧ b ≠ C := fun b q => by
    rcases q with ⟨q, n⟩ | rfl
    · exact ⟨n, up.live (fpl b q), fpC b q⟩
    · exact ⟨hD0, plain_live hDh, hDC⟩
  obtain ⟨I₁, mk₁⟩ := I₀.comp (X := X) c (I₀.base.grown gr') gr'.keeps hXp hC0 hns₁
  let cfx := compFx Φ.fx scope C x X
  have hoa : Φ.oa Φ.fx.nf = none := by
    obtain ⟨v, r, so⟩ := I₀.slot Φ.fx.nf
    rw [I₀.ok.offs _ (Nat.le_refl _)] at r
    cases r
    generalize getSlot Φ.G Φ.fx.nf = sl at so
    cases sl with
    | unset => exact so.1
    | v x => obtain ⟨_, _, q, _⟩ := so; cases q
    | _ => obtain ⟨_, _, _, q, _⟩ := so; cases q
  have wrX : ∀ b ∈ wr, cfx.Mo b := fun b m => .inr (.inl ⟨F.sub b m, hwr b m⟩)
  have wr0 : ∀ b ∈ wr, Φ.fx.g.h0.get? b = none := fun b m => none_of (fun l => I₀.base.stays.live l) (hwr b m)
  have D0 : Φ.fx.g.h0.get? D = none := none_of (fun l => I₀.base.stays.live l) hD0
  have wrD : D ∉ wr := fun m => fpD D (F.sub D m) rfl
  have st1 : Sp 0 h₁ := F.frame _ _ _ st0 fun b _ o e => up b o e
  have hTg : TgtOk cfx.ρ cfx.env x Φ.fx.nf := ⟨by show ((x, Φ.fx.nf) :: _).lookup x = _; rw [List.lookup_cons, beq_self_eq_true], by
    show (relabel scope Φ.fx.env).names.lookup x ≠ _
    rw [relabel_names I₀.ok.kind, relab_lookup, c.loc]; exact nofun⟩
  have plC : (cfx.pl Φ.fx.nf).addr = some C := by show (if Φ.fx.nf = Φ.fx.nf then Pl.ns C x else _).addr = _; rw [if_pos rfl]; rfl
  have loop : codeAny (model Φ.fx.g.prog Φ.fx.g.w) Φ.fx.A (.compLoop (.ListComp elt [⟨.Name x py, iter, ifs, 0⟩] scope pos) 0 (.ref J) (.ref D) cfx.env) (RR (.ref D) C) { s₂ with heap := h₁, toks := s₂.toks + ([] : List (Str × Value)).length } := by
    let LC : Nat → Shared → Prop := fun n s' => ∃ i G' zs vs, n = l.length - i ∧ i ≤ l.length ∧ Sp i s'.heap ∧ Inv ⟨cfx, Φ.oa, G'⟩ s' ∧ (∀ z, G'.set Φ.fx.nf z = Φ.G.set Φ.fx.nf z) ∧ Keeps s₀.heap s'.heap ∧ (Ct.mk cfx Φ.oa Φ.G).rps s'.heap vals l0 ∧
      s'.heap.PlainList D vs ∧ (Ct.mk cfx Φ.oa Φ.G).rps s'.heap vs.toList zs ∧ zs.length ≤ i ∧ compL de ts Φ.fx.nf Φ.G (l.drop i) fun ys => K (zs ++ ys)
    refine compLoop_any LC ?_ l.length ⟨0, Φ.G, [], #[], rfl, Nat.zero_le _, st1, I₁, fun _ => rfl, gr'.keeps, rv.map mk₁, hDh, .nil, Nat.zero_le _, er⟩
    intro n s' hLC
    refine gen_goal fun Z kZ => ?_
    obtain ⟨i, G', zs, vs, rfl, hi, st, I', hG, kx, rv', hD', rz, hz, ec⟩ := hLC
    cases hx : l[i]? with
    | none =>
      have hil : i = l.length := Nat.le_antisymm hi (List.getElem?_eq_none_iff.mp hx)
      subst hil
      rw [List.drop_length] at ec
      refine kZ (F.over st fun h' tk hk => hK D C _ ?_)
      have kC : ∀ b o, s'.heap.get? b = some o → b ∉ wr → h'.get? b = some o := fun b o e n => hk b o n e
      obtain ⟨v, ⟨m, hn, hv⟩, _⟩ : ∃ v, (∃ m, s'.heap.Ns C m ∧ m x = v) ∧ True := by
        obtain ⟨v, r, _⟩ := I'.slot Φ.fx.nf
        have r : PlRead s'.heap (if Φ.fx.nf = Φ.fx.nf then Pl.ns C x else Φ.fx.pl Φ.fx.nf) v := r
        rw [if_pos rfl] at r
        exact ⟨v, r, trivial⟩
      refine ⟨m, zs, ⟨fun b o e => hk b o (fun q => no_some (wr0 b q) e) (I'.base.stays b o e), I'.base.os, I'.base.gens⟩, fun b o e => hk b o (fun q => no_some (hwr b q) e) (kx b o e), hC0, hD0, hDC, hn.at' fun o e => hk C o (fun q => fpC C (F.sub C q) rfl) e, ?_, vs, plain_at hD' fun o e => hk D o wrD e, rz.map fun b o e n => ⟨fun q => n ?_, hk b o (fun q => n (.inl (wrX b q))) e⟩⟩
      · have ec : K (zs ++ []) := ec
        rwa [List.append_nil] at ec
      · rcases q with q | rfl
        · exact q.imp .inl fun q => own_comp (X := X) I₀ q
        · exact .inr (.inl ⟨_, plC⟩)
    | some y =>
      have hil := (List.getElem?_eq_some_iff.mp hx).1
      have ed : l.drop i = y :: l.drop (i + 1) := by rw [List.drop_eq_getElem_cons hil]; congr 1; exact (List.getElem?_eq_some_iff.mp hx).2
      rw [ed] at ec
      refine kZ (F.turn (bad := (Ct.mk cfx Φ.oa G').bad) hx st rv' (fun a q => I'.badLive q) (fun b m => .inl (wrX b m)) fun v h' tk st' hk rx => ?_)
      clear kZ
      refine gen_goal fun Z kZ => ?_
      have I3 : Inv ⟨cfx, Φ.oa, G'⟩ { s' with heap := h', toks := tk } := Inv.others (Φ := ⟨cfx, Φ.oa, G'⟩) (Mo₂ := cfx.Mo) I' hk wrX wr0 (fun a q => q) fun a q => by
        by_cases nw : a ∈ wr
        · exact F.live _ _ a st' (F.sub a nw)
        · exact (I'.mo a q).elim fun o e => ⟨o, hk a o nw e⟩
      have mk3 : MapK (Ct.mk cfx Φ.oa Φ.G).bad (Ct.mk cfx Φ.oa Φ.G).bad s'.heap h' := fun b o e n => ⟨n, hk b o (fun m => n (.inl (wrX b m))) e⟩
      refine kZ (wpAny_mono (tgt1 (Φ := ⟨cfx, Φ.oa, G'⟩) hTg I3 rx _) (fun _ s₄ q => ?_) fun _ _ z => z)
      clear kZ
      refine gen_goal fun Z kZ => ?_
      obtain ⟨I4, _, k4⟩ := q
      rw [put_same (Φ := ⟨cfx, Φ.oa, G'⟩) hoa] at I4
      have I4 : Inv ⟨cfx, Φ.oa, G'.set Φ.fx.nf (.v y)⟩ s₄ := I4
      rw [hG] at I4
      have kC : ∀ b o, b ≠ C → h'.get? b = some o → s₄.heap.get? b = some o := fun b o n e => k4 b o e fun q => n (Option.some.inj (q.symm.trans plC))
      have mk4 : MapK (Ct.mk cfx Φ.oa Φ.G).bad (Ct.mk cfx Φ.oa Φ.G).bad h' s₄.heap := fun b o e n => ⟨n, kC b o (fun q => n (.inr (.inl ⟨_, q ▸ plC⟩))) e⟩
      have kx4 : Keeps s₀.heap s₄.heap := fun b o e => kC b o (fun q => no_some hC0 (q ▸ e)) (hk b o (fun q => no_some (hwr b q) e) (kx b o e))
      have st4 : Sp (i + 1) s₄.heap := F.frame _ _ _ st' fun b hb o e => kC b o (fpC b hb) e
      have rv4 := (rv'.map mk3).map mk4
      have rz4 := (rz.map mk3).map mk4
      have hD4 : s₄.heap.PlainList D vs := plain_at hD' fun o e => kC D o hDC (hk D o wrD e)
      refine kZ (wpAny_mono (htest C X Φ.oa (Φ.G.set Φ.fx.nf (.v y)) _ s₄ ec I4 _) (fun b' s₅ ⟨B5, k5, c5, hc5, e5⟩ => ?_) fun _ _ z => z)
      clear kZ
      refine gen_goal fun Z kZ => ?_
      subst e5
      have I5 := I4.keep B5 k5
      have st5 : Sp (i + 1) s₅.heap := F.frame _ _ _ st4 fun b hb o e => k5 b o e
      have hD5 : s₅.heap.PlainList D vs := plain_at hD4 fun o e => k5 D o e
      have hGs : ∀ z, (Φ.G.set Φ.fx.nf (.v y)).set Φ.fx.nf z = Φ.G.set Φ.fx.nf z := fun z => List.set_set ..
      cases b' with
      | false => exact kZ ⟨l.length - (i + 1), by omega, i + 1, _, zs, vs, rfl, hil, st5, I5, hGs, kx4.trans k5, rv4.keep k5, hD5, rz4.keep k5, Nat.le_succ_of_le hz, hc5⟩
      | true =>
        refine kZ (wpAny_mono (helt C X Φ.oa (Φ.G.set Φ.fx.nf (.v y)) _ s₅ hc5 I5 _) (fun yv s₆ ⟨B6, k6, z, hz6, rz6⟩ => ?_) fun _ _ z => z)
        clear kZ
        refine gen_goal fun Z kZ => ?_
        have I6 := I5.keep B6 k6
        have hD6 : s₆.heap.PlainList D vs := plain_at hD5 fun o e => k6 D o e
        have rzs := (rz4.keep k5).keep k6
        refine kZ (wpAny_list_append_plain (hsz := sz_le (by rw [all_size (Φ := ⟨cfx, Φ.oa, Φ.G⟩) rzs]; omega)) hD6 fun h₇ hD7 hs7 => ?_)
        have k7 : ∀ b o, b ∉ [D] → s₆.heap.get? b = some o → h₇.get? b = some o := fun b o n e => hs7.extBut b o (fun q => n (by rw [q]; exact .head _)) e
        have I7 : Inv ⟨cfx, Φ.oa, Φ.G.set Φ.fx.nf (.v y)⟩ { s₆ with heap := h₇, toks := s₆.toks } := Inv.others (Φ := ⟨cfx, Φ.oa, Φ.G.set Φ.fx.nf (.v y)⟩) (Mo₂ := cfx.Mo) I6 k7 (fun b m => by cases List.mem_singleton.mp m; exact .inr (.inr rfl)) (fun b m => by cases List.mem_singleton.mp m; exact D0) (fun a q => q) fun a q => by
          by_cases nd : a = D
          · subst nd; exact plain_live hD7
          · exact (I6.mo a q).elim fun o e => ⟨o, hs7.extBut a o nd e⟩
        have mk7 : MapK (Ct.mk cfx Φ.oa Φ.G).bad (Ct.mk cfx Φ.oa Φ.G).bad s₆.heap h₇ := fun b o e n => ⟨n, hs7.extBut b o (fun q => n (.inl (.inr (.inr q)))) e⟩
        refine ⟨l.length - (i + 1), by omega, i + 1, _, zs ++ [z], vs.push yv, rfl, hil, F.frame _ _ _ st5 fun b hb o e => hs7.extBut b o (fpD b hb) (k6 b o e), I7, hGs, fun b o e => hs7.extBut b o (fun q => no_some hD0 (q ▸ e)) (k6 b o (k5 b o (kx4 b o e))), ((rv4.keep k5).keep k6).map mk7, hD7, ?_, by rw [List.length_append]; exact Nat.succ_le_succ hz, ?_⟩
        · rw [Array.toList_push]
          exact (rzs.map mk7).append (.cons (rz6.map mk7) .nil)
        · have e : (fun ys => K (zs ++ [z] ++ ys)) = fun ys => K (zs ++ (z :: ys)) := funext fun ys => by rw [List.append_assoc]; rfl
          rw [e]; exact hz6
  exact codeAny_compStart_list loop (F.self 0 _ _ _ st1 loop)
end
end Mine
end

noncomputable section
set_option maxRecDepth 100000
set_option linter.unusedVariables false
namespace Mine
open PySem PySem.Calls PyProof.Rows PySem.W

theorem manyD_eq (ds : List D) (G : Gs) : manyD ds G = manyV (ds.map (· G)) := by
  induction ds with
  | nil => rfl
  | cons d r ih => exact funext fun f => congrArg (d G) (funext fun x => congrFun ih fun xs => f (x :: xs))
theorem boolsD_eq (b : Bool) (ds : List D) (G : Gs) : boolsD b ds G = alls b (ds.map (· G)) := by
  induction ds with
  | nil => rfl
  | cons d r ih => exact funext fun f => congrArg (d G) (funext fun x => congrArg (okK (boolO x some)) (funext fun c => congrArg (fun z => if c = b then z else f c) (congrFun ih f)))
section
variable {Φ : Ct} {s s₀ : Shared} {scope : Scope} {x : Str}
theorem CompEnd.rp {K : List V → Prop} {D C : Addr} {s' : Shared} (I₀ : Inv Φ s₀) (ce : CompEnd Φ s₀ K D C s') : ∃ ys, K ys ∧ Rp Φ.fx.g (fun b => Φ.bad b ∨ b = C) s'.heap (.ref D) (.list ys) := by
  obtain ⟨m, ys, B, kx, hC0, hD0, hDC, hn, ky, vs, ⟨c, hP⟩, rp⟩ := ce
  exact ⟨ys, ky, .list (fun q => q.elim (fun q => (I₀.badLive q).elim fun o e => no_some hD0 e) hDC) hP ⟨rfl, rfl⟩ rfl rp⟩
theorem ev_comp {elt iter : Expr} {ifs : List Expr} {pos py : Pos} {ds : (List V → Prop) → Prop} {de : D} {ts : List D} (c : CompOk Φ.fx scope x) (hset : notSet iter = true) (hsrc : EvSrc Φ (.Name x py) false iter ds)
    (helt : ∀ C X oa G, Ev ⟨compFx Φ.fx scope C x X, oa, G⟩ (eval elt (compFx Φ.fx scope C x X).env) (de G))
    (htest : ∀ C X oa G, EvT ⟨compFx Φ.fx scope C x X, oa, G⟩ (testsT ifs (compFx Φ.fx scope C x X).env) (boolsD true ts G)) :
    Ev Φ (eval (.ListComp elt [⟨.Name x py, iter, ifs, 0⟩] scope pos) Φ.fx.env) (fun K => ds fun xs => compL de ts Φ.fx.nf Φ.G xs fun ys => K (.list ys)) := fun K s hd I E => by
  rw [eval_ListComp]
  refine wpAny_comprehension_free (use := none) rfl (folded_no hset) (closure_eq c.cells) c.kind c.names (hsrc _ s hd I _ _ fun l s₀ it s₂ kl I₀ k₀ gr fa => comp_core (RR := fun acc C => compPost _ Φ.fx.A E none (Post Φ Φ.rp s K) acc C) c I₀ gr fa helt htest kl fun D C s' ce => ?_)
  obtain ⟨ys, ky, rp⟩ := ce.rp I₀
  obtain ⟨m, _, B, kx, hC0, _, _, hn, _⟩ := ce
  have h0 : Φ.fx.g.h0.get? C = none := none_of (fun l => I₀.base.stays.live l) hC0
  exact ⟨m, hn, fun h' hs => ⟨⟨fun b o e => hs.extBut b o (fun q => no_some h0 (q ▸ e)) (B.stays b o e), B.os, B.gens⟩, fun b o e => hs.extBut b o (fun q => no_some hC0 (q ▸ k₀ b o e)) (kx b o (k₀ b o e)), _, ky, rp.map fun b o e n => ⟨fun q => n (.inl q), hs.extBut b o (fun q => n (.inr q)) e⟩⟩⟩
noncomputable def swapB (sc : List (Str × NameKind)) (scope : Scope) (y : Str) (py vp : Pos) : Bool := sc.lookup y == some .local && py.line == vp.line && !(scope.names.any fun (n, k) => n == y && (k == .local || k == .cell))
theorem swap_eq {fx : Fx} {elt : Expr} {gens : List Comprehension} {pos py : Pos} {y : Str} {n : Nat} (hk : fx.env.scope.kind = .function) : swapsWith (.ListComp elt gens scope pos) (some (.Name y py)) n fx.env = pure (swapB fx.env.scope.names scope y py pos) := by
  have hb : (fx.env.blockKind == ScopeKind.function) = true := by unfold Env.blockKind; rw [hk]; rfl
  show (pure (fx.env.blockKind == ScopeKind.function && _ && _ && _) : Sem Bool) = _
  rw [hb]
  rfl
theorem ex_assign_comp {fx : Fx} {elt iter : Expr} {ifs : List Expr} {pos py p' spos : Pos} {y : Str} {k : Nat} {ds : Gs → (List V → Prop) → Prop} {de : D} {ts : List D} (c : CompOk fx scope x) (hset : notSet iter = true) (hsrc : ∀ oa G, EvSrc ⟨fx, oa, G⟩ (.Name x py) false iter (ds G))
    (helt : ∀ C X oa G, Ev ⟨compFx fx scope C x X, oa, G⟩ (eval elt (compFx fx scope C x X).env) (de G))
    (htest : ∀ C X oa G, EvT ⟨compFx fx scope C x X, oa, G⟩ (testsT ifs (compFx fx scope C x X).env) (boolsD true ts G)) (hT : TgtOk fx.ρ fx.env y k) :
    ExB fx (exec (.Assign [.Name y p'] (.ListComp elt [⟨.Name x py, iter, ifs, 0⟩] scope pos) spos) fx.env) (fun G K => ds G fun xs => compL de ts fx.nf G xs fun ys => K none (G.set k (.v (.list ys)))) := fun oa G K s hd I E => by
  cases hsw : swapB fx.env.scope.names scope y p' pos with
  | false => exact ex_assign (fx := fx) (d := fun G K => ds G fun xs => compL de ts fx.nf G xs fun ys => K (.list ys)) (by rw [swap_eq I.ok.kind, hsw]) hT (fun oa G => ev_comp (Φ := ⟨fx, oa, G⟩) c hset (hsrc oa G) helt htest) oa G K s hd I E
  | true =>
    rw [exec_Assign_Name_used _ _ _ _ ((swap_eq I.ok.kind).trans (by rw [hsw]))]
    refine wpAny_bind (wpAny_standAt (wpAny_bind ?_))
    show wpAny _ _ (do let _ ← comprehension (.ListComp elt [⟨.Name x py, iter, ifs, 0⟩] scope pos) scope fx.env _ (newList []) false (eval iter fx.env) (some (assign (.Name y p') fx.env))) _ _ s
    refine wpAny_bind (wpAny_mono (wpAny_comprehension_free (use := some (assign (.Name y p') fx.env)) (Q := fun _ s' => PostS ⟨fx, oa, G⟩ s K .next s') (E := E) rfl (folded_no hset) (closure_eq c.cells) c.kind c.names ?_) (fun _ s' hq => wpAny_pure (wpAny_pure hq)) fun _ _ z => z)
    refine hsrc oa G _ s hd I _ _ fun l s₀ it s₂ kl I₀ k₀ gr fa => comp_core (Φ := ⟨fx, oa, G⟩) (RR := fun acc C => compPost _ fx.A E (some (assign (.Name y p') fx.env)) (fun _ s' => PostS ⟨fx, oa, G⟩ s K .next s') acc C) c I₀ gr fa helt htest kl fun D C s' ce => ?_
    obtain ⟨ys, ky, rp⟩ := ce.rp I₀
    obtain ⟨m, _, B, kx, hC0, _, _, hn, _⟩ := ce
    have h0 : fx.g.h0.get? C = none := none_of (fun l => I₀.base.stays.live l) hC0
    have hCl : Live s'.heap C := by obtain ⟨o, _, _, e, _⟩ := hn; exact ⟨o, e⟩
    have I' : Inv ((Ct.mk fx oa G).mo (· = C)) s' := I₀.more B kx (fun b q => q ▸ hC0) fun b q => q ▸ hCl
    show wpAny _ _ (assign (.Name y p') fx.env (.ref D)) _ _ _
    refine wpAny_mono (tgt1 (Φ := (Ct.mk fx oa G).mo (· = C)) hT I' (rp.map fun b o e n => ⟨fun q => n (q.elim (fun q => q.elim (fun q => .inl (.inl q)) .inr) fun q => .inl (.inr q)), e⟩) E) (fun _ s₅ ⟨I5, t5, k5⟩ => ?_) fun _ _ z => z
    have hpC : (fx.pl k).addr ≠ some C := fun q => (I₀.new C (.inl ⟨k, q⟩)).1.elim fun o e => no_some hC0 e
    refine ⟨m, hn.at' fun o e => k5 C o e hpC, fun h' hs => ?_⟩
    have kC : ∀ b o, b ∉ [C] → s₅.heap.get? b = some o → h'.get? b = some o := fun b o n e => hs.extBut b o (fun q => n (by rw [q]; exact .head _)) e
    have I6 := Inv.others (tk := s₅.toks) (Φ := ((Ct.mk fx oa G).mo (· = C)).put k none (.v (.list ys))) (Mo₂ := fx.Mo) I5 kC (fun b m => by cases List.mem_singleton.mp m; exact .inr rfl) (fun b m => by cases List.mem_singleton.mp m; exact h0) (fun a q => .inl q)
      fun a q => (I5.mo a (.inl q)).elim fun o e => ⟨o, hs.extBut a o (fun z => (I₀.mo a q).elim fun o e => no_some hC0 (z ▸ e)) e⟩
    have t6 : Tr ⟨fx, oa, G⟩ s₀ ((Ct.mk fx oa G).put k none (.v (.list ys))) s₅ := (Tr.of_keeps kx).trans (Tr.mo (Φ := ⟨fx, oa, G⟩) (Φ' := (Ct.mk fx oa G).put k none (.v (.list ys))) (X := (· = C)) rfl t5)
    exact .next (Φ := ⟨fx, oa, G⟩) I6 ((Tr.of_keeps k₀).trans (t6.others (tk := s₅.toks) kC fun b m => by cases List.mem_singleton.mp m; exact hC0)) ky
end
end Mine
end

noncomputable section
set_option maxRecDepth 100000
set_option linter.unusedVariables false
namespace Mine
open PySem PySem.Calls PyProof.Rows PySem.W

section
variable {Φ : Ct} {s : Shared} {v u : Value} {x y z : V} {d d1 d2 d3 : DV}
theorem ev_chain {a b c : Expr} {pos : Pos} (hs : notSet c = true) (h1 : Ev Φ (eval a Φ.fx.env) d1) (h2 : Ev Φ (eval b Φ.fx.env) d2) (h3 : Ev Φ (eval c Φ.fx.env) d3) :
    Ev Φ (eval (.Compare a [.LtE, .Lt] [b, c] pos) Φ.fx.env) (fun K => d1 fun x => d2 fun y => okK (int2 x y fun i j => some (decide (i ≤ j))) fun t => if t = true then d3 fun z => okK (int2 y z fun i j => some (decide (i < j))) fun u => K (.bool u) else K (.bool false)) := fun K s hd I => by
  show Φ.wp (do
    let x ← eval a Φ.fx.env
    let y ← holding [x] (eval b Φ.fx.env)
    standAt pos
    let t ← holding [x, y] (compareOp .LtE x y)
    release [x, y] [t]
    if ← holding [t, y] (truthy t) then (do
      let z ← holding [y] (markedBehindIn .Lt c (eval c Φ.fx.env))
      standAt pos
      operate [y, z] (compareOp .Lt y z)) else pure t) _ s
  rw [not_marked hs]
  refine h1.bind hd I fun v x s₁ I₁ k₁ hx r1 => h2.holding.bind hx I₁ fun u y s₂ I₂ k₂ hy r2 => wp_stand ?_
  refine okK_elim hy fun t e kt E => wpAny_bind (wpAny_holding (wpAny_mono (cmp_ok (o := .LtE) (c := t) e I₂ (r1.keep k₂) r2 E) (fun w s' q => ?_) fun _ _ z => z))
  obtain ⟨rfl, rfl⟩ := q
  refine wpAny_bind (wpAny_release (wpAny_bind (wpAny_holding (wpAny_truthy_bool ?_))))
  cases t with
  | false => exact wpAny_pure ⟨I₂.base, .refl _, _, kt, .bool _⟩
  | true => exact h3.holding.bind kt I₂ (fun w z s₃ I₃ k₃ hz r3 => okK_elim hz fun c e kc => wp_stand (wp_operate fun E => wpAny_mono (cmp_ok (o := .Lt) e I₃ (r2.keep k₃) r3 E) (fun w s' q => by obtain ⟨rfl, rfl⟩ := q; exact ⟨I₃.base, .refl _, _, kc, .bool c⟩) fun _ _ z => z)) E
theorem ev_lenL {n : Str} {k : Nat} {fp pos p : Pos} (hx : glob Φ.fx.env.scope.names "len" = true) (hn : Φ.fx.ρ.lookup n = some k) (ho : okName n = true) :
    Ev Φ (eval (.Call (.Name "len" fp) [.Name n p] [] pos) Φ.fx.env) (fun K => okK (ownLO Φ.G k) fun l => okK (fitL l (.int l.length)) K) := fun K s hd I E => okK_elim hd fun l e hl => okK_elim hl fun z ez kz => by
  show wpAny _ _ (eval (.Name "len" fp) Φ.fx.env >>= fun F => callWith pos F [] (backTo pos (starEach [.Name n p] Φ.fx.env)) []) _ _ s
  refine wpAny_bind (name_blt (v := .builtin "len") I hx rfl ?_ E)
  refine callWith_builtin rfl (Calls.evalArgs_plain ?_)
  show wpAny _ _ (eval (.Name n p) Φ.fx.env >>= fun v => holding [v] (pure []) >>= fun vs => pure (v :: vs)) _ _ s
  refine wpAny_bind (own_read (C := fun _ => True) (sl := .ownL l) hn ho I (own_some e) id (fun a u ha ow => ?_) E)
  obtain ⟨rfl, o, vs, n, ho, hc, hd, hl⟩ := ow
  refine wpAny_bind (wpAny_holding (wpAny_pure (wpAny_pure ?_)))
  refine fit_elim (C := fun z => K z → _) ez (fun hz kz => ?_) kz
  exact step I kz (fun E => all_size hl ▸ PyProof.Rows.len_list ⟨_, ho, hc.1, _, hd⟩ (by rw [all_size hl]; exact sz63 hz) ⟨.toks _ _, .int _ _⟩) E
theorem max2_ok {a b : Int} {t t' : Tok} (I : Inv Φ s) : Φ.wp (call (.builtin "max") [.int a t, .int b t']) (Φ.Gives s (.int (max a b))) s := fun E =>
  max_two_ints I.ok.hand fun h' tk k => ⟨grown_of k, by
    by_cases q : b > a
    · rw [if_pos q, Int.max_eq_right (Int.le_of_lt q)]; exact .int _ _
    · rw [if_neg q, Int.max_eq_left (Int.not_lt.mp q)]; exact .int _ _⟩
theorem ev_max2 {fp pos : Pos} {qs : List (Expr × DV)} (hx : glob Φ.fx.env.scope.names "max" = true) (hq : ∀ q ∈ qs, plainE q.1 = true ∧ Good1 Φ q) : Ev Φ (eval (.Call (.Name "max" fp) (qs.map Prod.fst) [] pos) Φ.fx.env) (fun K => manyV (qs.map Prod.snd) fun xs => okK (opN .max2 xs) K) :=
  ev_callB (op := opN .max2) hx rfl (.inl ⟨_, rfl⟩) hq fun s vs xs z I rs e => two_elim (C := fun vs => Φ.wp (call (.builtin "max") vs) (Φ.Gives s z) s) e rs fun v u x y r1 r2 e => int2_ok (C := fun v u => Φ.wp (call (.builtin "max") [v, u]) (Φ.Gives s z) s) e r1 r2 fun i j t t' q => some_elim q (max2_ok I)
theorem ev_listOf {fp pos : Pos} {qs : List (Expr × DV)} (hx : glob Φ.fx.env.scope.names "list" = true) (hq : ∀ q ∈ qs, plainE q.1 = true ∧ Good1 Φ q) : Ev Φ (eval (.Call (.Name "list" fp) (qs.map Prod.fst) [] pos) Φ.fx.env) (fun K => manyV (qs.map Prod.snd) fun xs => okK (opN .listOf xs) K) :=
  ev_callB (op := opN .listOf) hx rfl (.inr ⟨_, rfl⟩) hq fun s vs xs z I rs e => one_elim (C := fun vs => Φ.wp (call (.type "list") vs) (Φ.Gives s z) s) e rs fun v x r e => map_elim e fun l e => list_ok I e r
theorem ev_call1 {F : Value} {f : Str} {fp pos : Pos} {e : Expr} {dd : V → Prop} {K : V → Prop} (hx : glob Φ.fx.env.scope.names f = true) (hF : bltNames.lookup f = some F) (hk : (∃ id, F = .builtin id) ∨ ∃ T, F = .type T) (hp : plainE e = true) (h : Ev Φ (eval e Φ.fx.env) d)
    (st : ∀ s v x E, Inv Φ s → Φ.rp s.heap v x → dd x → wpAny (model Φ.fx.g.prog Φ.fx.g.w) Φ.fx.A (call F [v]) (Post Φ Φ.rp s K) E s) (hd : d dd) (I : Inv Φ s) : Φ.wp (eval (.Call (.Name f fp) [e] [] pos) Φ.fx.env) (Post Φ Φ.rp s K) s := fun E => by
  show wpAny _ _ (eval (.Name f fp) Φ.fx.env >>= fun F => callWith pos F [] (backTo pos (starEach [e] Φ.fx.env)) []) _ _ s
  refine wpAny_bind (name_blt I hx hF ?_ E)
  have hp' : (backTo pos (starEach [e] Φ.fx.env)).any (·.1) = false := by rw [star_plain hp]; rfl
  have main : wpAny (model Φ.fx.g.prog Φ.fx.g.w) Φ.fx.A (evalArgs F true (backTo pos (starEach [e] Φ.fx.env)) []) (fun a s₁ => wpAny (model Φ.fx.g.prog Φ.fx.g.w) Φ.fx.A (call F ([] ++ a.pos) a.kw) (Post Φ Φ.rp s K) E s₁) E s :=
    args_ok (qs := [(e, d)]) (K := fun xs => okK (one xs some) dd) (fun q m => by cases List.mem_singleton.mp m; exact ⟨hp, h⟩) hd I fun vs xs s₁ I₁ k₁ hx rs => okK_elim hx fun x e hx => one_elim (C := fun vs => wpAny _ _ (call F ([] ++ vs) []) _ _ s₁) e rs fun v x' r e => by
      cases e
      exact wpAny_mono (st s₁ v _ E I₁ r hx) (fun _ _ p => p.lift k₁) fun _ _ z => z
  rcases hk with ⟨id, rfl⟩ | ⟨T, rfl⟩
  · exact callWith_builtin hp' main
  · exact PySem.callWith_type hp' main
theorem rp_ints {h : Heap} : ∀ {vs : List Value} {ns : List Int}, IntsAre vs ns → Φ.rps h vs (ns.map .int)
  | _, _, .nil => .nil
  | _, _, .cons n t hr => .cons (.int n t) (rp_ints hr)
theorem ev_sorted {fp pos : Pos} {e : Expr} (hx : glob Φ.fx.env.scope.names "sorted" = true) (hp : plainE e = true) (h : Ev Φ (eval e Φ.fx.env) d) :
    Ev Φ (eval (.Call (.Name "sorted" fp) [e] [] pos) Φ.fx.env) (fun K => d fun x => okK (listO x intsL) fun is => is.length < 64 ∧ ∀ r : List Int, r.Perm is → K (.list (r.map .int))) := fun K s hd I =>
  ev_call1 hx rfl (.inl ⟨_, rfl⟩) hp h (fun s v x E I r hx => okK_elim hx fun is e ⟨hz, hK⟩ => by
    refine listO_elim (C := fun x => Φ.rp s.heap v x → wpAny _ _ (call (.builtin "sorted") [v]) _ E s) e (fun l e r => ?_) r
    refine r.list_elim fun a o vs n _ ha hc hd hl => ?_
    have hi := intsAre_of e hl
    refine sorted_ints (vs := vs.toList) ⟨o, ha, hc.1, n, by rw [hd]⟩ hi (by rw [← hi.nums, List.length_map] at hz; exact hz) fun out ns' h1 h2 _ => ?_
    have k : Keeps s.heap (sortedAll s.heap vs.toList out) := fun b o e => sortedAll_old e
    obtain ⟨ep, ho⟩ := sortedAll_at s.heap vs.toList out
    refine ⟨I.base.grown (grown_of (tk := s.toks) k), k, _, hK ns' h2, .list (fun q => ?_) ho ⟨rfl, rfl⟩ rfl (rp_ints h1)⟩
    obtain ⟨o', e'⟩ := I.badLive q
    exact absurd (Heap.lt_size e') (Nat.not_lt.mpr (Nat.le_succ _))) hd I
end
end Mine
end

noncomputable section
set_option maxRecDepth 100000
set_option linter.unusedVariables false
namespace Mine
open PySem PySem.Calls PyProof.Rows PySem.W

theorem args_max_d (a v : Value) : argsOk "max" ⟨[a], [("default", v)]⟩ := by unfold argsOk; kernel_rfl
theorem bind_max_d (v : Value) : Builtin.Builtins.bindParams "max" ["key", "default"] 0 ⟨[], [("default", v)]⟩ = pure [none, some v] := by kernel_rfl
theorem call_tree_kw {prog : Program} {w : World} {A : Around} {E : Value → Shared → Prop} {s : Shared} {id : String} {b : Builtin} {args : Args} {Q : Value → Shared → Prop} (hk : builtinKind id = none) (hp : plainId id = true) (hb : entryFor table id = some b) (ha : argsOk id args) {c' : Code}
    (hc : wpAny (model prog w) A.in1 (b args) (fun fin s' => fin = .again c' ∧ c'.quiet = true ∧ codeAny (model prog w) A c' (fun r s' => match r with | .ok (.ret v) => Q v s' | .ok _ => False | .error e => E e s') s') E s) : wpAny (model prog w) A (call (.builtin id) args.pos args.kw) Q E s := by
  refine wpAny_call (codeAny_call_builtin hp hb ?_)
  simp only [checkBuiltinCall, hk]
  cases hsig : Manifest.signature? id with
  | none => exact wpAny_pure (wpAny_mono hc (fun fin s' h' => by obtain ⟨rfl, q⟩ := h'; exact q) fun _ _ z => z)
  | some sig =>
    have ha' : Bind.checkArgs id sig args = pure () := by simpa only [argsOk, hsig] using ha
    show wpAny _ A.in1 (Bind.checkArgs id sig args) _ _ s
    rw [ha']; exact wpAny_pure (wpAny_mono hc (fun fin s' h' => by obtain ⟨rfl, q⟩ := h'; exact q) fun _ _ z => z)
noncomputable def Top (is : List Int) (i : Nat) (old : List Value) : Prop := (i = 0 ∧ old = []) ∨ ∃ m t, old = [.int m t, .int m t] ∧ m ∈ is.take i ∧ ∀ x ∈ is.take i, x ≤ m
section
variable {prog : Program} {w : World} {A : Around} {R : Result → Shared → Prop} {E : Value → Shared → Prop} {I : Addr} {fp wr : List Addr} {St : Nat → Heap → Prop} {Pv : Nat → Value → Prop} {is : List Int}
theorem max_loop (W : Walks prog w A.in1 I fp wr is.length Pv St) (hP : ∀ i v, Pv i v → ∃ m t, is[i]? = some m ∧ v = .int m t) (S : Addr) (hSf : S ∉ fp) (dv : Value) :
    ∀ (k i : Nat) (s : Shared) (old : List Value) (c : Nat), is.length - i = k → i ≤ is.length → St i s.heap → Top is i old → s.heap.get? S = some { cls := .type "list", dict := none, data := .seq old.toArray c, slots := #[] } →
    (∀ v h' tk, ((is = [] ∧ v = dv) ∨ ∃ m t, v = .int m t ∧ m ∈ is ∧ ∀ x ∈ is, x ≤ m) → (∀ b o, b ∉ wr → b ≠ S → s.heap.get? b = some o → h'.get? b = some o) → R (.ok (.ret v)) { s with heap := h', toks := tk }) →
    codeAny (model prog w) A (.builtin "max.loop" ⟨[.ref I, .none, .ref S], [("default", dv)]⟩) R s := by
  have hSw : S ∉ wr := fun h => hSf (W.sub _ h)
  have hname : (toString "max" ++ toString ".loop" : String) = "max.loop" := by decide
  intro k
  induction k with
  | zero =>
    intro i s old c hk hi hst hT hS hR
    have hin : i = is.length := by omega
    subst hin
    refine codeAny_builtin PySem.F.entry_max_loop ?_
    rw [Around.under_plainId PySem.F.plain_max_loop _]
    show wpAny _ A.in1 (seqItems? (.ref S) >>= _) _ _ s
    refine wpAny_bind (wpAny_seqItems hS rfl ?_)
    show wpAny _ A.in1 (tryCatch (pyNext (.ref I)) _ >>= _) _ _ s
    refine wpAny_bind (wpAny_tryCatch (W.done s _ _ hst fun h' tk hk' => ?_))
    have hS' := hk' S _ hSw hS
    rcases hT with ⟨h0, rfl⟩ | ⟨m, t, rfl, hm, hb⟩
    · exact wpAny_bind (wpAny_rule (wpAny_pure (hR dv h' tk (.inl ⟨List.length_eq_zero_iff.mp h0, rfl⟩) fun b o hbw _ e => hk' b o hbw e)))
    · show wpAny _ A.in1 (updateSeq S (fun _ => #[]) >>= _) _ _ _
      refine wpAny_bind (wpAny_updateSeq hS' rfl (wpAny_bind (wpAny_letGo (wpAny_pure ?_))))
      rw [List.take_length] at hm hb
      exact hR _ _ tk (.inr ⟨m, t, rfl, hm, hb⟩) fun b o hbw hbS e => (Heap.get?_update_other _ _ (Ne.symm hbS)).trans (hk' b o hbw e)
  | succ k ih =>
    intro i s old c hk hi hst hT hS hR
    have hlt : i < is.length := by omega
    refine codeAny_builtin PySem.F.entry_max_loop ?_
    rw [Around.under_plainId PySem.F.plain_max_loop _]
    show wpAny _ A.in1 (seqItems? (.ref S) >>= _) _ _ s
    refine wpAny_bind (wpAny_seqItems hS rfl ?_)
    show wpAny _ A.in1 (tryCatch (pyNext (.ref I)) _ >>= _) _ _ s
    refine wpAny_bind (wpAny_tryCatch (W.item i s _ _ hlt hst fun v h' tk hPv hst' hk' => ?_))
    have hS' := hk' S _ hSw hS
    obtain ⟨m, t, em, rfl⟩ := hP i v hPv
    have tk1 : is.take (i + 1) = is.take i ++ [m] := by rw [List.take_add_one, em]; rfl
    have go : ∀ (s' : Shared) (old' : List Value) (c' : Nat), St (i + 1) s'.heap → Top is (i + 1) old' → s'.heap.get? S = some { cls := .type "list", dict := none, data := .seq old'.toArray c', slots := #[] } → (∀ b o, b ∉ wr → b ≠ S → s.heap.get? b = some o → s'.heap.get? b = some o) → (∃ h'' tk'', s' = { s with heap := h'', toks := tk'' }) →
        codeAny (model prog w) A (.builtin "max.loop" ⟨[.ref I, .none, .ref S], [("default", dv)]⟩) R s' := fun s' old' c' h1 h2 h3 h4 ⟨h'', tk'', e⟩ => by
      subst e
      exact ih (i + 1) _ old' c' (by omega) hlt h1 h2 h3 fun v h' tk q k => hR v h' tk q fun b o hbw hbS e => k b o hbw hbS (h4 b o hbw hbS e)
    have upd : ∀ (b : Addr) (hb : b ∈ fp) (o : Obj) (f : Obj → Obj), h'.get? b = some o → (h'.update S f).get? b = some o := fun b hb o f e => (Heap.get?_update_other _ _ (fun h : S = b => hSf (by rw [h]; exact hb))).trans e
    rcases hT with ⟨rfl, rfl⟩ | ⟨n, u, rfl, hm, hb⟩
    · show wpAny _ A.in1 (updateSeq S (fun _ => #[.int m t, .int m t]) >>= _) _ _ _
      refine wpAny_bind (wpAny_updateSeq hS' rfl ?_)
      rw [hname]
      exact wpAny_pure ⟨plainId_quiet PySem.F.plain_max_loop _, go _ [.int m t, .int m t] _ (W.frame _ _ _ hst' fun b hb o e => upd b hb o _ e) (.inr ⟨m, t, rfl, by rw [tk1]; simp, by rw [tk1]; simp⟩) (Heap.get?_update_self _ hS' rfl) (fun b o hbw hbS e => (Heap.get?_update_other _ _ (Ne.symm hbS)).trans (hk' b o hbw e)) ⟨_, _, rfl⟩⟩
    · show wpAny _ A.in1 (tryCatch (holding [.int m t, .int m t] (richCompare .Gt (.int m t) (.int n u) >>= _)) _ >>= _) _ _ _
      refine wpAny_bind (wpAny_tryCatch (wpAny_holding (wpAny_bind (P.gt_int ?_))))
      refine wpAny_bind (wpAny_holding (wpAny_truthy_bool ?_))
      refine wpAny_bind (wpAny_letGo (wpAny_pure ?_))
      by_cases q : n < m
      · rw [if_pos (decide_eq_true q)]
        refine wpAny_bind (wpAny_updateSeq hS' rfl (wpAny_bind (wpAny_letGo ?_)))
        rw [hname]
        refine wpAny_pure ⟨plainId_quiet PySem.F.plain_max_loop _, go _ [.int m t, .int m t] _ (W.frame _ _ _ hst' fun b hb o e => upd b hb o _ e) (.inr ⟨m, t, rfl, by rw [tk1]; simp, fun x hx => ?_⟩) (Heap.get?_update_self _ hS' rfl) (fun b o hbw hbS e => (Heap.get?_update_other _ _ (Ne.symm hbS)).trans (hk' b o hbw e)) ⟨_, _, rfl⟩⟩
        rw [tk1] at hx
        rcases List.mem_append.mp hx with hx | hx
        · exact Int.le_trans (hb x hx) (Int.le_of_lt q)
        · rw [List.mem_singleton.mp hx]; exact Int.le_refl _
      · rw [if_neg (by simpa using q)]
        refine wpAny_bind (wpAny_letGo ?_)
        rw [hname]
        refine wpAny_pure ⟨plainId_quiet PySem.F.plain_max_loop _, go _ [.int n u, .int n u] c hst' (.inr ⟨n, u, rfl, by rw [tk1]; exact List.mem_append_left _ hm, fun x hx => ?_⟩) hS' (fun b o hbw hbS e => hk' b o hbw e) ⟨_, _, rfl⟩⟩
        rw [tk1] at hx
        rcases List.mem_append.mp hx with hx | hx
        · exact hb x hx
        · rw [List.mem_singleton.mp hx]; exact Int.not_lt.mp q
end
section
variable {Φ : Ct} {s : Shared} {v u : Value} {x y z : V} {d : DV}
theorem ev_maxD {fp pos kp cp : Pos} {e : Expr} {ck : Nat} (hx : glob Φ.fx.env.scope.names "max" = true) (hp : plainE e = true) (h : Ev Φ (eval e Φ.fx.env) d) :
    Ev Φ (eval (.Call (.Name "max" fp) [e] [⟨some "default", .Constant (.int 1) ck cp, kp⟩] pos) Φ.fx.env) (fun K => d fun x => okK (listO x intsL) fun is => is.length ≤ szLine ∧ ∀ m : Int, (is = [] → m = 1) → (is ≠ [] → m ∈ is ∧ ∀ x ∈ is, x ≤ m) → K (.int m)) := fun K s hd I E => by
  show wpAny _ _ (eval (.Name "max" fp) Φ.fx.env >>= fun F => callWith pos F [] (backTo pos (starEach [e] Φ.fx.env)) (backToKw pos (keywordEach [⟨some "default", .Constant (.int 1) ck cp, kp⟩] Φ.fx.env))) _ _ s
  refine wpAny_bind (name_blt (v := .builtin "max") I hx rfl ?_ E)
  refine callWith_kw ?_ (by rw [star_plain hp]; rfl) (by rw [star_plain hp]; rfl) rfl rfl
  have it := ev_items (pos := pos) (qs := [(e, d)]) (fun q m => by cases List.mem_singleton.mp m; exact ⟨hp, h⟩) (fun xs => okK (one xs some) fun x => okK (listO x intsL) fun is => is.length ≤ szLine ∧ ∀ m : Int, (is = [] → m = 1) → (is ≠ [] → m ∈ is ∧ ∀ x ∈ is, x ≤ m) → K (.int m)) s hd I E
  refine wpAny_mono it (fun vs s₁ ⟨B, k, xs, hxs, rs⟩ => ?_) fun _ _ z => z
  have I₁ := I.keep B k
  refine kws_cons ?_
  show wpAny _ _ (constValue Φ.fx.env (.int 1)) _ _ _
  refine wpAny_mkInt (kws_nil ?_)
  refine okK_elim hxs fun x e hx => one_elim (C := fun vs => wpAny _ _ (call (.builtin "max") vs _) _ _ _) e rs fun v x' r e => ?_
  cases e
  refine okK_elim hx fun is e ⟨hz, hK⟩ => ?_
  refine listO_elim (C := fun x => Φ.rp s₁.heap v x → wpAny _ _ (call (.builtin "max") [v] _) _ E _) e (fun l e r => ?_) r
  refine r.list_elim fun a o vs n _ ha hc hd hl => ?_
  have hi := intsAre_of e hl
  have hli : vs.size = is.length := by rw [← Array.length_toList, ← hi.nums, List.length_map]
  have hL : s₁.heap.IsList a vs := ⟨_, ha, hc.1, _, hd⟩
  have hne := ne_size ha
  refine call_tree_kw (args := ⟨[.ref a], [("default", .int 1 s₁.toks)]⟩) PySem.F.kind_max PySem.F.plain_max PySem.F.entry_max (args_max_d _ _) (c' := .builtin "max.loop" ⟨[.ref s₁.heap.objs.size, .none, .ref (s₁.heap.objs.size + 1)], [("default", .int 1 s₁.toks)]⟩) ?_
  show wpAny _ Φ.fx.A.in1 (Builtin.Builtins.bindParams "max" ["key", "default"] 0 ⟨[], [("default", _)]⟩ >>= _) _ _ _
  refine wpAny_bind (wpAny_of_eq (bind_max_d _) ?_)
  refine wpAny_bind (wpAny_pure ?_)
  refine wpAny_bind (wpAny_pyIter_list (s := { s₁ with toks := s₁.toks + 1 }) hL ?_)
  refine wpAny_bind (wpAny_newObj_type ?_)
  refine wpAny_pure ⟨?_, plainId_quiet PySem.F.plain_max_loop _, ?_⟩
  · rw [Heap.size_push]; rfl
  have W := Walks.list (prog := Φ.fx.g.prog) (w := Φ.fx.g.w) (A := Φ.fx.A.in1) I₁.ok.hand s₁.heap.objs.size a hne vs
  rw [hli] at W
  have hsz : (s₁.heap.push { cls := .type "list_iterator", data := .fields #[.ref a, .int 0 0] }).objs.size = s₁.heap.objs.size + 1 := Heap.size_push ..
  refine max_loop W (fun i v e => ?_) (s₁.heap.objs.size + 1) (fun q => ?_) _ (is.length - 0) 0 _ [] _ rfl (Nat.zero_le _) ?_ (.inl ⟨rfl, rfl⟩) (by rw [← hsz]; exact Heap.get?_push_size _ rfl) fun v h' tk q k' => ?_
  · obtain ⟨t, et⟩ := hi.int_at i v (Array.getElem?_toList ▸ e)
    have hlt : i < is.length := hli ▸ (Array.getElem?_eq_some_iff.mp e).1
    exact ⟨is.getD i 0, t, by rw [List.getElem?_eq_getElem hlt]; simp [hlt], et⟩
  · rcases List.mem_cons.mp q with q | q
    · exact absurd q (Nat.succ_ne_self _)
    · have := Heap.lt_size ha; rw [← List.mem_singleton.mp q] at this; exact absurd this (Nat.not_lt.mpr (Nat.le_succ _))
  · exact ⟨⟨_, Heap.get?_push_of_some _ (Heap.get?_push_size _ rfl), rfl, rfl⟩, (hL.push _).push _⟩
  · have kk : Keeps s₁.heap h' := fun b o e => k' b o (fun q => ne_size e (List.mem_singleton.mp q)) (fun q => by have := Heap.lt_size e; rw [q] at this; exact absurd this (Nat.not_lt.mpr (Nat.le_succ _))) (Heap.get?_push_of_some _ (Heap.get?_push_of_some _ e))
    have B2 : Base Φ.fx.g { s₁ with heap := h', toks := tk } := I₁.base.grown (grown_of kk)
    rcases q with ⟨rfl, rfl⟩ | ⟨m, t, rfl, hm, hb⟩
    · exact ⟨B2, k.trans kk, _, hK 1 (fun _ => rfl) (fun q => absurd rfl q), .int _ _⟩
    · exact ⟨B2, k.trans kk, _, hK m (fun q => by subst q; cases hm) (fun _ => ⟨hm, hb⟩), .int _ _⟩
end
end Mine
end

noncomputable section
set_option maxRecDepth 100000
set_option linter.unusedVariables false
namespace Mine
open PySem PySem.Calls PyProof.Rows PySem.W

section
variable {prog : Program} {w : World} {A : Around} {E : Value → Shared → Prop} {s : Shared}
theorem list_eq_of {α : Type} {l m : List α} (hl : l.length = m.length) (h : ∀ (j : Nat) v, l[j]? = some v → m[j]? = some v) : l = m := by
  refine List.ext_getElem? fun j => ?_
  cases e : l[j]? with
  | some v => exact (h j v e).symm
  | none => exact (List.getElem?_eq_none (hl ▸ List.getElem?_eq_none_iff.mp e)).symm
theorem extend_any {R : Result → Shared → Prop} {D X : Addr} {T : String} {c : Nat} {res : Value} (C : List Value → Prop) (hh : A.handled = none) (hD : s.heap.get? D = some { cls := .type "list", dict := none, data := .seq #[] c, slots := #[] }) (hne : D ≠ X) (hT : T = "set" ∨ T = "dict_values") (hty : s.TypeIs (.ref X) T)
    (hhint : ∀ (s' : Shared) (Q : Bool → Shared → Prop) (E : Value → Shared → Prop), Keeps s.heap s'.heap → Q false s' → wpAny (model prog w) A.in1 (Builtin.List.listLengthHint (.ref X)) Q E s')
    (hit : ∀ (Q : Value → Shared → Prop) (E : Value → Shared → Prop), (∀ (ord : List Value) I fp wr St h' d, C ord → ord.length ≤ sizeLine → Keeps s.heap h' → (∀ b ∈ wr, s.heap.get? b = none) → D ∉ fp → Walks prog w A.in1 I fp wr ord.length (fun i v => ord[i]? = some v) St → St 0 h' → Q (.ref I) { s with heap := h', drawn := d }) → wpAny (model prog w) A.in1 (pyIter (.ref X)) Q E s)
    (hR : ∀ (out : List Value) h' d tk c', C out → (∀ b o, b ≠ D → s.heap.get? b = some o → h'.get? b = some o) → h'.get? D = some { cls := .type "list", dict := none, data := .seq out.toArray c', slots := #[] } → R (.ok (.ret res)) { s with heap := h', drawn := d, toks := tk }) :
    wpAny (model prog w) A.in1 (Builtin.List.listExtendWith (.ref D) (.ref X) res) (fun fin s' => match fin with | .done f => R (.ok f) s' | .again c' => c'.quiet = true ∧ codeAny (model prog w) A c' R s') (fun e s' => R (.error e) s') s := by
  unfold Builtin.List.listExtendWith
  refine wpAny_bind (wpAny_typeOf hty ?_)
  have h1 : Builtin.List.listSameRef (.ref D) (.ref X) = false := by simp [Builtin.List.listSameRef, hne]
  have h2 : (Value.type T == Value.type "list") = false := by rcases hT with rfl | rfl <;> decide
  have h3 : (Value.type T == Value.type "tuple") = false := by rcases hT with rfl | rfl <;> decide
  simp only [h1, h2, h3, Bool.or_false, Bool.false_eq_true, if_false]
  refine wpAny_bind (hit _ _ fun ord I fp wr St h' d hC hz k hw hf W hst => ?_)
  refine wpAny_bind (wpAny_holding (hhint _ _ _ k ?_))
  rw [if_pos (by rcases hT with rfl | rfl <;> decide)]
  refine wpAny_bind (wpAny_rule (wpAny_bind ?_))
  have hS1 := k _ _ hD
  show wpAny _ A.in1 (updateSeq D (·.push .none) >>= fun _ => updateSeq D (·.pop)) _ _ _
  refine wpAny_bind (wpAny_updateSeq hS1 rfl ?_)
  have hS2 := Heap.get?_update_self (Obj.mapSeq (·.push Value.none)) hS1 rfl
  refine wpAny_updateSeq hS2 rfl ?_
  have hS3 := Heap.get?_update_self (Obj.mapSeq (·.pop)) hS2 rfl
  have oth : ∀ b ob, b ≠ D → h'.get? b = some ob → ((h'.update D (Obj.mapSeq (·.push Value.none))).update D (Obj.mapSeq (·.pop))).get? b = some ob :=
    fun b ob hb e => (Heap.get?_update_other _ _ (Ne.symm hb)).trans ((Heap.get?_update_other _ _ (Ne.symm hb)).trans e)
  refine wpAny_pure ⟨plainId_quiet PySem.F.plain_extend_loop _, codeAny_extend_loopS W.toS hz _ hf _ ord.length 0 _ _ _ rfl (Nat.zero_le _) (W.frame 0 _ _ hst fun b hb ob e => oth b ob (fun q => hf (q ▸ hb)) e) hS3 (ItemsOf.nil _) fun s' acc' c' hm hS' hacc => ?_⟩
  have e1 : acc'.toList = ord := list_eq_of (by rw [Array.length_toList, hacc.1]) fun j v e => hacc.2 j v (Array.getElem?_toList ▸ e)
  obtain ⟨hp, gs, dr, tk, os⟩ := s'
  obtain ⟨m1, m2, m3, m4, m5⟩ := hm
  cases m2; cases m3; cases m4
  refine hR ord hp d tk c' hC (fun b ob q e => m1 b ob (fun q' => ?_) (oth b ob q (k _ _ e))) (by subst e1; exact hS')
  rcases List.mem_cons.mp q' with q' | q'
  · exact q q'
  · have := hw b q'; rw [e] at this; cases this
end
end Mine
end

noncomputable section
set_option maxRecDepth 100000
set_option linter.unusedVariables false
namespace Mine
open PySem PySem.Calls PyProof.Rows PySem.W

theorem vals_len : typeLookup (.type "dict_values") "__len__" = pure (some (.builtin "dict_values.__len__")) := by rw [typeLookup_type, builtinLookup_eq_fast]; kernel_rfl
theorem sub_vals : isSubtype (.type "dict_values") (.type "dict_values") = pure true := by rw [isSubtype_type]; kernel_rfl
section
variable {prog : Program} {w : World} {A : Around} {E : Value → Shared → Prop} {s : Shared} {I d X : Addr} {od : Obj} {es : Array DictEntry} {ep i : Nat}
theorem stop_it {Q : Option Value → Shared → Prop} {P : Fin → Shared → Prop} (hh : A.handled = none) (h : ∀ h', Keeps s.heap h' → Q none { s with heap := h' }) :
    wpAny (model prog w) A.in1 (newExc (.type "StopIteration") [] >>= fun e => raiseNew e) P (fun e s' => wpAny (model prog w) A (isInstance e (.type "StopIteration") >>= fun b => if b = true then pure none else throw e) Q E s') s := by
  refine wpAny_bind ?_
  simp only [newExc, newTuple]
  refine wpAny_bind (wpAny_newObj_type ?_ (by size_fits))
  refine wpAny_bind (m := firstArgMember _ _) (wpAny_of_eq (a := Value.none) (by first | rfl | (simp only [firstArgMember]; rfl)) ?_)
  refine wpAny_newObj_type ?_ (by size_fits)
  simp only [raiseNew]
  refine wpAny_bind (wpAny_handled ?_)
  rw [show A.in1.handled = none from hh]
  refine wpAny_bind (wpAny_pure (wpAny_throw ?_))
  refine wpAny_bind (wpAny_isInstance (T := "StopIteration") (b := true) ⟨_, Heap.get?_push_size _ rfl, rfl⟩ isSubtype_stop ?_)
  exact wpAny_pure (h _ ((keeps_push _ _).trans (keeps_push _ _)))
theorem vals_next {Q : Option Value → Shared → Prop} (hh : A.handled = none) (hit : s.heap.IsValIter I d i es.size ep) (hod : s.heap.get? d = some od) (hdd : od.data = .dict es ep)
    (hQ : ∀ e, es[i]? = some e → ∀ h', h'.IsValIter I d (i + 1) es.size ep → Heap.SameBut I s.heap h' → Q (some e.val) { s with heap := h' })
    (hE : es[i]? = none → ∀ h', (∀ b o, b ≠ I → s.heap.get? b = some o → h'.get? b = some o) → Q none { s with heap := h' }) : wpAny (model prog w) A (pyNext (.ref I)) Q E s := by
  obtain ⟨o, ho, hc, hd⟩ := id hit
  unfold pyNext
  refine wpAny_bind (wpAny_attempt (wpAny_callSpecial?_slot (name := Str.ofString "__next__") hit.typeIs F.slot_dict_valueiterator_next
    (wpAny_call_entry F.slot_dict_valueiterator_next hit.typeIs F.entry_dict_valueiterator_next ?_ (F.args_dict_valueiterator_next_1 _))))
  refine wpAny_bind (wpAny_pure ?_)
  refine wpAny_bind ?_
  refine wpAny_bind ?_
  first | refine wpAny_bind (wpAny_typeNameOfWhole_valiter hit.typeIs (wpAny_pure ?_)) | refine wpAny_bind (wpAny_typeNameOf_valiter hit.typeIs (wpAny_pure ?_))
  refine wpAny_bind (wpAny_fieldsOf ho hd ?_)
  have hown : Builtin.Dict_items.ownsTuple "dict_valueiterator" = false := by decide
  simp only [hown, Bool.false_eq_true, if_false]
  show wpAny _ _ (if (Value.ref d == Value.none) = true then _ else _) _ _ s
  rw [if_neg (show ¬ ((Value.ref d == Value.none) = true) from Bool.false_ne_true)]
  refine wpAny_bind (wpAny_pure ?_)
  refine wpAny_bind (wpAny_dictEntries hod hdd ?_)
  rw [if_neg (by simp)]
  refine wpAny_bind (wpAny_pure ?_)
  refine wpAny_bind (wpAny_dictEpoch hod hdd ?_)
  rw [if_neg (by simp)]
  refine wpAny_pure ?_
  simp only [show ¬ ((i : Int) < 0) from by omega, if_false, Int.toNat_natCast]
  cases ei : es[i]? with
  | some e =>
    refine wpAny_bind ?_
    first | refine wpAny_bind (wpAny_typeNameOfWhole_valiter hit.typeIs (wpAny_pure ?_)) | refine wpAny_bind (wpAny_typeNameOf_valiter hit.typeIs (wpAny_pure ?_))
    refine wpAny_bind (wpAny_isOneOf_valiter hit.typeIs ?_)
    show wpAny _ _ (setField (.ref I) 1 (rawInt ((i : Int) + 1)) >>= _) _ _ s
    refine wpAny_bind (wpAny_setField ho hd (by simp) ?_)
    have hit' : (s.heap.update I (Obj.mapFields (·.setIfInBounds 1 (rawInt ((i : Int) + 1))))).IsValIter I d (i + 1) es.size ep :=
      ⟨_, Heap.get?_update_self _ ho (Obj.isFreed_of_fields (Obj.data_mapFields hd _)), (Obj.cls_mapFields ..).trans hc, by rw [Obj.data_mapFields hd]; simp [rawInt]⟩
    refine wpAny_bind (wpAny_holding ?_)
    refine wpAny_bind (wpAny_isOneOf_valiter (s := { s with heap := s.heap.update I (Obj.mapFields (·.setIfInBounds 1 (rawInt ((i : Int) + 1)))) }) hit'.typeIs ?_)
    refine wpAny_bind (wpAny_isOneOf_valiter (s := { s with heap := s.heap.update I (Obj.mapFields (·.setIfInBounds 1 (rawInt ((i : Int) + 1)))) }) hit'.typeIs ?_)
    show wpAny _ _ (pure e.val) _ _ _
    exact wpAny_pure (wpAny_pure ⟨_, rfl, wpAny_pure (hQ e ei _ hit' (Heap.SameBut.update ..))⟩)
  | none =>
    refine wpAny_bind ?_
    first | refine wpAny_bind (wpAny_typeNameOfWhole_valiter hit.typeIs (wpAny_pure ?_)) | refine wpAny_bind (wpAny_typeNameOf_valiter hit.typeIs (wpAny_pure ?_))
    show wpAny _ _ (setField (.ref I) 0 .none >>= _) _ _ s
    refine wpAny_bind (wpAny_setField ho hd (by simp) ?_)
    exact stop_it hh fun h' k => hE ei h' fun b o q e => k b o ((Heap.get?_update_other _ _ (Ne.symm q)).trans e)
theorem walks_vals (hh : A.handled = none) (hne : d ≠ I) (hdd : od.data = .dict es ep) : Walks prog w A I [I, d] [I] es.size (fun i v => (es.toList.map (·.val))[i]? = some v) (fun i h => h.IsValIter I d i es.size ep ∧ h.get? d = some od) where
  sub := fun b m => by cases List.mem_singleton.mp m; exact .head _
  frame := fun i h h' ⟨a, b⟩ k => ⟨a.at fun o e => k I (.head _) o e, k d (.tail _ (.head _)) _ b⟩
  item := fun i s Q E hi ⟨a, b⟩ hQ => vals_next hh a b hdd (fun e ei h' hi' sb => hQ e.val h' s.toks (by rw [List.getElem?_map, Array.getElem?_toList, ei]; rfl) ⟨hi', (sb.2 d hne).trans b⟩ fun b o m e => (sb.2 b fun q => m (q ▸ .head _)).trans e) fun q => absurd (Array.getElem?_eq_getElem hi) (by rw [q]; exact fun z => nomatch z)
  done := fun s Q E ⟨a, b⟩ hQ => vals_next hh a b hdd (fun e ei => absurd (Array.getElem?_eq_some_iff.mp ei).1 (Nat.lt_irrefl _)) fun _ h' k => hQ h' s.toks fun b o m e => k b o (fun q => m (q ▸ .head _)) e
  self := fun i s Q E ⟨a, b⟩ h => wpAny_pyIter_valiter a h
theorem hint_vals {Q : Bool → Shared → Prop} (hT : s.TypeIs (.ref X) "dict_values") (h : Q false s) : wpAny (model prog w) A (Builtin.List.listLengthHint (.ref X)) Q E s := by
  unfold Builtin.List.listLengthHint
  refine wpAny_bind (wpAny_specialOf hT vals_len ?_)
  wp_delta
  refine wpAny_bind (wpAny_isInstance hT sub_vals ?_)
  show wpAny _ A (typeOf (Value.ref X) >>= _) _ _ _
  exact wpAny_bind (wpAny_typeOf hT (wpAny_pure h))
theorem iter_vals {Q : Value → Shared → Prop} (hv : s.heap.IsValuesView X d) (hod : s.heap.get? d = some od) (hdd : od.data = .dict es ep)
    (hQ : Q (.ref s.heap.objs.size) { s with heap := s.heap.push { cls := .type "dict_valueiterator", data := .fields #[.ref d, .int 0 0, .int es.size 0, .int ep 0] } }) : wpAny (model prog w) A (pyIter (.ref X)) Q E s := by
  obtain ⟨ov, hov, hcv, hdv⟩ := id hv
  refine wpAny_pyIter_slot hv.typeIs F.slot_dict_values_iter (wpAny_call_entry F.slot_dict_values_iter hv.typeIs F.entry_dict_values_iter ?_ (F.args_dict_values_iter_1 _))
  unfold Builtin.«dict_values.__iter__»
  refine wpAny_bind (wpAny_pure ?_)
  refine wpAny_bind ?_
  unfold Builtin.Dict_items.dictOf
  refine wpAny_bind (wpAny_field hov hdv (x := .ref d) rfl (wpAny_pure ?_))
  refine wpAny_bind ?_
  unfold Builtin.Dict_items.newIterator
  refine wpAny_bind (wpAny_dictEntries hod hdd ?_)
  refine wpAny_bind (wpAny_dictEpoch hod hdd ?_)
  have hown : Builtin.Dict_items.ownsTuple "dict_valueiterator" = false := by decide
  simp only [hown, Bool.false_eq_true, if_false]
  exact wpAny_newObj_type (wpAny_pure ⟨_, rfl, "dict_valueiterator", _, ⟨_, Heap.get?_push_size _ rfl, rfl⟩, F.slot_dict_valueiterator_next.lookup, hQ⟩)
theorem list_vals {Q : Value → Shared → Prop} (hh : A.handled = none) (hv : s.heap.IsValuesView X d) (hod : s.heap.get? d = some od) (hdd : od.data = .dict es ep) (hz : es.size ≤ sizeLine)
    (h : ∀ h' dr tk c', Keeps s.heap h' → h'.get? s.heap.objs.size = some { cls := .type "list", dict := none, data := .seq (es.toList.map (·.val)).toArray c', slots := #[] } → Q (.ref s.heap.objs.size) { s with heap := h', drawn := dr, toks := tk }) : wpAny (model prog w) A (call (.type "list") [.ref X]) Q E s := by
  have hX : X ≠ s.heap.objs.size := by obtain ⟨o, ho, _⟩ := hv; exact ne_size ho
  refine callType_codes (Q₁ := fun obj s₁ => obj = .ref s.heap.objs.size ∧ s₁ = { s with heap := s.heap.push { cls := .type "list", data := .seq #[] } }) PySem.F.called_list (PySem.F.typeCall_list_1 _) PySem.F.entry_list_init (code_list_new _ ⟨rfl, rfl⟩) fun obj s₁ h₁ => ?_
  obtain ⟨rfl, rfl⟩ := h₁
  have hS : (s.heap.push { cls := .type "list", data := .seq #[] }).get? s.heap.objs.size = some { cls := .type "list", data := .seq #[] } := Heap.get?_push_size _ rfl
  refine ⟨⟨_, hS, rfl⟩, PySem.F.args_list_init_2 _ _, ?_⟩
  show wpAny _ A.in1.in1 (do let old ← Builtin.List.listItems (.ref s.heap.objs.size); Builtin.List.listUpdate (.ref s.heap.objs.size) (fun _ => #[]); letGo old.toList.reverse; Builtin.List.listExtendWith (.ref s.heap.objs.size) (.ref X) .none) _ _ _
  refine wpAny_bind (listItems_at hS rfl ?_)
  refine wpAny_bind (listUpdate_at hS rfl ?_)
  have hS2 := Heap.get?_update_self (Obj.mapSeq (fun _ => (#[] : Array Value))) hS rfl
  have k1 : Keeps s.heap ((s.heap.push { cls := .type "list", data := .seq #[] }).update s.heap.objs.size (Obj.mapSeq fun _ => #[])) := fun b o e => (Heap.get?_update_other _ _ (Ne.symm (ne_size e))).trans (keeps_push _ _ b o e)
  refine wpAny_bind (wpAny_letGo ?_)
  have hvk : ∀ s' : Shared, Keeps s.heap s'.heap → s'.heap.IsValuesView X d := fun s' k => let ⟨o, ho, r⟩ := hv; ⟨o, k _ _ ho, r⟩
  refine extend_any (R := wants _ _) (C := fun out => out = es.toList.map (·.val)) (A := A.in1) hh hS2 hX.symm (.inr rfl) (hvk _ k1).typeIs (fun s' Q E k hq => hint_vals (hvk s' (k1.trans k)).typeIs hq) (fun Q E hQ => ?_) fun out h' dr tk c' hC k hD => ?_
  · have hod1 := k1 _ _ hod
    have hl : (es.toList.map (·.val)).length = es.size := by rw [List.length_map, Array.length_toList]
    have W := walks_vals (prog := prog) (w := w) (A := A.in1.in1) (I := ((s.heap.push { cls := .type "list", data := .seq #[] }).update s.heap.objs.size (Obj.mapSeq fun _ => #[])).objs.size) hh (Nat.ne_of_lt (Heap.lt_size hod1)) hdd
    rw [← hl] at W
    refine iter_vals (s := { s with heap := (s.heap.push { cls := .type "list", data := .seq #[] }).update s.heap.objs.size (Obj.mapSeq fun _ => #[]) }) (hvk _ k1) hod1 hdd (hQ _ _ _ _ _ _ s.drawn rfl (hl ▸ hz) (keeps_push _ _) (fun b m => by cases List.mem_singleton.mp m; exact size_none _) (fun m => ?_) W ⟨⟨_, Heap.get?_push_size _ rfl, rfl, by rw [hl]; rfl⟩, keeps_push _ _ _ _ hod1⟩)
    rcases List.mem_cons.mp m with q | q
    · rw [Heap.size_update, Heap.size_push] at q; exact absurd q (Nat.ne_of_lt (Nat.lt_succ_self _))
    · exact ne_size hod (List.mem_singleton.mp q).symm
  · subst hC
    exact ⟨rfl, h h' dr tk c' (fun b o e => k b o (ne_size e) (k1 _ _ e)) hD⟩
theorem call_values {Q : Value → Shared → Prop} (hT : s.TypeIs (.ref d) "dict") (hd : (d == sysModules) = false) (h : Q (.ref s.heap.objs.size) { s with heap := s.heap.push { cls := .type "dict_values", data := .fields #[.ref d] } }) : wpAny (model prog w) A (call (.builtin "dict.values") [.ref d]) Q E s := by
  refine wpAny_call_entry F.slot_dict_values hT F.entry_dict_values ?_ (F.args_dict_values_1 _)
  refine wpAny_bind ?_
  unfold Builtin.Dict.noArgs
  refine wpAny_bind (wpAny_notOrdered_dict hT ?_)
  show wpAny _ _ (pure d) _ _ s
  refine wpAny_pure ?_
  show wpAny _ _ (Builtin.Dict.showsAll d >>= _) _ _ s
  unfold Builtin.Dict.showsAll
  rw [if_neg (by rw [hd]; exact Bool.false_ne_true)]
  refine wpAny_bind (wpAny_pure ?_)
  exact wpAny_bind (wpAny_newObj_type (wpAny_pure ⟨_, rfl, h⟩))
theorem len_dict {Q : Value → Shared → Prop} (hod : s.heap.get? d = some od) (hx : od.ExactDict) (hdd : od.data = .dict es ep) (hd : (d == sysModules) = false) (hz : (es.size : Int) < 2 ^ 63) (h : ∀ t tk, Q (.int es.size t) { s with toks := tk }) : wpAny (model prog w) A (call (.builtin "len") [.ref d]) Q E s := by
  have hT : s.TypeIs (.ref d) "dict" := ⟨od, hod, hx.1⟩
  refine Calls.call_function_entry kind_len plain_len entry_len (args_len1 _) ?_
  unfold Builtin.«len»
  refine wpAny_bind (m := oneArg "len" _) (wpAny_pure ?_)
  refine wpAny_bind (m := callSpecial? (.ref d) (Str.ofString "__len__")) (wpAny_callSpecial?_slot (name := Str.ofString "__len__") hT PySem.F.slot_dict_len (wpAny_call_entry PySem.F.slot_dict_len hT PySem.F.entry_dict_len ?_ (PySem.F.args_dict_len_1 _)))
  show wpAny _ _ (dictSize d >>= _) _ _ s
  unfold dictSize
  refine wpAny_bind (wpAny_bind (wpAny_dictEntries hod hdd (wpAny_pure ?_)))
  show wpAny _ _ (Builtin.Dict.pendingCount d >>= _) _ _ s
  refine wpAny_bind (wpAny_pendingCount_other hd ?_)
  refine wpAny_bind (wpAny_mkInt (wpAny_pure ⟨_, rfl, ?_⟩))
  show wpAny _ _ _ _ _ { s with toks := s.toks + 1 }
  refine wpAny_bind (wpAny_holding (wpAny_pure ?_))
  refine wpAny_bind (wpAny_letGo ?_)
  show wpAny _ _ (if ((es.size + 0 : Nat) : Int) < 0 then _ else _) _ _ _
  rw [Nat.add_zero, if_neg (by omega)]
  show wpAny _ _ (if ((es.size : Nat) : Int) ≥ 2 ^ 63 then _ else _) _ _ _
  rw [if_neg (by omega)]
  exact wpAny_bind (wpAny_mkInt (wpAny_pure ⟨_, rfl, h _ _⟩))
end
end Mine
end

noncomputable section
set_option maxRecDepth 100000
set_option linter.unusedVariables false
namespace Mine
open PySem PySem.Calls PyProof.Rows PySem.W

theorem kOfs_items {g : Gl} {bad : Addr → Prop} {h : Heap} {vs : List Value} {l : List V} (r : RpAll g bad h vs l) : l.all scalar = true → ItemsAre (scKind g.prog g.w) (l.map kOf) vs :=
  r.ind (D := fun vs l => l.all scalar = true → ItemsAre (scKind g.prog g.w) (l.map kOf) vs) (fun _ => .nil) fun v vs x l r _ ih q => by
    have q := (Bool.and_eq_true _ _).mp q
    refine .cons ?_ (ih q.2)
    cases r with
    | int i t => exact (by simp [Value.isInt] : Value.isInt i (.int i t) = true)
    | str y t => exact (by simp [Value.isStrOf] : Value.isStrOf y (.str y t) = true)
    | _ => cases q.1
theorem flat_key {g : Gl} {bad : Addr → Prop} {h : Heap} {v : Value} {x : V} (e : flatV x = true) (r : Rp g bad h v x) : ∃ c, v = .ref c ∧ ¬ bad c ∧ IsTupleKey (scKind g.prog g.w) h (keysOf x) c := by
  cases x with
  | tuple l => exact r.tuple_elim (C := fun v => ∃ c, v = .ref c ∧ ¬ bad c ∧ IsTupleKey (scKind g.prog g.w) h (keysOf (.tuple l)) c) fun a o vs n hb ha hc hd hl => ⟨a, rfl, hb, o, vs, n, ha, hc, hd, kOfs_items hl ((Bool.and_eq_true _ _).mp e).1⟩
  | _ => cases e
theorem ownD_some {G : Gs} {k : Nat} {l : List (List Sc × Int)} (e : ownDO G k = some l) : getSlot G k = .ownD l := by
  unfold ownDO at e
  split at e
  · cases e; assumption
  · cases e
theorem find_map {xs : List (List Sc × Addr × Value)} {k : List Sc} : lookD (xs.map fun x => (x.1, numOf x.2.2)) k = ((atKey xs k).map (·.2)).map numOf := by
  unfold lookD atKey
  rw [List.find?_map, Option.map_map, Option.map_map, Option.map_map]
  rfl
section
variable {Φ : Ct} {s : Shared} {v u : Value} {x y z : V} {d d1 d2 : DV}
theorem own_ne_sys {k : Nat} {a : Addr} (I : Inv Φ s) (ha : Φ.oa k = some a) : (a == sysModules) = false := by
  rw [beq_eq_false_iff_ne]
  intro q
  obtain ⟨o, e⟩ := I.ok.gr.sysm
  have := (I.new a (.inr ⟨k, ha⟩)).2.1
  rw [q, e] at this; cases this
theorem rp_vals {h : Heap} : ∀ {xs : List (List Sc × Addr × Value)}, (∀ x ∈ xs, ∃ n t, x.2.2 = .int n t) → Φ.rps h (xs.map fun x => x.2.2) (xs.map fun x => .int (numOf x.2.2))
  | [], _ => .nil
  | x :: xs, hv => by
    obtain ⟨m, t, e⟩ := hv x (.head _)
    rw [List.map_cons, List.map_cons, e]
    exact .cons (.int m t) (rp_vals fun y m => hv y (.tail _ m))
theorem ev_lenD {n : Str} {k : Nat} {fp pos p : Pos} (hx : glob Φ.fx.env.scope.names "len" = true) (hn : Φ.fx.ρ.lookup n = some k) (ho : okName n = true) :
    Ev Φ (eval (.Call (.Name "len" fp) [.Name n p] [] pos) Φ.fx.env) (fun K => okK (ownDO Φ.G k) fun l => l.length ≤ szLine ∧ K (.int l.length)) := fun K s hd I E => okK_elim hd fun l e ⟨hz, kz⟩ => by
  show wpAny _ _ (eval (.Name "len" fp) Φ.fx.env >>= fun F => callWith pos F [] (backTo pos (starEach [.Name n p] Φ.fx.env)) []) _ _ s
  refine wpAny_bind (name_blt (v := .builtin "len") I hx rfl ?_ E)
  refine callWith_builtin rfl (Calls.evalArgs_plain ?_)
  show wpAny _ _ (eval (.Name n p) Φ.fx.env >>= fun v => holding [v] (pure []) >>= fun vs => pure (v :: vs)) _ _ s
  refine wpAny_bind (own_read (C := fun _ => True) (sl := .ownD l) hn ho I (ownD_some e) id (fun a u ha ow => ?_) E)
  obtain ⟨rfl, xs, ⟨o, es, ep, ho, hx, hd, hes, hk, hnd⟩, hv, rfl⟩ := ow
  refine wpAny_bind (wpAny_holding (wpAny_pure (wpAny_pure ?_)))
  have es1 : es.size = xs.length := size_of_entries hes
  rw [List.length_map] at hz kz
  refine len_dict ho hx hd (own_ne_sys I ha) (by rw [es1]; exact sz63 hz) fun t tk => ⟨I.base.grown (.toks _ _), .refl _, _, kz, ?_⟩
  rw [es1]; exact .int _ _
theorem ev_valsD {n : Str} {k : Nat} {fp pos apos mpos p : Pos} (hx : glob Φ.fx.env.scope.names "list" = true) (hn : Φ.fx.ρ.lookup n = some k) (ho : okName n = true) (hline : (apos.endLine == mpos.line) = true) :
    Ev Φ (eval (.Call (.Name "list" fp) [.Call (.Attribute (.Name n p) "values" apos) [] [] mpos] [] pos) Φ.fx.env) (fun K => okK (ownDO Φ.G k) fun l => l.length ≤ szLine ∧ K (.list (l.map fun p => .int p.2))) := fun K s hd I E => okK_elim hd fun l e ⟨hz, kz⟩ => by
  show wpAny _ _ (eval (.Name "list" fp) Φ.fx.env >>= fun F => callWith pos F [] (backTo pos (starEach [.Call (.Attribute (.Name n p) "values" apos) [] [] mpos] Φ.fx.env)) []) _ _ s
  refine wpAny_bind (name_blt (v := .type "list") I hx rfl ?_ E)
  refine PySem.callWith_type rfl (Calls.evalArgs_plain ?_)
  show wpAny _ _ (eval (.Call (.Attribute (.Name n p) "values" apos) [] [] mpos) Φ.fx.env >>= fun v => holding [v] (pure []) >>= fun vs => pure (v :: vs)) _ _ s
  refine wpAny_bind (wpAny_Call_method (T := "dict") (id := "dict.values") (base_simple rfl) rfl hline PySem.F.plainAttrs_dict PySem.F.slot_dict_values PySem.F.type_dict_values ?_)
  refine own_read (C := fun _ => True) (sl := .ownD l) hn ho I (ownD_some e) id (fun a u ha ow => ?_) E
  obtain ⟨rfl, xs, ⟨o, es, ep, ho, hx, hd, hes, hk, hnd⟩, hv, rfl⟩ := ow
  have hT : s.TypeIs (.ref a) "dict" := ⟨o, ho, hx.1⟩
  refine ⟨hT, fun b q => by cases q; exact ⟨o, ho, hx.2.1⟩, callWith_builtin rfl (PySem.evalArgs_none ?_)⟩
  refine call_values hT (own_ne_sys I ha) ?_
  refine wpAny_bind (wpAny_holding (wpAny_pure (wpAny_pure ?_)))
  have es1 : es.size = xs.length := size_of_entries hes
  rw [List.length_map] at hz
  have k1 := keeps_push s.heap { cls := .type "dict_values", data := .fields #[.ref a] }
  refine list_vals (s := { s with heap := s.heap.push { cls := .type "dict_values", data := .fields #[.ref a] } }) I.ok.hand ⟨_, Heap.get?_push_size _ rfl, rfl, rfl⟩ (k1 _ _ ho) hd (by rw [es1]; exact sz_le hz) fun h' dr tk c' k2 hD => ?_
  have kk := k1.trans k2
  refine ⟨⟨I.base.stays.trans kk, I.base.os, I.base.gens⟩, kk, _, kz, .list (fun q => ?_) hD ⟨rfl, rfl⟩ rfl ?_⟩
  · obtain ⟨o', e'⟩ := I.badLive q
    exact absurd (Heap.lt_size (k1 _ _ e')) (Nat.lt_irrefl _)
  · rw [hes, List.map_map, List.map_map]
    show Φ.rps h' (xs.map fun x => x.2.2) (xs.map fun x => .int (numOf x.2.2))
    exact rp_vals fun x m => (hv x m).2
theorem ev_getD {n : Str} {k : Nat} {pos apos p : Pos} {e1 e2 : Expr} (hn : Φ.fx.ρ.lookup n = some k) (ho : okName n = true) (hp1 : plainE e1 = true) (hp2 : plainE e2 = true) (hline : (apos.endLine == pos.line) = true) (h1 : Ev Φ (eval e1 Φ.fx.env) d1) (h2 : Ev Φ (eval e2 Φ.fx.env) d2) :
    Ev Φ (eval (.Call (.Attribute (.Name n p) "get" apos) [e1, e2] [] pos) Φ.fx.env) (fun K => okK (ownDO Φ.G k) fun l => d1 fun x => d2 fun y => okK (if flatV x = true then intO y fun i => some (.int ((lookD l (keysOf x)).getD i)) else none) K) := fun K s hd I E => okK_elim hd fun l e hd => by
  have hs : starEach [e1, e2] Φ.fx.env = [(false, eval e1 Φ.fx.env), (false, eval e2 Φ.fx.env)] := by rw [star_plain hp1, star_plain hp2]; rfl
  refine wpAny_Call_method (T := "dict") (id := "dict.get") (base_simple rfl) (by rw [hs]; rfl) hline PySem.F.plainAttrs_dict PySem.F.slot_dict_get PySem.F.type_dict_get ?_
  refine own_read (C := fun _ => True) (sl := .ownD l) hn ho I (ownD_some e) id (fun a u ha ow => ?_) E
  obtain ⟨rfl, xs, D, hv, rfl⟩ := ow
  obtain ⟨o, es, ep, ho, hx, hdd, hes, hk, hnd⟩ := id D
  refine ⟨⟨o, ho, hx.1⟩, fun b q => by cases q; exact ⟨o, ho, hx.2.1⟩, ?_⟩
  rw [hs]
  refine wpAny_dict_get2_heap (knd := tupleKind (scKind Φ.fx.g.prog Φ.fx.g.w)) (show Φ.fx.A.units + 1 < cLine by have := I.room; omega) (own_ne_sys I ha) ?_
  refine wpAny_mono (h1 _ s hd I E) (fun v1 s₁ ⟨B1, k1, x1, hx1, r1⟩ => ?_) fun _ _ z => z
  have I1 := I.keep B1 k1
  refine wpAny_mono (h2 _ s₁ hx1 I1 E) (fun v2 s₂ ⟨B2, k2, x2, hx2, r2⟩ => ?_) fun _ _ z => z
  have kk := k1.trans k2
  refine okK_elim hx2 fun z ez kz => ifo_elim ez fun hf ez => ?_
  obtain ⟨c, rfl, _, key⟩ := flat_key hf (r1.keep k2)
  refine ⟨c, keysOf x1, xs, rfl, key, ⟨o, es, ep, kk _ _ ho, hx, hdd, hes, fun x m => let ⟨o', it, n, q, r⟩ := hk x m; ⟨o', it, n, kk _ _ q, r⟩, hnd⟩, B2.grown (.toks _ _), kk, z, kz, ?_⟩
  refine intO_elim (C := fun x2 => Φ.rp s₂.heap v2 x2 → Φ.rp s₂.heap _ z) ez (fun i ez r2 => ?_) r2
  cases ez
  rw [find_map]
  cases ea : atKey xs (keysOf x1) with
  | none => exact r2
  | some p' =>
    obtain ⟨b, w⟩ := p'
    unfold atKey at ea
    obtain ⟨q, hq, e⟩ := Option.map_eq_some_iff.mp ea
    obtain ⟨m, t, em⟩ := (hv q (List.mem_of_find?_eq_some hq)).2
    have : w = q.2.2 := by rw [e]
    show Φ.rp s₂.heap w (.int (numOf w))
    rw [this, em]; exact .int m t
end
section
variable {fx : Fx}
theorem ex_ownD {n : Str} {k : Nat} {py spos pos : Pos} (hT : TgtOk fx.ρ fx.env n k) : ExB fx (exec (.Assign [.Name n py] (.Dict [] [] pos) spos) fx.env) (fun G K => K none (G.set k (.ownD []))) := fun oa G K s hd I E => by
  rw [exec_Assign_Name _ _ _ _ _ (swaps_no rfl)]
  refine wpAny_bind (wpAny_standAt (wpAny_bind (wpAny_Dict_empty ?_)))
  have gr := Grown.push s { cls := .type "dict", data := .dict #[] } s.toks
  have hD : s.heap.get? s.heap.objs.size = none := size_none _
  refine wpAny_bind (wpAny_standAt (wpAny_bind (wpAny_bindName (put_new (a := s.heap.objs.size) (sl := .ownD []) hT I (I.base.grown gr) gr.keeps hD ⟨_, Heap.get?_push_size _ rfl⟩ (fun _ q => nomatch q) (fun q => nomatch q) id (fun h' kp => ?_) (fun s' I' t' => wpAny_pure (.next I' t' hd)) E))))
  have nb : ¬ (Ct.mk fx oa G).own s.heap.objs.size := fun q => I.fresh (.inr q)
  exact ⟨rfl, [], ⟨_, #[], 0, kp _ _ (Heap.get?_push_size _ rfl) nb, ⟨rfl, rfl, rfl⟩, rfl, rfl, fun _ hx => (nomatch hx), List.nodup_nil⟩, fun _ hx => (nomatch hx), rfl⟩
theorem putD_eq {xs : List (List Sc × Addr × Value)} {k : List Sc} {c : Addr} {i : Int} {t : Tok} : putD (xs.map fun x => (x.1, numOf x.2.2)) k i = (storedH xs k c (.int i t)).map fun x => (x.1, numOf x.2.2) := by
  unfold putD storedH
  rw [find_map]
  have e : ((Option.map numOf (Option.map (fun x => x.2) (atKey xs k))).isSome) = (atKey xs k).isSome := by cases atKey xs k <;> rfl
  rw [e]
  split
  · rw [List.map_map, List.map_map]
    apply List.map_congr_left
    intro x _
    show (if x.1 = k then _ else _) = _
    by_cases q : x.1 = k
    · rw [if_pos q]; show _ = ((putAt k _ x).1, _); unfold putAt; rw [if_pos q]; rfl
    · rw [if_neg q]; show _ = ((putAt k _ x).1, _); unfold putAt; rw [if_neg q]
  · rw [List.map_append]; rfl
theorem ex_setD {n : Str} {k : Nat} {np sp spos : Pos} {ei ev : Expr} {d1 d2 : Gs → DV} (hx : fx.ρ.lookup n = some k) (hn : okName n = true) (hs : notComp ev = true) (h1 : ∀ oa G, Ev ⟨fx, oa, G⟩ (eval ev fx.env) (d1 G)) (h2 : ∀ oa G, Ev ⟨fx, oa, G⟩ (eval ei fx.env) (d2 G)) :
    ExB fx (exec (.Assign [.Subscript (.Name n np) ei sp] ev spos) fx.env) (fun G K => okK (ownDO G k) fun l => d1 G fun y => d2 G fun x => okK (if (flatV x && decide (l.length < szLine)) = true then intO y fun i => some (putD l (keysOf x) i) else none) fun l' => K none (G.set k (.ownD l'))) := fun oa G K s hd I E => okK_elim hd fun l el hd => by
  rw [exec_Assign_Subscript _ _ _ _ _ (swaps_no hs)]
  refine wpAny_bind (wpAny_standAt (wpAny_bind (wpAny_mono (h1 oa G _ s hd I E) (fun v1 s₁ ⟨B1, k1, y, hy, r1⟩ => ?_) fun _ _ z => z)))
  have I1 := I.keep B1 k1
  rw [assign_Subscript]
  obtain ⟨a, u, ha, pr, rfl, xs, D, hv, rfl⟩ := own_of (Φ := ⟨fx, oa, G⟩) I1 (ownD_some el) id
  refine wpAny_bind (wpAny_bind (wpAny_holding (name_read (Φ := ⟨fx, oa, G⟩) I1.ok hx hn pr ?_ E)))
  refine wpAny_bind (wpAny_holding (wpAny_mono (h2 oa G _ s₁ hy I1 E) (fun v2 s₂ ⟨B2, k2, x, hxx, r2⟩ => ?_) fun _ _ z => z))
  have I2 := I1.keep B2 k2
  refine okK_elim hxx fun l2 e2 kz => ifo_elim e2 fun hf e2 => ?_
  have hf := (Bool.and_eq_true _ _).mp hf
  obtain ⟨c, rfl, nc, key⟩ := flat_key hf.1 r2
  obtain ⟨o, es, ep, ho, hx', hdd, hes, hkk, hnd⟩ := id D
  have hlen : xs.length < szLine := by have := of_decide_eq_true hf.2; rwa [List.length_map] at this
  have D2 : s₂.heap.DictOfH (tupleKind (scKind fx.g.prog fx.g.w)) a xs := ⟨o, es, ep, k2 _ _ ho, hx', hdd, hes, fun x m => let ⟨o', it, n, q, r⟩ := hkk x m; ⟨o', it, n, k2 _ _ q, r⟩, hnd⟩
  obtain ⟨i, t, e1, rfl⟩ : ∃ i t, v1 = .int i t ∧ putD (xs.map fun x => (x.1, numOf x.2.2)) (keysOf x) i = l2 := intO_elim (C := fun y => (Ct.mk fx oa G).rp s₁.heap v1 y → ∃ i t, v1 = .int i t ∧ putD (xs.map fun x => (x.1, numOf x.2.2)) (keysOf x) i = l2) e2 (fun i e2 r1 => r1.int_elim (C := fun v1 => ∃ i t, v1 = .int i t ∧ putD (xs.map fun x => (x.1, numOf x.2.2)) (keysOf x) i = l2) fun t => ⟨i, t, rfl, Option.some.inj e2⟩) r1
  subst e1
  refine wpAny_bind (wpAny_standAt (wpAny_bind (wpAny_holding (wpAny_setItem_heap (knd := tupleKind (scKind fx.g.prog fx.g.w)) (show fx.A.units + 1 < cLine by have := I.room; exact Nat.lt_of_le_of_lt (by show fx.A.units + 1 ≤ fx.A.units + 100; omega) this) key D2 (fun h' D' sb => wpAny_release (wpAny_pure ?_)) (sz_le (Nat.le_of_lt hlen))))))
  have nb : ∀ x' ∈ storedH xs (keysOf x) c (.int i t), ¬ (Ct.mk fx oa G).bad x'.2.1 ∧ ∃ n t, x'.2.2 = .int n t := fun x' m => by
    unfold storedH at m
    split at m
    · obtain ⟨x0, m0, rfl⟩ := List.mem_map.mp m
      unfold putAt
      split
      · exact ⟨(hv x0 m0).1, i, t, rfl⟩
      · exact hv x0 m0
    · rcases List.mem_append.mp m with m | m
      · exact hv x' m
      · cases List.mem_singleton.mp m; exact ⟨nc, i, t, rfl⟩
  obtain ⟨o', es', ep', ho', q'⟩ := id D'
  have q := Inv.mutate (Φ := ⟨fx, oa, G⟩) (sl := .ownD (putD (xs.map fun x => (x.1, numOf x.2.2)) (keysOf x) i)) (tk := s₂.toks + (tupleKind (scKind fx.g.prog fx.g.w)).draws (keysOf x)) I2 ha (pr.keep k2) sb ⟨_, ho'⟩ ⟨rfl, _, D', nb, putD_eq⟩ (fun _ q => nomatch q) (fun q => nomatch q) fun q => q.elim
  exact .next (Φ := ⟨fx, oa, G⟩) q.1 ((Tr.of_keeps (k1.trans k2)).trans q.2) kz
end
end Mine
end

noncomputable section
set_option maxRecDepth 100000
set_option linter.unusedVariables false
namespace Mine
open PySem PySem.Calls PyProof.Rows PySem.W

section
variable {g : Gl} {bad : Addr → Prop} {h : Heap} {o : Obj} {ws : List Value} {j : Nat} {x : Str} {v : Value}
theorem look_fld (f : FldObj g o ws) (nd : g.flds.Nodup) (hx : g.flds[j]? = some x) (hv : ws[j]? = some v) : lookIn x o = some (some v) := by
  obtain ⟨_, es, n, hd, hw, hk⟩ := f
  subst hw
  rw [List.getElem?_map, Array.getElem?_toList] at hv
  obtain ⟨e, ee, rfl⟩ := Option.map_eq_some_iff.mp hv
  obtain ⟨y, t, hy, ek⟩ := hk j e ee
  rw [hx] at hy; cases hy
  unfold lookIn
  rw [hd]
  dsimp only
  cases hf : es.toList.find? (·.key.isStr x) with
  | none =>
    have := List.find?_eq_none.mp hf e (List.mem_of_getElem? (Array.getElem?_toList ▸ ee))
    rw [ek] at this
    exact absurd (by simp [Value.isStr]) this
  | some e' =>
    have hm := List.mem_of_find?_eq_some hf
    have hs := List.find?_some hf
    obtain ⟨i, hi⟩ := List.getElem?_of_mem hm
    rw [Array.getElem?_toList] at hi
    obtain ⟨z, t', hz, ek'⟩ := hk i e' hi
    rw [ek'] at hs
    have hzx : z = x := by simpa [Value.isStr] using hs
    subst hzx
    have := (List.getElem?_inj (List.getElem?_eq_some_iff.mp hx).1 nd).mp (hx.trans hz.symm)
    subst this
    rw [ee] at hi; cases hi; rfl
theorem look_none (f : FldObj g o ws) (hx : x ∉ g.flds) : lookIn x o = some none := by
  obtain ⟨_, es, n, hd, hw, hk⟩ := f
  have key : ∀ e ∈ es.toList, ∃ y t, y ∈ g.flds ∧ e.key = .str y t := fun e m => by
    obtain ⟨i, hi⟩ := List.getElem?_of_mem m
    rw [Array.getElem?_toList] at hi
    obtain ⟨z, t', hz, ek'⟩ := hk i e hi
    exact ⟨z, t', List.mem_of_getElem? hz, ek'⟩
  unfold lookIn
  rw [hd]
  dsimp only
  have hf : es.toList.find? (·.key.isStr x) = none := List.find?_eq_none.mpr fun e m q => by
    obtain ⟨y, t, hy, ek⟩ := key e m
    rw [ek] at q
    have : y = x := by simpa [Value.isStr] using q
    exact hx (this ▸ hy)
  have hr : es.toList.any (·.refKey) = false := List.any_eq_false.mpr fun e m q => by
    obtain ⟨y, t, hy, ek⟩ := key e m
    unfold DictEntry.refKey at q
    rw [ek] at q; cases q
  rw [hf, hr]; rfl
theorem handed_rp {y : V} (r : Rp g bad h v y) : handedIn v = true := by cases r <;> rfl
end
section
variable {Φ : Ct} {s : Shared} {v u : Value} {x y z : V} {d : DV}
theorem own_dict {C : Addr} {o : Obj} {nm : Str} (I : Inv Φ s) : ∃ cd, clsIn Φ.fx.g.K Φ.fx.g.C = some cd ∧ PySem.W.ownOf cd (some o) nm = lookIn nm o := by
  obtain ⟨cd, hc, hd⟩ := any_some I.ok.gr.cls.hdict
  exact ⟨cd, hc, by unfold PySem.W.ownOf; rw [hd]; rfl⟩
theorem find_fld {o : Obj} {ws : List Value} {j : Nat} {nm : Str} (I : Inv Φ s) (f : FldObj Φ.fx.g o ws) (hx : Φ.fx.g.flds[j]? = some nm) (hv : ws[j]? = some v) : findObj Φ.fx.g.K Φ.fx.g.C (some o) nm = some (.value v) := by
  obtain ⟨cd, hc, ho⟩ := own_dict (C := 0) (o := o) (nm := nm) I
  unfold findObj
  rw [hc, Option.bind_some, I.ok.gr.cls.flds nm (List.mem_of_getElem? hx), Option.bind_some, Option.bind_some, Option.bind_some]
  show (PySem.W.ownOf cd (some o) nm).bind _ = _
  rw [ho, look_fld f I.ok.gr.cls.nodup hx hv]; rfl
theorem ev_attr {e : Expr} {nm : Str} {j : Nat} {pos : Pos} (he : simpleE e = true) (hx : Φ.fx.g.flds[j]? = some nm) (h : Ev Φ (eval e Φ.fx.env) d) :
    Ev Φ (eval (.Attribute e nm pos) Φ.fx.env) (fun K => d fun x => okK (opN (.attr j) [x]) K) := fun K s hd I => by
  rw [arm_eval_Attribute, base_simple he]
  refine h.bind hd I fun v x s₁ I₁ k₁ hx' r => wp_stand ?_
  refine okK_elim hx' fun z ez kz E => ?_
  cases x with
  | dict kvs =>
    obtain ⟨p, hp, rfl⟩ := Option.map_eq_some_iff.mp (show (kvs[j]?).map (·.2) = some z from ez)
    refine r.inst_elim (C := fun v => wpAny _ _ (holding [v] (getAttr v nm true) >>= _) _ E s₁) fun a dd o ws nb nb' ha hdd hf hl => ?_
    have hz : (kvs.map (·.2))[j]? = some p.2 := by rw [List.getElem?_map, hp]; rfl
    obtain ⟨w, hw, rw'⟩ := hl.get hz
    exact wpAny_bind (wpAny_holding (get_value I₁.frag ⟨ha, rfl, rfl, hdd⟩ I₁.ok.gr.cls.hga (find_fld I₁ hf hx hw) (handed_rp rw') (wpAny_bind (wpAny_letTemporaryGo (wpAny_pure ⟨I₁.base.grown (.toks _ _), .refl _, _, kz, rw'⟩)))))
  | _ => cases ez
theorem ev_meth {e : Expr} {nm : Str} {f : Nat} {apos pos : Pos} (he : simpleE e = true) (hline : (apos.endLine == pos.line) = true) (hnf : nm ∉ Φ.fx.g.flds) (hf : findIn Φ.fx.g.K (.ref Φ.fx.g.C) nm = some (some (.ref (Φ.fx.g.fn f)))) (ht : typeIn Φ.fx.g.K (.ref (Φ.fx.g.fn f)) = some (.type "function")) (hk : keepIn Φ.fx.g.K (.ref (Φ.fx.g.fn f)) = true) (h : Ev Φ (eval e Φ.fx.env) d) :
    Ev Φ (eval (.Call (.Attribute e nm apos) [] [] pos) Φ.fx.env) (fun K => d fun x => isInst x = true ∧ callN Φ.fx.g.P Φ.fx.d f [x] K) := fun K s hd I => by
  rw [arm_eval_Call, base_simple he]
  refine h.bind hd I fun v x s₁ I₁ k₁ hx r => wp_stand fun E => ?_
  cases x with
  | dict kvs =>
    unfold methodCall
    have r' := r
    refine Rp.inst_elim (C := fun v => Φ.rp s₁.heap v (.dict kvs) → wpAny _ _ (holding [v] (calleeOf _ e Φ.fx.env v nm) >>= _) _ E s₁) r (fun a dd o ws nb nb' ha hdd hfl hl r' => ?_) r'
    refine wpAny_bind (wpAny_holding (method_fn (od := some o) I₁.frag ⟨ha, rfl, rfl, hdd⟩ I₁.ok.gr.cls.hga I₁.ok.gr.cls.hgk hf ht (by show (lookIn nm o).map _ = _; rw [look_none hfl hnf]; rfl) ?_))
    have hp : methodCallPos (methodCallForm ([] : List Expr).length (backTo pos (starEach [] Φ.fx.env)) (backToKw pos (keywordEach [] Φ.fx.env))) e Φ.fx.env apos pos = pure pos := by unfold methodCallPos; rw [hline, Bool.or_true]; rfl
    refine wpAny_bind ?_
    show wpAny _ _ (methodCallPos (methodCallForm ([] : List Expr).length (backTo pos (starEach [] Φ.fx.env)) (backToKw pos (keywordEach [] Φ.fx.env))) e Φ.fx.env apos pos) _ _ _
    rw [hp]
    refine wpAny_pure (callWith_of rfl (keeps_K hk) (PySem.evalArgs_none ⟨I₁.frag, ?_⟩))
    exact post_of_call I₁ hx.2 (.cons r' .nil)
  | _ => cases hx.1
end
section
variable {fx : Fx}
theorem ownI_some {G : Gs} {k : Nat} {l : List V} (e : ownIO G k = some l) : getSlot G k = .ownI l := by
  unfold ownIO at e
  split at e
  · cases e; assumption
  · cases e
theorem set_fld_ok {Φ : Ct} {s : Shared} {E : Value → Shared → Prop} {b a : Addr} {o : Obj} {ws : List Value} {nm : Str} {v : Value} {Q : Unit → Shared → Prop} (I : Inv Φ s) (hb : s.heap.get? b = some (instObj Φ.fx.g.C a)) (ha : s.heap.get? a = some o) (hf : FldObj Φ.fx.g o ws) (hx : Φ.fx.g.flds[ws.length]? = some nm)
    (h : ∀ h' tk o', Heap.SameBut a s.heap h' → h'.get? a = some o' → FldObj Φ.fx.g o' (ws ++ [v]) → Q () { s with heap := h', toks := tk }) : wpAny (model Φ.fx.g.prog Φ.fx.g.w) Φ.fx.A (setAttr (.ref b) nm v) Q E s := by
  have ht : takerIn Φ.fx.g.K Φ.fx.g.C nm = some none := by unfold takerIn; rw [I.ok.gr.cls.flds nm (List.mem_of_getElem? hx)]; rfl
  have IA : InstAt s.heap b (instObj Φ.fx.g.C a) Φ.fx.g.C (some o) := ⟨hb, rfl, rfl, ha⟩
  refine set_plain I.frag IA I.ok.gr.cls.hsa ?_
  refine osa_open (s := { s with toks := s.toks + 1 }) (od := some o) I.frag ⟨hb, rfl, rfl, ha⟩ I.ok.gr.cls.over ht fun bb => ?_
  obtain ⟨cd, hc, hd'⟩ := any_some I.ok.gr.cls.hdict
  refine wpAny_bind (wpAny_pure (wpAny_bind (wpAny_bind (wpAny_loadPart hb (wpAny_bind (Looks.here (s := { s with toks := s.toks + 1 }) (looks_clsIn I.frag hc) ?_))))))
  rw [hd']
  refine wpAny_pure (a := some a) (wpAny_bind (wpAny_pure (wpAny_bind ?_)))
  unfold nsSet
  refine wpAny_bind (wpAny_bind (wpAny_askSetting (wpAny_pure (wpAny_bind (wpAny_mkText (wpAny_bind (wpAny_loadPart ha ?_)))))))
  obtain ⟨hex, es, n, hd, hw, hk⟩ := hf
  have hlen : es.size = ws.length := by rw [← hw, List.length_map, Array.length_toList]
  have key : ∀ e ∈ es.toList, ∃ y t, e.key = .str y t ∧ y ≠ nm := fun e m => by
    obtain ⟨i, hi⟩ := List.getElem?_of_mem m
    rw [Array.getElem?_toList] at hi
    obtain ⟨z, t', hz, ek'⟩ := hk i e hi
    refine ⟨z, t', ek', fun q => ?_⟩
    subst q
    have := (List.getElem?_inj (List.getElem?_eq_some_iff.mp hz).1 I.ok.gr.cls.nodup).mp (hz.trans hx.symm)
    have := (Array.getElem?_eq_some_iff.mp hi).1
    omega
  have na : es.toList.any (·.key.isStr nm) = false := List.any_eq_false.mpr fun e m q => by
    obtain ⟨y, t, ek, hy⟩ := key e m
    rw [ek] at q
    exact hy (by simpa [Value.isStr] using q)
  have nr : es.toList.any (·.refKey) = false := List.any_eq_false.mpr fun e m q => by
    obtain ⟨y, t, ek, hy⟩ := key e m
    unfold DictEntry.refKey at q
    rw [ek] at q; cases q
  rw [hd]
  dsimp only
  rw [aRefKeyMayBeTheName_at, ← Array.any_toList, ← Array.any_toList, nr, Bool.and_false]
  refine wpAny_updatePart ha ?_
  obtain ⟨l⟩ := es
  obtain ⟨oc, od, dat, sl⟩ := o
  cases hd
  have pe := putName_eq nm (PyData.keyHash Φ.fx.g.w.params nm) (.str nm (s.toks + 1)) v oc od l n sl
  rw [na, if_neg Bool.false_ne_true, show PySem.putIn (·.key.isStr nm) (fun e => { e with val := v }) ⟨PyData.keyHash Φ.fx.g.w.params nm, .str nm (s.toks + 1), v⟩ l = l ++ [⟨PyData.keyHash Φ.fx.g.w.params nm, .str nm (s.toks + 1), v⟩] by unfold PySem.putIn; rw [List.findIdx?_eq_none_iff.mpr fun e m => by simpa using List.any_eq_false.mp na e m]] at pe
  have D' := Heap.get?_update_self (Obj.putName nm (PyData.keyHash Φ.fx.g.w.params nm) (.str nm (s.toks + 1)) v) ha (by rw [pe]; rfl)
  rw [pe] at D'
  have hlt := (List.getElem?_eq_some_iff.mp hx).1
  have hfew := I.ok.gr.cls.few
  refine wpAny_bind (wpAny_lookBehind D' (pastItsLine_dict (by rw [List.size_toArray, List.length_append, sizeLine_eq]; show l.length + 1 ≤ _; have : l.length = ws.length := hlen; omega)) ?_)
  refine wpAny_pure (h _ _ _ (.update ..) D' ⟨⟨hex.1, hex.2.1, hex.2.2⟩, _, _, rfl, ?_, fun j e ee => ?_⟩)
  · rw [List.map_append, hw]; rfl
  · have ee : (l ++ [(⟨PyData.keyHash Φ.fx.g.w.params nm, .str nm (s.toks + 1), v⟩ : DictEntry)])[j]? = some e := by simpa using ee
    rcases Nat.lt_or_ge j l.length with q | q
    · rw [List.getElem?_append_left q] at ee; exact hk j e (by simpa using ee)
    · rw [List.getElem?_append_right q] at ee
      have : j - l.length = 0 := by have := (List.getElem?_eq_some_iff.mp ee).1; rw [List.length_singleton] at this; omega
      rw [this] at ee
      cases ee
      have hl2 : l.length = ws.length := hlen
      exact ⟨nm, _, by rw [show j = ws.length by omega]; exact hx, rfl⟩
theorem ex_setAttr {n : Str} {k j : Nat} {np ap spos : Pos} {nm : Str} {e : Expr} {d : Gs → DV} (hx : fx.ρ.lookup n = some k) (hn : okName n = true) (hnm : fx.g.flds[j]? = some nm) (hs : notComp e = true) (h : ∀ oa G, Ev ⟨fx, oa, G⟩ (eval e fx.env) (d G)) :
    ExB fx (exec (.Assign [.Attribute (.Name n np) nm ap] e spos) fx.env) (fun G K => d G fun x => okK (ownIO G k) fun l => l.length = j ∧ K none (G.set k (.ownI (l ++ [x])))) := fun oa G K s hd I E => by
  refine plainObj_wpAny_Assign_Attribute (wpAny_mono (h oa G _ s hd I E) (fun v s₁ ⟨B1, k1, x, hx', r⟩ => okK_elim hx' fun l el ⟨hj, hk⟩ => ?_) fun _ _ z => z) (swaps_no hs)
  have I1 := I.keep B1 k1
  obtain ⟨a, u, ha, pr, b, o, ws, rfl, nb, hb, ho, hf, hl⟩ := own_of (Φ := ⟨fx, oa, G⟩) I1 (ownI_some el) id
  refine name_read (Φ := ⟨fx, oa, G⟩) I1.ok hx hn pr ?_ E
  refine set_fld_ok (Φ := ⟨fx, oa, G⟩) I1 hb ho hf (by rw [hl.length, hj]; exact hnm) fun h' tk o' sb ho' hf' => ?_
  have mk : MapK (Ct.mk fx oa G).bad (Ct.mk fx oa G).bad s₁.heap h' := fun c o e nc => ⟨nc, sb.extBut c o (fun q => nc (.inr (.inr ⟨k, q ▸ ha⟩))) e⟩
  have q := Inv.mutate (Φ := ⟨fx, oa, G⟩) (sl := .ownI (l ++ [x])) (tk := tk) I1 ha pr sb ⟨_, ho'⟩ ⟨b, o', ws ++ [v], rfl, nb, (mk _ _ hb nb).2, ho', hf', (hl.map mk).append (.cons (r.map mk) .nil)⟩ (fun _ q => nomatch q) (fun q => nomatch q) fun _ => by show isI (getSlot G k); rw [ownI_some el]; trivial
  exact .next (Φ := ⟨fx, oa, G⟩) q.1 ((Tr.of_keeps k1).trans q.2) hk
end
end Mine
end

noncomputable section
namespace Mine
open PySem PySem.SetTable

/-! the table of a set: places that rise -/
noncomputable def Rise (xs : Array Nat) : Prop := ∀ i j a b : Nat, i < j → xs[i]? = some a → xs[j]? = some b → a < b
theorem below_go {xs : Array Nat} {j : Nat} (r : Rise xs) : ∀ fuel lo hi, lo ≤ hi → hi ≤ xs.size → hi ≤ lo + fuel → (∀ i a : Nat, i < lo → xs[i]? = some a → a < j) → (∀ i a : Nat, hi ≤ i → xs[i]? = some a → j ≤ a) →
    below.go xs j fuel lo hi ≤ xs.size ∧ (∀ i a : Nat, i < below.go xs j fuel lo hi → xs[i]? = some a → a < j) ∧ ∀ i a : Nat, below.go xs j fuel lo hi ≤ i → xs[i]? = some a → j ≤ a
  | 0, lo, hi, h1, h2, h3, h4, h5 => ⟨Nat.le_trans h1 h2, h4, fun i a q => h5 i a (Nat.le_trans h3 q)⟩
  | fuel + 1, lo, hi, h1, h2, h3, h4, h5 => by
    unfold below.go
    by_cases h : lo < hi
    · rw [if_pos h]
      have hm : (lo + hi) / 2 < xs.size := by omega
      have e : xs[(lo + hi) / 2]? = some (xs.getD ((lo + hi) / 2) j) := by simp [hm]
      by_cases c : xs.getD ((lo + hi) / 2) j < j
      · simp only [c, if_true]
        refine below_go r fuel _ hi (by omega) h2 (by omega) (fun i a q ea => ?_) h5
        by_cases q' : i = (lo + hi) / 2
        · subst q'; rw [e] at ea; cases ea; exact c
        · exact Nat.lt_trans (r _ _ _ _ (by omega) ea e) c
      · simp only [c, if_false]
        refine below_go r fuel lo _ (by omega) (by omega) (by omega) h4 fun i a q ea => ?_
        by_cases q' : i = (lo + hi) / 2
        · subst q'; rw [e] at ea; cases ea; exact Nat.le_of_not_lt c
        · exact Nat.le_of_lt (Nat.lt_of_le_of_lt (Nat.le_of_not_lt c) (r _ _ _ _ (by omega) e ea))
    · rw [if_neg h]
      exact ⟨Nat.le_trans h1 h2, h4, fun i a q => h5 i a (by omega)⟩
theorem below_ok {xs : Array Nat} (r : Rise xs) (j : Nat) : below xs j ≤ xs.size ∧ (∀ i a : Nat, i < below xs j → xs[i]? = some a → a < j) ∧ ∀ i a : Nat, below xs j ≤ i → xs[i]? = some a → j ≤ a :=
  below_go r _ _ _ (Nat.zero_le _) (Nat.le_refl _) (by omega) (fun _ _ q => absurd q (Nat.not_lt_zero _)) fun i a q e => by rw [Array.getElem?_eq_none q] at e; cases e
theorem below_at {xs : Array Nat} (r : Rise xs) {i j : Nat} (e : xs[i]? = some j) : below xs j = i := by
  obtain ⟨_, h1, h2⟩ := below_ok r j
  rcases Nat.lt_trichotomy i (below xs j) with q | q | q
  · exact absurd (h1 _ _ q e) (Nat.lt_irrefl _)
  · exact q.symm
  · have hb : below xs j < xs.size := by
      have : i < xs.size := by rcases Nat.lt_or_ge i xs.size with q | q; exact q; rw [Array.getElem?_eq_none q] at e; cases e
      omega
    have e' : xs[below xs j]? = some xs[below xs j] := by simp
    have a1 := h2 _ _ (Nat.le_refl _) e'
    have a2 := r _ _ _ _ q e' e
    omega
theorem rise_inj {xs : Array Nat} (r : Rise xs) {i k j : Nat} (e : xs[i]? = some j) (e' : xs[k]? = some j) : i = k := (below_at r e).symm.trans (below_at r e')
theorem has_gap {xs : Array Nat} (r : Rise xs) : ∃ e, e ≤ xs.size ∧ ∀ i : Nat, xs[i]? ≠ some e := by
  refine Classical.byContradiction fun c => ?_
  have all : ∀ e, e ≤ xs.size → ∃ i : Nat, xs[i]? = some e := fun e h => Classical.byContradiction fun q => c ⟨e, h, fun i z => q ⟨i, z⟩⟩
  have up : ∀ e, e ≤ xs.size → ∀ i : Nat, xs[i]? = some e → e ≤ i := fun e => by
    induction e with
    | zero => exact fun _ _ _ => Nat.zero_le _
    | succ e ih =>
      intro h i z
      obtain ⟨k, hk⟩ := all e (by omega)
      have := ih (by omega) k hk
      rcases Nat.lt_trichotomy i k with q | q | q
      · have := r _ _ _ _ q z hk; omega
      · subst q; rw [z] at hk; cases hk
      · omega
  obtain ⟨i, hi⟩ := all _ (Nat.le_refl _)
  have := up _ (Nat.le_refl _) i hi
  rw [Array.getElem?_eq_none this] at hi; cases hi
theorem insertAt_list {α : Type} {xs : Array α} {p : Nat} {x : α} : (insertAt xs p x).toList = xs.toList.take p ++ x :: xs.toList.drop p := by
  unfold insertAt
  rw [Array.toList_append, Array.toList_push, Array.toList_extract, Array.toList_extract, List.append_assoc, List.extract_eq_take_drop, List.extract_eq_take_drop, List.drop_zero, Nat.sub_zero, List.take_of_length_le (i := xs.size - p) (by rw [List.length_drop, Array.length_toList]; exact Nat.le_refl _)]; rfl
theorem insertAt_get {α : Type} {xs : Array α} {p : Nat} {x : α} (h : p ≤ xs.size) (i : Nat) : (insertAt xs p x)[i]? = if i < p then xs[i]? else if i = p then some x else xs[i - 1]? := by
  have lp : (xs.toList.take p).length = p := by rw [List.length_take, Array.length_toList]; exact Nat.min_eq_left h
  rw [← Array.getElem?_toList, insertAt_list]
  rcases Nat.lt_trichotomy i p with hi | rfl | hi
  · rw [if_pos hi, List.getElem?_append_left (Nat.lt_of_lt_of_eq hi lp.symm), List.getElem?_take_of_lt hi, Array.getElem?_toList]
  · rw [if_neg (Nat.lt_irrefl _), if_pos rfl, List.getElem?_append_right (Nat.le_of_eq lp), lp, Nat.sub_self]; rfl
  · rw [if_neg (Nat.lt_asymm hi), if_neg (Nat.ne_of_gt hi), List.getElem?_append_right (Nat.le_trans (Nat.le_of_eq lp) (Nat.le_of_lt hi)), lp]
    obtain ⟨k, rfl⟩ := Nat.exists_eq_add_of_lt hi
    rw [Nat.add_assoc, Nat.add_sub_cancel_left, List.getElem?_cons_succ, List.getElem?_drop, Array.getElem?_toList]; rfl
theorem insertAt_size {α : Type} {xs : Array α} {p : Nat} {x : α} (h : p ≤ xs.size) : (insertAt xs p x).size = xs.size + 1 := by
  rw [← Array.length_toList, insertAt_list, List.length_append, List.length_take, Array.length_toList, Nat.min_eq_left h, List.length_cons, List.length_drop, Array.length_toList, ← Nat.add_assoc, Nat.add_sub_cancel' h]
theorem insertAt_cases {α : Type} {xs : Array α} {p : Nat} {x y : α} {i : Nat} (h : p ≤ xs.size) (e : (insertAt xs p x)[i]? = some y) : (i = p ∧ x = y) ∨ (i ≠ p ∧ xs[if i < p then i else i - 1]? = some y) := by
  rw [insertAt_get h] at e
  by_cases h1 : i < p
  · rw [if_pos h1] at e; exact .inr ⟨by omega, by rw [if_pos h1]; exact e⟩
  · rw [if_neg h1] at e
    by_cases h2 : i = p
    · rw [if_pos h2] at e; cases e; exact .inl ⟨h2, rfl⟩
    · rw [if_neg h2] at e; exact .inr ⟨h2, by rw [if_neg h1]; exact e⟩
theorem insertAt_old {α : Type} {xs : Array α} {p : Nat} {x y : α} {i : Nat} (h : p ≤ xs.size) (e : xs[i]? = some y) : (insertAt xs p x)[if i < p then i else i + 1]? = some y := by
  rw [insertAt_get h]
  by_cases h1 : i < p
  · rw [if_pos h1, if_pos h1]; exact e
  · rw [if_neg h1, if_neg (by omega), if_neg (by omega)]; exact e
theorem rise_insert {xs : Array Nat} (r : Rise xs) {j : Nat} (h : ∀ i : Nat, xs[i]? ≠ some j) : Rise (insertAt xs (below xs j) j) := fun i k a b hik ea eb => by
  obtain ⟨hp, h1, h2⟩ := below_ok r j
  have le : ∀ i a : Nat, below xs j ≤ i → xs[i]? = some a → j < a := fun i a q e => Nat.lt_of_le_of_ne (h2 i a q e) fun z => h i (z ▸ e)
  rcases insertAt_cases hp ea with ⟨rfl, rfl⟩ | ⟨q1, z1⟩ <;> rcases insertAt_cases hp eb with ⟨rfl, rfl⟩ | ⟨q2, z2⟩
  · omega
  · rw [if_neg (by omega)] at z2; exact le _ _ (by omega) z2
  · rw [if_pos hik] at z1; exact h1 _ _ hik z1
  · refine r _ _ _ _ ?_ z1 z2
    by_cases c1 : i < below xs j
    · rw [if_pos c1]
      by_cases c2 : k < below xs j
      · rw [if_pos c2]; exact hik
      · rw [if_neg c2]; exact Nat.lt_of_lt_of_le c1 (Nat.le_sub_one_of_lt (Nat.lt_of_le_of_ne (Nat.le_of_not_lt c2) (Ne.symm q2)))
    · have c2 : ¬ k < below xs j := fun q => c1 (Nat.lt_trans hik q)
      rw [if_neg c1, if_neg c2]
      exact Nat.sub_lt_sub_right (Nat.succ_le_of_lt (Nat.lt_of_le_of_lt (Nat.zero_le _) (Nat.lt_of_le_of_ne (Nat.le_of_not_lt c1) (Ne.symm q1)))) hik
theorem slot_is {t : SetTable} (hd : t.dummies = #[]) (r : Rise t.place) (j : Nat) : (∃ i : Nat, t.place[i]? = some j ∧ t.slot j = .live i) ∨ (∀ i : Nat, t.place[i]? ≠ some j) ∧ t.slot j = .empty := by
  unfold slot
  by_cases h : ∃ i : Nat, t.place[i]? = some j
  · obtain ⟨i, e⟩ := h
    refine .inl ⟨i, e, ?_⟩
    simp only [below_at r e, e, beq_self_eq_true, if_true]
  · have h : ∀ i : Nat, t.place[i]? ≠ some j := fun i e => h ⟨i, e⟩
    refine .inr ⟨h, ?_⟩
    have : (t.place[below t.place j]? == some j) = false := by simpa using h _
    simp only [this, hd, has, Bool.false_eq_true, if_false]
    simp
end Mine
end

noncomputable section
namespace Mine
open PySem PySem.SetTable

/-! the places that a hash asks for, one after the other -/
noncomputable def adv (m : Nat) (p : Probe) : Probe :=
  if p.more > 0 then { p with j := p.j + 1, more := p.more - 1 } else
  { p with j := (leap m p.i p.perturb).1, more := runEnd m (leap m p.i p.perturb).1 - (leap m p.i p.perturb).1, i := (leap m p.i p.perturb).1, perturb := (leap m p.i p.perturb).2 }
theorem advance_eq (t : SetTable) (p : Probe) : t.advance p = adv t.mask p := rfl
noncomputable def it (m : Nat) : Nat → Probe → Probe
  | 0, p => p
  | n + 1, p => it m n (adv m p)
theorem it_add (m : Nat) : ∀ a b p, it m (a + b) p = it m b (it m a p)
  | 0, b, p => by rw [Nat.zero_add]; rfl
  | a + 1, b, p => by rw [Nat.succ_add]; exact it_add m a b (adv m p)
noncomputable def beg (m i pt : Nat) : Probe := { j := i, more := runEnd m i - i, i := i, perturb := pt, dummy := none }
theorem start_eq (t : SetTable) (h : Int) : t.probeStart h = beg t.mask (bits h % (t.mask + 1)) (bits h) := rfl
noncomputable def lp (m : Nat) (q : Nat × Nat) : Nat × Nat := leap m q.1 q.2
theorem it_run (m : Nat) : ∀ k p, p.more = k → p.dummy = none → it m (k + 1) p = beg m (lp m (p.i, p.perturb)).1 (lp m (p.i, p.perturb)).2
  | 0, p, h, hd => by
    show adv m p = _
    unfold adv; rw [if_neg (by rw [h]; exact Nat.lt_irrefl _), hd]; rfl
  | k + 1, p, h, hd => by
    have e : adv m p = { p with j := p.j + 1, more := p.more - 1 } := if_pos (by rw [h]; exact Nat.succ_pos _)
    show it m (k + 1) (adv m p) = _
    rw [it_run m k (adv m p) (by rw [e]; show p.more - 1 = k; rw [h]; rfl) (by rw [e]; exact hd), e]
theorem more_le (m i : Nat) : runEnd m i - i ≤ 9 := by unfold runEnd; split <;> omega
noncomputable def lps (m : Nat) : Nat → Nat × Nat → Nat × Nat
  | 0, q => q
  | r + 1, q => lps m r (lp m q)
theorem it_runs (m : Nat) : ∀ r p, p.more ≤ 9 → p.dummy = none → ∃ N, N ≤ 10 * (r + 1) ∧ it m N p = beg m (lps m (r + 1) (p.i, p.perturb)).1 (lps m (r + 1) (p.i, p.perturb)).2
  | 0, p, h, hd => ⟨p.more + 1, Nat.succ_le_succ h, it_run m _ p rfl hd⟩
  | r + 1, p, h, hd => by
    obtain ⟨N, h1, h2⟩ := it_runs m r (beg m (lp m (p.i, p.perturb)).1 (lp m (p.i, p.perturb)).2) (more_le _ _) rfl
    refine ⟨p.more + 1 + N, by omega, ?_⟩
    rw [it_add, it_run m _ p rfl hd]; exact h2
theorem lps_add (m : Nat) : ∀ a b q, lps m (a + b) q = lps m b (lps m a q)
  | 0, b, q => by rw [Nat.zero_add]; rfl
  | a + 1, b, q => by rw [Nat.succ_add]; exact lps_add m a b (lp m q)
theorem lps_snd (m : Nat) : ∀ r q, (lps m r q).2 = q.2 / 32 ^ r
  | 0, q => (Nat.div_one _).symm
  | r + 1, q => (lps_snd m r (lp m q)).trans (by show q.2 / 32 / 32 ^ r = _; rw [Nat.div_div_eq_div_mul, Nat.pow_succ, Nat.mul_comm])
theorem lps_fst (m : Nat) : ∀ r q, q.1 ≤ m → (lps m r q).1 ≤ m
  | 0, q, h => h
  | r + 1, q, _ => lps_fst m r (lp m q) (Nat.le_of_lt_succ (Nat.mod_lt _ (Nat.succ_pos _)))
noncomputable def orb (m : Nat) : Nat → Nat
  | 0 => 0
  | n + 1 => (orb m n * 5 + 1) % (m + 1)
noncomputable def Msk (m : Nat) : Prop := m = 7 ∨ m = 31 ∨ m = 127 ∨ m = 511
noncomputable def orbL (m : Nat) : Nat → Nat → List Nat
  | 0, _ => []
  | n + 1, i => (i * 5 + 1) % (m + 1) :: orbL m n ((i * 5 + 1) % (m + 1))
noncomputable def orbChk (m : Nat) : Bool := (List.range (m + 1)).all fun e => (orbL m (m + 1) 0).contains e
theorem orb_chk {m : Nat} (h : Msk m) : orbChk m = true ∧ orb m (m + 1) = 0 := by
  rcases h with rfl | rfl | rfl | rfl
  · decide +kernel
  · decide +kernel
  · decide +kernel
  · decide +kernel
theorem orbL_mem {m : Nat} : ∀ {n a e : Nat}, e ∈ orbL m n (orb m a) → ∃ b, b < n ∧ e = orb m (a + b + 1)
  | 0, _, _, h => nomatch h
  | n + 1, a, e, h => by
    rcases List.mem_cons.mp h with h | h
    · exact ⟨0, Nat.succ_pos _, h⟩
    · obtain ⟨b, hb, q⟩ := orbL_mem (n := n) (a := a + 1) h
      exact ⟨b + 1, Nat.succ_lt_succ hb, by rw [q, Nat.add_right_comm a 1 b]; rfl⟩
theorem orb_all {m e : Nat} (h : Msk m) (he : e ≤ m) : ∃ b, b ≤ m ∧ e = orb m (b + 1) := by
  obtain ⟨b, hb, q⟩ := orbL_mem (a := 0) (List.contains_iff_mem.mp (List.all_eq_true.mp (orb_chk h).1 e (List.mem_range.mpr (Nat.lt_succ_of_le he))))
  exact ⟨b, Nat.le_of_lt_succ hb, by rw [q, Nat.zero_add]⟩
theorem lps_orb (m : Nat) : ∀ r a, lps m r (orb m a, 0) = (orb m (a + r), 0)
  | 0, _ => rfl
  | r + 1, a => by
    have e : lp m (orb m a, 0) = (orb m (a + 1), 0) := by unfold lp leap; rw [Nat.zero_div]; rfl
    show lps m r (lp m (orb m a, 0)) = _
    rw [e, lps_orb m r (a + 1), Nat.add_right_comm a 1 r]; rfl
theorem orb_period {m : Nat} (h : Msk m) : ∀ b, orb m (b + (m + 1)) = orb m b
  | 0 => by rw [Nat.zero_add]; exact (orb_chk h).2
  | b + 1 => by rw [Nat.add_right_comm b 1 (m + 1)]; show (_ * 5 + 1) % (m + 1) = _; rw [orb_period h b]; rfl
theorem leaps {m i pt e : Nat} (h : Msk m) (hi : i ≤ m) (hp : pt < 2 ^ 64) (he : e ≤ m) : ∃ r, r ≤ m + 13 ∧ (lps m (r + 1) (i, pt)).1 = e := by
  have z : lps m 13 (i, pt) = ((lps m 13 (i, pt)).1, 0) := Prod.ext rfl ((lps_snd m 13 (i, pt)).trans (Nat.div_eq_of_lt (Nat.lt_of_lt_of_le hp (by decide))))
  obtain ⟨a, ha, ea⟩ := orb_all h (lps_fst m 13 (i, pt) hi)
  obtain ⟨b, hb, eb⟩ := orb_all h he
  rw [ea] at z
  have go : ∀ r, (lps m (13 + r) (i, pt)).1 = orb m (a + 1 + r) := fun r => by rw [lps_add, z, lps_orb]
  by_cases c : a < b
  · exact ⟨12 + (b - a), by omega, by rw [show 12 + (b - a) + 1 = 13 + (b - a) by omega, go, eb]; congr 1; omega⟩
  · refine ⟨12 + (m + 1 + b - a), by omega, ?_⟩
    rw [show 12 + (m + 1 + b - a) + 1 = 13 + (m + 1 + b - a) by omega, go, eb, ← orb_period h (b + 1)]; congr 1; omega
theorem it_all {m : Nat} {p : Probe} {e : Nat} (h : Msk m) (hi : p.i ≤ m) (hp : p.perturb < 2 ^ 64) (hm : p.more ≤ 9) (hd : p.dummy = none) (he : e ≤ m) : ∃ N, N < 10 * turns m ∧ (it m N p).j = e := by
  obtain ⟨r, hr, q⟩ := leaps h hi hp he
  obtain ⟨N, h1, h2⟩ := it_runs m r p hm hd
  exact ⟨N, by unfold turns; omega, by rw [h2]; exact q⟩
theorem bits_lt (h : Int) : bits h < 2 ^ 64 := by unfold bits; omega
end Mine
end

noncomputable section
namespace Mine
open PySem PySem.SetTable

noncomputable def pos (m : Nat) (h : Int) (n : Nat) : Probe := it m n (beg m (bits h % (m + 1)) (bits h))
noncomputable def In (t : SetTable) (j : Nat) : Prop := ∃ i : Nat, t.place[i]? = some j
noncomputable def Way (t : SetTable) (h : Int) (j : Nat) : Prop := ∃ n, (pos t.mask h n).j = j ∧ ∀ n', n' < n → In t (pos t.mask h n').j
structure Tab {β : Type} (t : SetTable) (es : Array (Int × β)) : Prop where
  msk : Msk t.mask
  dm : t.dummies = #[]
  sz : t.place.size = es.size
  rise : Rise t.place
  le : ∀ i j : Nat, t.place[i]? = some j → j ≤ t.mask
  way : ∀ (i j : Nat) e, t.place[i]? = some j → es[i]? = some e → Way t e.1 j

theorem it_j {m : Nat} : ∀ {n : Nat} {p : Probe}, p.dummy = none → (it m n p).dummy = none
  | 0, _, h => h
  | n + 1, p, h => it_j (n := n) (p := adv m p) (by unfold adv; split <;> exact h)
theorem it_succ {m : Nat} : ∀ n p, it m (n + 1) p = adv m (it m n p)
  | 0, _ => rfl
  | n + 1, p => it_succ n (adv m p)
theorem go_spec {t : SetTable} {hashAt : Nat → Int} {h : Int} (hd : t.dummies = #[]) (r : Rise t.place) : ∀ N fuel p, N < fuel → p.dummy = none → ¬ In t (it t.mask N p).j →
    ∃ n, n ≤ N ∧ (∀ n', n' < n → ∃ i : Nat, t.place[i]? = some (it t.mask n' p).j ∧ hashAt i ≠ h) ∧
      (¬ In t (it t.mask n p).j ∧ probe.go t hashAt h fuel p = some (.empty (it t.mask n p).j none) ∨
       ∃ i : Nat, t.place[i]? = some (it t.mask n p).j ∧ hashAt i = h ∧ probe.go t hashAt h fuel p = some (.candidate (it t.mask n p).j i (it t.mask (n + 1) p))) := by
  intro N
  induction N with
  | zero =>
    intro fuel p hf hp he
    obtain ⟨fuel, rfl⟩ := Nat.exists_eq_succ_of_ne_zero (Nat.ne_of_gt hf)
    refine ⟨0, Nat.le_refl _, fun _ q => absurd q (Nat.not_lt_zero _), .inl ⟨he, ?_⟩⟩
    rcases slot_is hd r p.j with ⟨i, e, _⟩ | ⟨_, e⟩
    · exact absurd ⟨i, e⟩ he
    · unfold probe.go; rw [e]; show some (Met.empty p.j p.dummy) = _; rw [hp]; rfl
  | succ N ih =>
    intro fuel p hf hp he
    obtain ⟨fuel, rfl⟩ := Nat.exists_eq_succ_of_ne_zero (Nat.ne_of_gt (Nat.lt_of_le_of_lt (Nat.zero_le _) hf))
    rcases slot_is hd r p.j with ⟨i, e, es⟩ | ⟨e, es⟩
    · by_cases c : hashAt i = h
      · refine ⟨0, Nat.zero_le _, fun _ q => absurd q (Nat.not_lt_zero _), .inr ⟨i, e, c, ?_⟩⟩
        unfold probe.go; rw [es]; exact if_pos (beq_iff_eq.mpr c)
      · obtain ⟨n, h1, h2, h3⟩ := ih fuel (adv t.mask p) (Nat.lt_of_succ_lt_succ hf) (it_j (n := 1) hp) he
        have hg : probe.go t hashAt h (fuel + 1) p = probe.go t hashAt h fuel (adv t.mask p) := by
          rw [probe.go]; rw [es]; exact if_neg fun q => c (beq_iff_eq.mp q)
        refine ⟨n + 1, Nat.succ_le_succ h1, fun n' q => ?_, ?_⟩
        · cases n' with
          | zero => exact ⟨i, e, c⟩
          | succ n' => exact h2 n' (Nat.lt_of_succ_lt_succ q)
        · rw [hg]; exact h3
    · refine ⟨0, Nat.zero_le _, fun _ q => absurd q (Nat.not_lt_zero _), .inl ⟨fun ⟨i, q⟩ => e i q, ?_⟩⟩
      unfold probe.go; rw [es]; show some (Met.empty p.j p.dummy) = _; rw [hp]; rfl
theorem it_ok {m : Nat} : ∀ n p, p.i ≤ m → p.perturb < 2 ^ 64 → p.more ≤ 9 → (it m n p).i ≤ m ∧ (it m n p).perturb < 2 ^ 64 ∧ (it m n p).more ≤ 9
  | 0, p, h1, h2, h3 => ⟨h1, h2, h3⟩
  | n + 1, p, h1, h2, h3 => by
    refine it_ok n (adv m p) ?_ ?_ ?_ <;> unfold adv <;> split
    · exact h1
    · exact Nat.le_of_lt_succ (Nat.mod_lt _ (Nat.succ_pos _))
    · exact h2
    · exact Nat.lt_of_le_of_lt (Nat.div_le_self _ _) h2
    · exact Nat.le_trans (Nat.sub_le _ _) h3
    · exact more_le _ _
section
variable {β : Type} {t : SetTable} {es : Array (Int × β)}
theorem Tab.gap (T : Tab t es) (hf : t.place.size ≤ t.mask) (h : Int) (k : Nat) : ∃ N, N < 10 * turns t.mask ∧ ¬ In t (it t.mask N (pos t.mask h k)).j := by
  obtain ⟨e, he, q⟩ := has_gap T.rise
  have o := it_ok (m := t.mask) k (beg t.mask (bits h % (t.mask + 1)) (bits h)) (Nat.le_of_lt_succ (Nat.mod_lt _ (Nat.succ_pos _))) (bits_lt h) (more_le _ _)
  obtain ⟨N, h1, h2⟩ := it_all (p := pos t.mask h k) T.msk o.1 o.2.1 o.2.2 (it_j rfl) (Nat.le_trans he hf)
  exact ⟨N, h1, fun ⟨i, z⟩ => q i (by rw [z, h2])⟩
theorem Tab.put (T : Tab t es) {h : Int} {x : β} {j : Nat} (hw : Way t h j) (hj : ¬ In t j) (hl : j ≤ t.mask) : (t.put j).1.mask = t.mask ∧ (t.put j).1.place.size = es.size + 1 ∧ Tab (t.put j).1 (insertAt es (t.put j).2 (h, x)) := by
  have hp := (below_ok T.rise j).1
  have ep : (t.put j).1.place = insertAt t.place (below t.place j) j := rfl
  have ed : (t.put j).1.dummies = #[] := by show (if has t.dummies j then _ else t.dummies) = _; rw [T.dm]; rfl
  have hp' : below t.place j ≤ es.size := T.sz ▸ hp
  have up : ∀ {k}, In t k → In (t.put j).1 k := fun ⟨i, e⟩ => ⟨_, insertAt_old hp e⟩
  have upw : ∀ {k h}, Way t h k → Way (t.put j).1 h k := fun ⟨n, a, b⟩ => ⟨n, a, fun n' q => up (b n' q)⟩
  refine ⟨rfl, by rw [ep, insertAt_size hp, T.sz], T.msk, ed, by rw [ep, insertAt_size hp]; exact T.sz ▸ (insertAt_size hp').symm, rise_insert T.rise fun i e => hj ⟨i, e⟩, fun i k e => ?_, fun i k e ek ee => ?_⟩
  · rcases insertAt_cases hp e with ⟨_, rfl⟩ | ⟨_, e⟩
    · exact hl
    · exact T.le _ _ e
  · rcases insertAt_cases hp ek with ⟨rfl, rfl⟩ | ⟨q, ek⟩
    · rcases insertAt_cases hp' ee with ⟨_, rfl⟩ | ⟨q, _⟩
      · exact upw hw
      · exact absurd rfl q
    · rcases insertAt_cases hp' ee with ⟨q', _⟩ | ⟨_, ee⟩
      · exact absurd q' q
      · exact upw (T.way _ _ _ ek ee)
end
end Mine
end

noncomputable section
namespace Mine
open PySem PySem.SetTable

/-! a table is laid anew -/
noncomputable def Occ (O : Array (Option Nat)) (j : Nat) : Prop := ∃ c, O[j]? = some (some c)
theorem it_in {m : Nat} : ∀ {k : Nat} {p : Probe}, k ≤ p.more → (it m k p).j = p.j + k
  | 0, _, _ => rfl
  | k + 1, p, h => by
    have e : adv m p = { p with j := p.j + 1, more := p.more - 1 } := if_pos (Nat.lt_of_lt_of_le (Nat.succ_pos _) h)
    show (it m k (adv m p)).j = _
    rw [it_in (p := adv m p) (by rw [e]; exact Nat.le_sub_of_add_le h), e]
    show p.j + 1 + k = _; omega
theorem run_le {m i : Nat} (h : i ≤ m) : i ≤ runEnd m i ∧ runEnd m i ≤ m := by unfold runEnd; split <;> omega
theorem occ_or {O : Array (Option Nat)} {m j : Nat} (hs : O.size = m + 1) (hj : j ≤ m) : (Occ O j ∧ (O.getD j (some 0)).isNone = false) ∨ ¬ Occ O j ∧ (O.getD j (some 0)).isNone = true := by
  have e : O[j]? = some (O.getD j (some 0)) := by rw [Array.getD_eq_getD_getElem?, Array.getElem?_eq_getElem (by omega)]; rfl
  unfold Occ
  rw [e]
  cases O.getD j (some 0) with
  | none => exact .inr ⟨(fun ⟨c, q⟩ => nomatch q), rfl⟩
  | some c => exact .inl ⟨⟨c, rfl⟩, rfl⟩
theorem free_spec {m : Nat} {O : Array (Option Nat)} (hs : O.size = m + 1) : ∀ r fuel i pt, r < fuel → i ≤ m → ¬ Occ O (lps m r (i, pt)).1 →
    ∃ n j, layClean.free m O fuel i pt = some j ∧ (it m n (beg m i pt)).j = j ∧ j ≤ m ∧ ¬ Occ O j ∧ ∀ n', n' < n → Occ O (it m n' (beg m i pt)).j := by
  intro r fuel
  induction fuel generalizing r with
  | zero => exact fun _ _ h => absurd h (Nat.not_lt_zero _)
  | succ fuel ih =>
    intro i pt hr hi he
    have hre := run_le hi
    have inr : ∀ k, k < runEnd m i + 1 - i → (it m k (beg m i pt)).j = i + k ∧ i + k ≤ m := fun k hk => ⟨it_in (p := beg m i pt) (by show k ≤ runEnd m i - i; omega), by omega⟩
    unfold layClean.free
    cases hf : (List.range (runEnd m i + 1 - i)).find? fun k => (O.getD (i + k) (some 0)).isNone with
    | some k =>
      obtain ⟨h1, h2, h3⟩ := List.find?_range_eq_some.mp hf
      have hk := inr k (List.mem_range.mp h2)
      refine ⟨k, i + k, rfl, hk.1, hk.2, ?_, fun n' q => ?_⟩
      · rcases occ_or hs hk.2 with ⟨_, z⟩ | ⟨z, _⟩
        · rw [z] at h1; cases h1
        · exact z
      · have hn := inr n' (Nat.lt_trans q (List.mem_range.mp h2))
        rcases occ_or hs hn.2 with ⟨z, _⟩ | ⟨_, z⟩
        · rw [hn.1]; exact z
        · have := h3 n' q; rw [z] at this; cases this
    | none =>
      have hn := List.find?_range_eq_none.mp hf
      have occ : ∀ n', n' < runEnd m i + 1 - i → Occ O (it m n' (beg m i pt)).j := fun n' q => by
        rcases occ_or hs (inr n' q).2 with ⟨z, _⟩ | ⟨_, z⟩
        · rw [(inr n' q).1]; exact z
        · have := hn n' q; rw [z] at this; cases this
      cases r with
      | zero => exact absurd (occ 0 (by omega)) he
      | succ r =>
        obtain ⟨n, j, e1, e2, e3, e4, e5⟩ := ih r (lp m (i, pt)).1 (lp m (i, pt)).2 (Nat.lt_of_succ_lt_succ hr) (Nat.le_of_lt_succ (Nat.mod_lt _ (Nat.succ_pos _))) he
        have hrun := it_run m (runEnd m i - i) (beg m i pt) rfl rfl
        refine ⟨runEnd m i - i + 1 + n, j, e1, ?_, e3, e4, fun n' q => ?_⟩
        · rw [it_add, hrun]; exact e2
        · by_cases c : n' < runEnd m i + 1 - i
          · exact occ n' c
          · have := e5 (n' - (runEnd m i - i + 1)) (by omega)
            rw [show n' = runEnd m i - i + 1 + (n' - (runEnd m i - i + 1)) by omega, it_add, hrun]; exact this
structure LInv (m : Nat) (H : Nat → Int) (O : Array (Option Nat)) (k : Nat) : Prop where
  sz : O.size = m + 1
  way : ∀ j c : Nat, O[j]? = some (some c) → c < k ∧ ∃ n, (pos m (H c) n).j = j ∧ ∀ n', n' < n → Occ O (pos m (H c) n').j
  all : ∀ c, c < k → Exists fun j : Nat => O[j]? = some (some c)
  inj : ∀ j j' c : Nat, O[j]? = some (some c) → O[j']? = some (some c) → j = j'
noncomputable def live (m : Nat) (O : Array (Option Nat)) : List (Nat × Nat) := (List.range (m + 1)).filterMap fun j => (O.getD j none).map (j, ·)
section
variable {m : Nat} {H : Nat → Int} {O : Array (Option Nat)} {k : Nat}
theorem live_mem (hs : O.size = m + 1) {j c : Nat} : (j, c) ∈ live m O ↔ O[j]? = some (some c) := by
  unfold live
  rw [List.mem_filterMap]
  constructor
  · rintro ⟨j', _, e⟩
    obtain ⟨c', ec, q⟩ := Option.map_eq_some_iff.mp e
    cases q
    rw [Array.getD_eq_getD_getElem?] at ec
    cases h : O[j]? with
    | none => rw [h] at ec; cases ec
    | some v => rw [h] at ec; exact congrArg some ec
  · intro e
    have hj : j < O.size := by rcases Nat.lt_or_ge j O.size with q | q; exact q; rw [Array.getElem?_eq_none q] at e; cases e
    exact ⟨j, List.mem_range.mpr (hs ▸ hj), by rw [Array.getD_eq_getD_getElem?, e]; rfl⟩
theorem live_rise : (live m O).Pairwise fun a b => a.1 < b.1 := by
  refine List.Pairwise.filterMap _ (fun a a' h b hb b' hb' => ?_) List.pairwise_lt_range
  obtain ⟨c, _, rfl⟩ := Option.map_eq_some_iff.mp hb
  obtain ⟨c', _, rfl⟩ := Option.map_eq_some_iff.mp hb'
  exact h
theorem live_perm (L : LInv m H O k) : ((live m O).map (·.2)).Perm (List.range k) := by
  refine (List.perm_ext_iff_of_nodup ?_ List.nodup_range).mpr fun c => ?_
  · refine List.Pairwise.map _ (fun a b h => h) ((live_rise (m := m) (O := O)).imp_of_mem fun {a b} ha hb h e => ?_)
    have e1 := (live_mem L.sz).mp (show (a.1, a.2) ∈ live m O from ha)
    have e2 := (live_mem L.sz).mp (show (b.1, b.2) ∈ live m O from hb)
    rw [← e] at e2
    exact absurd (L.inj _ _ _ e1 e2) (Nat.ne_of_lt h)
  · rw [List.mem_map, List.mem_range]
    constructor
    · rintro ⟨⟨j, c⟩, hm, rfl⟩; exact (L.way _ _ ((live_mem L.sz).mp hm)).1
    · intro hc
      obtain ⟨j, e⟩ := L.all c hc
      exact ⟨(j, c), (live_mem L.sz).mpr e, rfl⟩
noncomputable def placeOf (m : Nat) (O : Array (Option Nat)) : Array Nat := ((live m O).map (·.1)).toArray
theorem place_get {i j : Nat} (e : (placeOf m O)[i]? = some j) : ∃ c, (live m O)[i]? = some (j, c) := by
  unfold placeOf at e
  rw [List.getElem?_toArray, List.getElem?_map] at e
  obtain ⟨q, h, rfl⟩ := Option.map_eq_some_iff.mp e
  exact ⟨_, h⟩
theorem place_rise : Rise (placeOf m O) := fun i j a b h ea eb => by
  obtain ⟨c, ec⟩ := place_get ea
  obtain ⟨d, ed⟩ := place_get eb
  obtain ⟨hi, qi⟩ := List.getElem?_eq_some_iff.mp ec
  obtain ⟨hj, qj⟩ := List.getElem?_eq_some_iff.mp ed
  have := List.pairwise_iff_getElem.mp (live_rise (m := m) (O := O)) i j hi hj h
  rw [qi, qj] at this; exact this
theorem place_size (L : LInv m H O k) : (placeOf m O).size = k := by
  have := (live_perm L).length_eq
  rw [List.length_map, List.length_range] at this
  unfold placeOf; rw [List.size_toArray, List.length_map, this]
theorem place_in (L : LInv m H O k) {j : Nat} : (∃ i : Nat, (placeOf m O)[i]? = some j) ↔ Occ O j := by
  constructor
  · rintro ⟨i, e⟩
    obtain ⟨c, ec⟩ := place_get e
    exact ⟨c, (live_mem L.sz).mp (List.mem_of_getElem? ec)⟩
  · rintro ⟨c, e⟩
    obtain ⟨i, hi⟩ := List.getElem?_of_mem ((live_mem L.sz).mpr e)
    exact ⟨i, by unfold placeOf; rw [List.getElem?_toArray, List.getElem?_map, hi]; rfl⟩
theorem LInv.step (hm : Msk m) (L : LInv m H O k) (hk : k ≤ m) : ∃ j, layClean.free m O (turns m) (bits (H k) % (m + 1)) (bits (H k)) = some j ∧ LInv m H (O.setIfInBounds j (some k)) (k + 1) := by
  obtain ⟨e, he, q⟩ := has_gap (place_rise (m := m) (O := O))
  rw [place_size L] at he
  have hb : bits (H k) % (m + 1) ≤ m := Nat.le_of_lt_succ (Nat.mod_lt _ (Nat.succ_pos _))
  obtain ⟨r, hr, hl⟩ := leaps hm hb (bits_lt (H k)) (Nat.le_trans he hk)
  have hq : ¬ Occ O e := fun z => by obtain ⟨i, z⟩ := (place_in L).mpr z; exact q i z
  obtain ⟨n, j, e1, e2, e3, e4, e5⟩ := free_spec L.sz (r + 1) (turns m) _ _ (by unfold turns; omega) hb (by rw [hl]; exact hq)
  have hj : j < O.size := by rw [L.sz]; exact Nat.lt_succ_of_le e3
  have gs : (O.setIfInBounds j (some k))[j]? = some (some k) := by rw [Array.getElem?_setIfInBounds, if_pos rfl, if_pos hj]
  have gn : ∀ i, i ≠ j → (O.setIfInBounds j (some k))[i]? = O[i]? := fun i h => by rw [Array.getElem?_setIfInBounds, if_neg (Ne.symm h)]
  have up : ∀ {i}, Occ O i → Occ (O.setIfInBounds j (some k)) i := fun {i} h => by
    by_cases c : i = j
    · subst c; exact ⟨k, gs⟩
    · obtain ⟨c', z⟩ := h; exact ⟨c', (gn i c).trans z⟩
  refine ⟨j, e1, by rw [Array.size_setIfInBounds]; exact L.sz, fun i c z => ?_, fun c hc => ?_, fun i i' c z z' => ?_⟩
  · by_cases h : i = j
    · subst h; rw [gs] at z; cases z
      exact ⟨Nat.lt_succ_self _, n, e2, fun n' h => up (e5 n' h)⟩
    · rw [gn i h] at z
      obtain ⟨a, n, b, d⟩ := L.way _ _ z
      exact ⟨Nat.lt_succ_of_lt a, n, b, fun n' h => up (d n' h)⟩
  · rcases Nat.lt_or_eq_of_le (Nat.le_of_lt_succ hc) with h | h
    · obtain ⟨i, z⟩ := L.all c h
      exact ⟨i, (gn i fun q => e4 ⟨c, q ▸ z⟩).trans z⟩
    · subst h; exact ⟨j, gs⟩
  · by_cases h : i = j <;> by_cases h' : i' = j
    · exact h.trans h'.symm
    · subst h; rw [gs] at z; cases z; rw [gn i' h'] at z'; exact absurd (L.way _ _ z').1 (Nat.lt_irrefl _)
    · subst h'; rw [gs] at z'; cases z'; rw [gn i h] at z; exact absurd (L.way _ _ z).1 (Nat.lt_irrefl _)
    · rw [gn i h] at z; rw [gn i' h'] at z'; exact L.inj _ _ _ z z'
end
noncomputable def layStep (m : Nat) (acc : Option (Array (Option Nat) × Nat)) (h : Int) : Option (Array (Option Nat) × Nat) := do
    let (owner, k) ← acc
    let j ← layClean.free m owner (turns m) (bits h % (m + 1)) (bits h)
    pure (owner.setIfInBounds j (some k), k + 1)
theorem lay_fold {m : Nat} (hm : Msk m) {H : Nat → Int} : ∀ (l : List Int) (O : Array (Option Nat)) (k : Nat), (∀ i h, l[i]? = some h → H (k + i) = h) → k + l.length ≤ m + 1 → LInv m H O k →
    ∃ O', l.foldl (layStep m) (some (O, k)) = some (O', k + l.length) ∧ LInv m H O' (k + l.length)
  | [], O, k, _, _, L => ⟨O, rfl, L⟩
  | h :: l, O, k, hH, hk, L => by
    have e0 : H k = h := hH 0 h rfl
    obtain ⟨j, e, L'⟩ := L.step hm (by rw [List.length_cons] at hk; omega)
    obtain ⟨O', e', L''⟩ := lay_fold hm l _ (k + 1) (fun i x z => by rw [Nat.add_right_comm]; exact hH (i + 1) x z) (by rw [List.length_cons] at hk; omega) L'
    rw [Nat.add_right_comm] at e' L''
    refine ⟨O', ?_, L''⟩
    rw [List.foldl_cons]
    refine Eq.trans (congrArg (List.foldl _ · l) ?_) e'
    rw [e0] at e
    show (layClean.free m O (turns m) (bits h % (m + 1)) (bits h)).bind _ = _
    rw [e]; rfl
theorem filterMap_range {α : Type} : ∀ l : List α, (List.range l.length).filterMap (l[·]?) = l
  | [] => rfl
  | x :: l => by
    rw [List.length_cons, List.range_succ_eq_map, List.filterMap_cons, List.filterMap_map]
    exact congrArg (x :: ·) (filterMap_range l)
theorem filterMap_get {α β : Type} {f : α → Option β} : ∀ {l : List α}, (∀ a ∈ l, (f a).isSome) → ∀ i : Nat, (l.filterMap f)[i]? = l[i]?.bind f
  | [], _, _ => rfl
  | a :: l, h, i => by
    obtain ⟨b, hb⟩ := Option.isSome_iff_exists.mp (h a (.head _))
    rw [List.filterMap_cons, hb]
    cases i with
    | zero => exact hb.symm
    | succ i => exact filterMap_get (fun a q => h a (.tail _ q)) i
theorem laid_ok {β : Type} {es : Array (Int × β)} {m : Nat} (hm : Msk m) (hk : es.size ≤ m) (fi mv : Nat) (led pl : Bool) : ∃ t order, laid m fi mv led pl (es.map (·.1)) = some (t, order) ∧ t.mask = m ∧
    (order.filterMap (es[·]?)).toList.Perm es.toList ∧ Tab t (order.filterMap (es[·]?)) := by
  have e0 : LInv m (fun i => (es[i]?.map (·.1)).getD 0) (Array.replicate (m + 1) none) 0 := by
    have no : ∀ j c : Nat, (Array.replicate (m + 1) (none : Option Nat))[j]? ≠ some (some c) := fun j c z => by
      rw [Array.getElem?_replicate] at z
      split at z <;> cases z
    exact ⟨Array.size_replicate, fun j c z => absurd z (no j c), fun c h => absurd h (Nat.not_lt_zero _), fun j _ c z => absurd z (no j c)⟩
  obtain ⟨O, e1, L⟩ := lay_fold hm (es.toList.map (·.1)) _ 0 (fun i h z => by rw [List.getElem?_map, Array.getElem?_toList] at z; rw [Nat.zero_add, z]; rfl) (by rw [List.length_map, Array.length_toList]; omega) e0
  rw [Nat.zero_add, List.length_map, Array.length_toList] at e1 L
  have e2 : layClean m (es.map (·.1)) = some O := by
    unfold layClean
    rw [← Array.foldl_toList, Array.toList_map]
    exact (congrArg (Option.map _) e1).trans rfl
  have P : (((live m O).map (·.2)).toArray.filterMap (es[·]?)).toList.Perm es.toList := by
    rw [Array.toList_filterMap]
    refine (List.Perm.filterMap _ (live_perm L)).trans (.of_eq ?_)
    have := filterMap_range es.toList
    simpa only [Array.getElem?_toList, Array.length_toList] using this
  refine ⟨{ mask := m, place := placeOf m O, dummies := #[], finger := fi, led := led, moves := mv, plain := pl }, ((live m O).map (·.2)).toArray, ?_, rfl, P, ?_⟩
  · unfold laid; rw [e2]; rfl
  · have hs : ∀ c ∈ (live m O).map (·.2), (es[c]?).isSome := fun c hc => by
      rw [Array.getElem?_eq_getElem (List.mem_range.mp ((live_perm L).mem_iff.mp hc))]; rfl
    have hg : ∀ i : Nat, ((((live m O).map (·.2)).toArray.filterMap (es[·]?)))[i]? = ((live m O)[i]?.map (·.2)).bind (es[·]?) := fun i => by
      rw [← Array.getElem?_toList, Array.toList_filterMap, filterMap_get hs, List.getElem?_map]
    refine ⟨hm, rfl, ?_, place_rise, fun i j e => ?_, fun i j e ej ee => ?_⟩
    · exact (place_size L).trans ((Array.length_toList.symm.trans P.length_eq.symm).trans Array.length_toList)
    · obtain ⟨c, ec⟩ := place_get e
      have := Array.getElem?_eq_some_iff.mp ((live_mem L.sz).mp (List.mem_of_getElem? ec))
      exact Nat.le_of_lt_succ (Nat.lt_of_lt_of_eq this.1 L.sz)
    · obtain ⟨c, ec⟩ := place_get ej
      rw [hg, ec] at ee
      have ee : es[c]? = some e := ee
      obtain ⟨_, n, a, b⟩ := L.way _ _ ((live_mem L.sz).mp (List.mem_of_getElem? ec))
      rw [ee] at a b
      exact ⟨n, a, fun n' q => (place_in L).mpr (b n' q)⟩
end Mine
end

noncomputable section
set_option maxRecDepth 100000
namespace Mine
open PySem PySem.SetTable

theorem beg_le (m x pt : Nat) : (beg m (x % (m + 1)) pt).j + (beg m (x % (m + 1)) pt).more ≤ m := by
  have h := run_le (Nat.le_of_lt_succ (Nat.mod_lt x (Nat.succ_pos m)) : x % (m + 1) ≤ m)
  exact Nat.le_trans (Nat.le_of_eq (Nat.add_sub_cancel' h.1)) h.2
theorem it_le {m : Nat} : ∀ n p, p.j + p.more ≤ m → (it m n p).j + (it m n p).more ≤ m
  | 0, _, h => h
  | n + 1, p, h => by
    refine it_le n (adv m p) ?_
    unfold adv
    split
    · show p.j + 1 + (p.more - 1) ≤ m; omega
    · exact beg_le m (p.i * 5 + 1 + p.perturb / 32) 0
theorem pos_le (m : Nat) (h : Int) (n : Nat) : (pos m h n).j ≤ m :=
  Nat.le_trans (Nat.le_add_right _ _) (it_le n (beg m (bits h % (m + 1)) (bits h)) (beg_le m _ _))
theorem it_pos (m : Nat) (h : Int) (a b : Nat) : it m b (pos m h a) = pos m h (a + b) := (it_add m a b _).symm
theorem odd_mask {m : Nat} (h : Msk m) : (m % 2 == 0) = false := by rcases h with rfl | rfl | rfl | rfl <;> rfl

section
variable {prog : Program} {w : World} {K : Type} [DecidableEq K] {kd : KeyKind prog w K} {A : Around} {E : Value → Shared → Prop} {s : Shared}
noncomputable def Ents (kd : KeyKind prog w K) (h : Heap) (es : List (Int × Value)) : Prop := ∀ e ∈ es, ∃ ks c, e = (tupleKeyHash kd ks, .ref c) ∧ IsTupleKey kd h ks c
noncomputable def IsK (kd : KeyKind prog w K) (h : Heap) (ks : List K) (e : Int × Value) : Prop := ∃ c, e = (tupleKeyHash kd ks, .ref c) ∧ IsTupleKey kd h ks c
theorem Tab.fits {es : Array (Int × Value)} {t : SetTable} (T : Tab t es) (hf : es.size ≤ t.mask) : t.fits es.size = true := by
  unfold SetTable.fits SetTable.fill
  rw [T.sz, T.dm]
  simpa using hf
theorem class_tuple {ks : List K} {b : Addr} {Q : Bool → Shared → Prop} (hk : IsTupleKey kd s.heap ks b) (h : Q false s) : wpAny (model prog w) A (ofAClassStatement 8 (.ref b)) Q E s := by
  have hT := hk.typeIs
  obtain ⟨o, items, n, ho, _, hd, hi⟩ := hk
  unfold ofAClassStatement
  refine wpAny_bind (wpAny_typeOf hT ?_)
  show wpAny _ _ (pure true >>= _) _ _ s
  refine wpAny_bind (wpAny_pure ?_)
  show wpAny _ _ (seqItems? (.ref b) >>= _) _ _ s
  refine wpAny_bind (wpAny_seqItems ho hd ?_)
  dsimp only
  refine wpAny_bind ?_
  rw [← Array.forIn_toList]
  refine wpAny_forIn_list _ (fun rest r s' => r.1 = none ∧ s' = s ∧ ∀ v ∈ rest, carriedByValue v = true) _ ?_ ?_ _ _ ⟨rfl, rfl, hi.byValue⟩
  · rintro v rest r s' ⟨hr, rfl, hall⟩
    have hv := hall v List.mem_cons_self
    have e : ofAClassStatement 7 v = pure false := by cases v <;> first | rfl | (unfold ofAClassStatement; rfl) | cases hv
    rw [e]
    refine wpAny_bind (wpAny_pure ?_)
    exact wpAny_pure ⟨rfl, rfl, fun u hu => hall u (List.mem_cons_of_mem _ hu)⟩
  · rintro ⟨r1, r2⟩ s' ⟨hr, rfl, _⟩
    cases hr
    exact wpAny_pure h
theorem unseen {ks : List K} {b : Addr} {Q : Bool → Shared → Prop} (hk : IsTupleKey kd s.heap ks b) {l : List Value} (hl : ∀ v ∈ l, ∃ ks' c, v = .ref c ∧ IsTupleKey kd s.heap ks' c) (h : Q false s) :
    wpAny (model prog w) A (searchCouldBeSeen (.ref b) l) Q E s := by
  unfold searchCouldBeSeen
  refine wpAny_bind ?_
  refine wpAny_forIn_list _ (fun rest r s' => r.1 = none ∧ s' = s ∧ ∀ v ∈ rest, v ∈ l) _ ?_ ?_ _ _ ⟨rfl, rfl, fun _ h => h⟩
  · rintro v rest r s' ⟨hr, rfl, hall⟩
    obtain ⟨ks', c, rfl, hc⟩ := hl v (hall v List.mem_cons_self)
    have nx : ∀ u ∈ rest, u ∈ l := fun u hu => hall u (List.mem_cons_of_mem _ hu)
    dsimp only
    by_cases q : (b == c || (carriedByValue (.ref b) && carriedByValue (.ref c))) = true
    · rw [if_pos q]; exact wpAny_pure ⟨rfl, rfl, nx⟩
    · rw [if_neg q]
      refine wpAny_bind (wpAny_eqIsQuiet_tuple hk ?_)
      refine wpAny_bind (wpAny_eqIsQuiet_tuple hc ?_)
      refine wpAny_bind (class_tuple hk ?_)
      refine wpAny_bind (class_tuple hc ?_)
      exact wpAny_pure ⟨rfl, rfl, nx⟩
  · rintro ⟨r1, r2⟩ s' ⟨hr, rfl, _⟩
    cases hr
    exact wpAny_pure h

theorem sameMem (t : SetTable) : t.sameMemory t.moves t.mask = some true := by unfold sameMemory; rw [beq_self_eq_true]; rfl
theorem search_ok {S b : Addr} {o : Obj} {es : Array (Int × Value)} {ep : Nat} {t : SetTable} {ks : List K} {Q : SetFound → Shared → Prop} (hu : A.units < cLine) (ho : s.heap.get? S = some o) (hd : o.data = .set es ep t) (T : Tab t es) (hf : es.size ≤ t.mask)
    (he : Ents kd s.heap es.toList) (hk : IsTupleKey kd s.heap ks b) (hthere : (∃ e ∈ es.toList, IsK kd s.heap ks e) → Q (.there none) s)
    (hfree : ∀ j, Way t (tupleKeyHash kd ks) j → ¬ In t j → j ≤ t.mask → (∀ e ∈ es.toList, ¬ IsK kd s.heap ks e) → Q (.free j false) s) :
    ∀ d fuel n stand, d < fuel → ¬ In t (pos t.mask (tupleKeyHash kd ks) (n + d)).j → stand.getD (t.probeStart (tupleKeyHash kd ks)) = pos t.mask (tupleKeyHash kd ks) n →
      (∀ n', n' < n → ∃ i : Nat, t.place[i]? = some (pos t.mask (tupleKeyHash kd ks) n').j ∧ ∀ e, es[i]? = some e → ¬ IsK kd s.heap ks e) → wpAny (model prog w) A (setSearchFrom S (.ref b) (tupleKeyHash kd ks) true fuel stand) Q E s := by
  intro d
  induction d using Nat.strongRecOn with
  | _ d ih =>
  intro fuel n stand hfu hem hst hpast
  obtain ⟨fuel, rfl⟩ := Nat.exists_eq_succ_of_ne_zero (Nat.ne_of_gt (Nat.lt_of_le_of_lt (Nat.zero_le _) hfu))
  have hfit := T.fits hf
  unfold setSearchFrom
  refine wpAny_bind (wpAny_setState_of ho hd hfit ?_)
  dsimp only
  unfold SetTable.gaveWay
  rw [odd_mask T.msk, hst]
  rw [if_neg Bool.false_ne_true]
  obtain ⟨N, hN, hNe⟩ := T.gap (T.sz ▸ hf) (tupleKeyHash kd ks) n
  obtain ⟨n1, _, h2, h3⟩ := go_spec (hashAt := fun i => (es[i]?.map (·.1)).getD 0) (h := tupleKeyHash kd ks) T.dm T.rise N (10 * turns t.mask) (pos t.mask (tupleKeyHash kd ks) n) hN (it_j rfl) hNe
  simp only [it_pos] at h2 h3
  have past : ∀ n', n' < n + n1 → ∃ i : Nat, t.place[i]? = some (pos t.mask (tupleKeyHash kd ks) n').j ∧ ∀ e, es[i]? = some e → ¬ IsK kd s.heap ks e := fun n' q => by
    by_cases c : n' < n
    · exact hpast n' c
    · obtain ⟨i, e1, e2⟩ := h2 (n' - n) (by omega)
      rw [show n + (n' - n) = n' by omega] at e1
      refine ⟨i, e1, fun e ee => ?_⟩
      rintro ⟨c, rfl, _⟩
      exact e2 (by rw [ee]; rfl)
  generalize hm : t.probe _ _ _ = met
  rcases h3 with ⟨h3, h4⟩ | ⟨i, h3, h5, h4⟩
  · have hm := hm.symm.trans h4
    subst hm
    refine wpAny_pure (hfree _ ⟨_, rfl, fun n' q => (past n' q).imp fun _ z => z.1⟩ h3 (pos_le _ _ _) fun e hme ⟨c, hec, hc⟩ => ?_)
    obtain ⟨i, hi⟩ := List.getElem?_of_mem hme
    rw [Array.getElem?_toList] at hi
    have hp : t.place[i]? = some (t.place.getD i 0) := by
      have : i < t.place.size := by rw [T.sz]; exact (Array.getElem?_eq_some_iff.mp hi).1
      simp [this]
    obtain ⟨n0, e0, a0⟩ := T.way _ _ _ hp hi
    subst hec
    by_cases q : n0 < n + n1
    · obtain ⟨i', e1, e2⟩ := past n0 q
      rw [e0] at e1
      cases rise_inj T.rise e1 hp
      exact e2 _ hi ⟨c, rfl, hc⟩
    · by_cases q' : n0 = n + n1
      · exact h3 ⟨i, by rw [← q', e0]; exact hp⟩
      · exact h3 (a0 _ (by omega))
  · have hm := hm.symm.trans h4
    subst hm
    have hlt : n1 < d := by
      rcases Nat.lt_or_ge n1 d with q | q
      · exact q
      · refine absurd ?_ hem
        by_cases q' : d = n1
        · rw [q']; exact ⟨i, h3⟩
        · exact (past (n + d) (by omega)).imp fun _ z => z.1
    have hie : ∃ e, es[i]? = some e := ⟨_, Array.getElem?_eq_getElem (by rw [← T.sz]; exact (Array.getElem?_eq_some_iff.mp h3).1)⟩
    obtain ⟨e, hi⟩ := hie
    have hme : e ∈ es.toList := List.mem_of_getElem? (Array.getElem?_toList ▸ hi)
    obtain ⟨ks', c, rfl, hc⟩ := he e hme
    dsimp only
    have go : wpAny (model prog w) A (do
      let some (_, y) := es[i]? | unsupported "internal:set-entry"
      let equal ← holding [y] (eqBool y (.ref b))
      let (es', _, t') ← setState S
      if true && equal then return .there none
      let some same := t'.sameMemory t.moves t.mask | unsupported "set.changed-during-lookup:is-the-new-block-at-the-old-address"
      let still ← match (if same then t'.slot (pos t.mask (tupleKeyHash kd ks) (n + n1)).j else .empty) with
        | .live i' => match es'[i']? with
          | some (_, y') => do pure (if ← isSame y' y then some i' else none)
          | none => pure none
        | _ => pure none
      match still with
      | none => rule "set.search.anew"; setSearchFrom S (.ref b) (tupleKeyHash kd ks) true fuel none
      | some i' => if equal then return .there (some i') else setSearchFrom S (.ref b) (tupleKeyHash kd ks) true fuel (some (pos t.mask (tupleKeyHash kd ks) (n + n1 + 1)))) Q E s := by
      rw [hi]
      refine wpAny_bind (wpAny_holding (wpAny_eqBool_tuple hu hc hk ?_))
      refine wpAny_bind (wpAny_setState_of ho hd hfit ?_)
      by_cases q : ks' = ks
      · subst q
        rw [decide_eq_true rfl]
        exact wpAny_pure (hthere ⟨_, hme, c, rfl, hc⟩)
      · rw [decide_eq_false q]
        have hs : t.slot (pos t.mask (tupleKeyHash kd ks) (n + n1)).j = .live i := by
          rcases slot_is T.dm T.rise (pos t.mask (tupleKeyHash kd ks) (n + n1)).j with ⟨i', e1, e2⟩ | ⟨e1, _⟩
          · rw [e2, rise_inj T.rise e1 h3]
          · exact absurd h3 (e1 i)
        dsimp only
        rw [sameMem]
        dsimp only
        rw [if_pos rfl, hs]
        dsimp only
        rw [hi]
        refine wpAny_bind (wpAny_isSame_ref_self (wpAny_bind (wpAny_pure ?_)))
        show wpAny _ _ (setSearchFrom S (.ref b) _ true fuel _) _ _ _
        refine ih (d - (n1 + 1)) (by omega) fuel (n + n1 + 1) _ (by omega) (by rw [show n + n1 + 1 + (d - (n1 + 1)) = n + d by omega]; exact hem) rfl fun n' z => ?_
        by_cases c' : n' < n + n1
        · exact past n' c'
        · rw [show n' = n + n1 by omega]
          refine ⟨i, h3, fun e ee => ?_⟩
          rw [hi] at ee; cases ee
          rintro ⟨c2, hc2, hk2⟩
          exact q (hc.inj (Value.ref.inj (congrArg Prod.snd hc2) ▸ hk2))
    cases hled : t.led with
    | true => exact go
    | false =>
      show wpAny _ _ (searchCouldBeSeen (.ref b) _ >>= _) _ _ _
      refine wpAny_bind (unseen hk (fun v hv => ?_) ?_)
      · obtain ⟨e, he', rfl⟩ := List.mem_map.mp hv
        rw [Array.toList_filter] at he'
        obtain ⟨ks2, c2, rfl, hc2⟩ := he e (List.mem_filter.mp he').1
        exact ⟨ks2, c2, rfl, hc2⟩
      · exact go
end
end Mine
end

noncomputable section
set_option maxRecDepth 100000
set_option linter.unusedVariables false
namespace Mine
open PySem PySem.SetTable

section
variable {prog : Program} {w : World} {A : Around} {E : Value → Shared → Prop} {s : Shared}
theorem hash_false {ks : List Sc} {x : Str} {b : Addr} {Q : Bool → Shared → Prop} (hk : IsTupleKey (scKind prog w) s.heap (.inr x :: ks) b) (h : Q false s) : wpAny (model prog w) A (hashByValue 8 (.ref b)) Q E s := by
  have hT := hk.typeIs
  obtain ⟨o, items, n, ho, _, hd, hi⟩ := hk
  unfold hashByValue
  refine wpAny_bind (wpAny_specialOf hT F.slot_tuple_hash.lookup ?_)
  dsimp only
  refine wpAny_bind (wpAny_seqItems ho hd ?_)
  obtain ⟨l⟩ := items
  cases hi with
  | cons hv _ =>
    obtain ⟨t, rfl⟩ := Value.isStrOf_shape hv
    rw [← Array.forIn_toList]
    refine wpAny_bind ?_
    show wpAny _ _ (forIn (_ :: _) _ _) _ _ _
    rw [List.forIn_cons]
    exact wpAny_bind (wpAny_pure (wpAny_pure (wpAny_pure h)))
noncomputable def TS (h : Heap) (S : Addr) (es : Array (Int × Value)) (L : Bool) : Prop :=
  ∃ o ep t, h.get? S = some o ∧ o.ExactSet ∧ o.data = .set es ep t ∧ Tab t es ∧ es.size * 5 < t.mask * 3 ∧ t.led = L ∧ (es.size = 0 ∨ t.plain = false)
theorem insert_perm {α : Type} {es : Array α} {p : Nat} {x : α} : (insertAt es p x).toList.Perm (x :: es.toList) := by
  unfold insertAt
  rw [Array.toList_append, Array.toList_push, Array.toList_extract, Array.toList_extract, List.append_assoc, List.extract_eq_take_drop, List.extract_eq_take_drop, List.drop_zero, Nat.sub_zero, ← Array.length_toList, ← List.length_drop, List.take_length]
  exact List.perm_middle.trans (.cons _ (.of_eq (List.take_append_drop p es.toList)))
theorem Tab.off {t : SetTable} {es : Array (Int × Value)} (T : Tab t es) : Tab { t with plain := false } es := ⟨T.msk, T.dm, T.sz, T.rise, T.le, T.way⟩
theorem off_eq {t : SetTable} (h : t.plain = false) : { t with plain := false } = t := by cases t; cases h; rfl
theorem full_of {t : SetTable} {es : Array (Int × Value)} (T : Tab t es) : t.tooFull = decide (t.mask * 3 ≤ es.size * 5) := by
  unfold SetTable.tooFull SetTable.fill
  rw [T.sz, T.dm]; rfl
theorem wpAny_else {α : Type} {M : Model} {c : Prop} [Decidable c] {t e : Sem α} {Q : α → Shared → Prop} (h : ¬ c) (x : wpAny M A e Q E s) : wpAny M A (if c then t else e) Q E s := by rw [if_neg h]; exact x
theorem set_add_ok {S b : Addr} {es : Array (Int × Value)} {L : Bool} {ks : List Sc} {x : Str} {Q : Bool → Shared → Prop} (hu : A.units < cLine) (T : TS s.heap S es L) (he : Ents (scKind prog w) s.heap es.toList) (hk : IsTupleKey (scKind prog w) s.heap (.inr x :: ks) b) (hn : es.size < 200)
    (hold : (∃ e ∈ es.toList, IsK (scKind prog w) s.heap (.inr x :: ks) e) → ∀ tk, Q false { s with toks := tk })
    (hnew : ∀ h' es' tk, Heap.SameBut S s.heap h' → TS h' S es' L → es'.toList.Perm ((tupleKeyHash (scKind prog w) (.inr x :: ks), .ref b) :: es.toList) → (∀ e ∈ es.toList, ¬ IsK (scKind prog w) s.heap (.inr x :: ks) e) → Q true { s with heap := h', toks := tk }) :
    wpAny (model prog w) A (setAdd S (.ref b)) Q E s := by
  obtain ⟨o, ep, t, ho, hex, hd, T, hr, hL, hp⟩ := T
  have hm := T.msk
  have hf : es.size ≤ t.mask := by omega
  unfold setAdd
  refine wpAny_holding (wpAny_bind (wpAny_pyHash_tuple hu hk ?_))
  generalize s.toks + _ = tk0
  unfold setAddHashed
  refine wpAny_holding ?_
  unfold setAddHashedIn
  have hfit := T.fits hf
  refine wpAny_bind (wpAny_setState_of ho hd hfit ?_)
  dsimp only
  rw [if_neg (show ¬ byScan (.ref b) es = true from Bool.false_ne_true)]
  obtain ⟨N, hN, hg⟩ := T.gap (T.sz ▸ hf) (tupleKeyHash (scKind prog w) (.inr x :: ks)) 0
  rw [it_pos] at hg
  unfold setSearch
  refine wpAny_bind (search_ok (kd := scKind prog w) (s := { s with toks := tk0 }) (n := 0) (stand := none) hu ho hd T hf he hk (fun q => wpAny_pure (hold q _)) (fun j hw hj hl hnot => ?_) N 100000 (by have := hN; unfold turns at this; rcases hm with q | q | q | q <;> omega) hg rfl fun _ q => absurd q (Nat.not_lt_zero _))
  dsimp only
  refine wpAny_bind (wpAny_setState_of ho hd hfit ?_)
  dsimp only
  obtain ⟨em, es1, T1⟩ := T.put (x := Value.ref b) hw hj hl
  have P := insert_perm (es := es) (p := (t.put j).2) (x := (tupleKeyHash (scKind prog w) (.inr x :: ks), Value.ref b))
  have hs1 : (insertAt es (t.put j).2 (tupleKeyHash (scKind prog w) (.inr x :: ks), Value.ref b)).size = es.size + 1 := T1.sz.symm.trans es1
  have hpl : (t.put j).1.plain = t.plain := rfl
  have hle : (t.put j).1.led = t.led := rfl
  generalize t.put j = tp at em es1 T1 P hs1 hpl hle ⊢
  generalize hI : insertAt es tp.2 _ = is at T1 P hs1 ⊢
  have key : ∀ tk, wpAny (model prog w) A (do
      storeSet S is { tp.1 with plain := false }
      if (!false && ({ tp.1 with plain := false } : SetTable).tooFull) = true then setRelay S (SetTable.grown (es.size + 1))
      return true) Q E { s with toks := tk } := by
    intro tk
    have T2 := T1.off
    refine wpAny_bind (wpAny_storeSet_of ho hd ?_ (by rw [hs1]; exact Nat.le_trans hn (by decide)))
    have hg1 : (s.heap.update S (Obj.putSet is { tp.1 with plain := false })).get? S = some { o with data := .set is (ep + 1) { tp.1 with plain := false } } := by
      have := Heap.get?_update_self (Obj.putSet is { tp.1 with plain := false }) ho (by rw [putSet_of _ _ hd]; rfl)
      rwa [putSet_of _ _ hd] at this
    have sb1 : Heap.SameBut S s.heap (s.heap.update S (Obj.putSet is { tp.1 with plain := false })) := .update ..
    rw [full_of T2, hs1]
    by_cases q : tp.1.mask * 3 ≤ (es.size + 1) * 5
    · rw [if_pos (by simpa using q)]
      rw [em] at q
      have hw : ∃ m', sizeAbove (grown (es.size + 1)) = m' + 1 ∧ Msk m' ∧ (es.size + 1) * 5 < m' * 3 ∧ m' + 1 ≤ sizeLine := by
        rcases hm with e | e | e | e
        · rw [show es.size = 4 by omega]; exact ⟨31, by decide, .inr (.inl rfl), by omega, by decide⟩
        · rw [show es.size = 18 by omega]; exact ⟨127, by decide, .inr (.inr (.inl rfl)), by omega, by decide⟩
        · rw [show es.size = 76 by omega]; exact ⟨511, by decide, .inr (.inr (.inr rfl)), by omega, by decide⟩
        · omega
      obtain ⟨m', e1, e2, e3, e4⟩ := hw
      unfold setRelay
      refine wpAny_bind (wpAny_bind (wpAny_setState_of hg1 rfl (T2.fits (by rw [hs1]; show _ ≤ tp.1.mask; omega)) ?_))
      dsimp only
      rw [e1, if_neg (Nat.not_lt.mpr e4)]
      unfold SetTable.relaid
      rw [e1]
      obtain ⟨t3, order, e5, e6, e7, T3⟩ := laid_ok (es := is) e2 (by rw [hs1]; omega) tp.1.finger (movedTo { tp.1 with plain := false } m') tp.1.led false
      have e5 : laid (m' + 1 - 1) tp.1.finger (movedTo { tp.1 with plain := false } (m' + 1 - 1)) tp.1.led false (is.map (·.1)) = some (t3, order) := e5
      rw [e5]
      have e8 : (order.filterMap (is[·]?)).size = is.size := by rw [← Array.length_toList, e7.length_eq, Array.length_toList]
      refine wpAny_bind (wpAny_else (by rw [e8]; simp) (wpAny_pure ?_))
      refine wpAny_storeSet_of hg1 rfl ?_ (by rw [e8, hs1]; exact Nat.le_trans hn (by decide))
      refine wpAny_pure ?_
      have hg2 := Heap.get?_update_self (Obj.putSet (order.filterMap (is[·]?)) t3) hg1 (by rw [putSet_of _ _ rfl]; rfl)
      rw [putSet_of _ _ rfl] at hg2
      have sb2 := sb1.trans (.update _ S (Obj.putSet (order.filterMap (is[·]?)) t3))
      obtain ⟨e9, e10⟩ : t3.led = tp.1.led ∧ t3.plain = false := by
        unfold laid at e5
        obtain ⟨a, _, e5⟩ := Option.bind_eq_some_iff.mp e5
        cases e5; exact ⟨rfl, rfl⟩
      exact hnew _ _ tk sb2 ⟨_, _, _, hg2, hex, rfl, T3, by rw [e8, hs1, e6]; exact e3, e9.trans (hle.trans hL), .inr e10⟩ (e7.trans P) hnot
    · rw [if_neg (by simpa using q)]
      refine wpAny_bind (wpAny_pure (wpAny_pure ?_))
      exact hnew _ is tk sb1 ⟨_, _, _, hg1, hex, rfl, T2, by rw [hs1]; show _ < tp.1.mask * 3; omega, hle.trans hL, .inr rfl⟩ P hnot
  cases hpt : t.plain with
  | false => 
    rw [hpt] at hpl
    rw [if_neg (by rw [hpl]; exact Bool.false_ne_true)]
    have k := key tk0
    rw [off_eq hpl] at k
    exact wpAny_bind (wpAny_pure k)
  | true =>
    rw [if_pos (hpl.trans hpt)]
    exact wpAny_bind (hash_false (s := { s with toks := tk0 }) hk (key _))
end
end Mine
end

noncomputable section
set_option maxRecDepth 100000
set_option linter.unusedVariables false
namespace Mine
open PySem PySem.Calls PyProof.Rows

section
variable {prog : Program} {w : World} {A : Around} {E : Value → Shared → Prop} {s : Shared}
noncomputable abbrev fresh0 (w : World) : Obj := { cls := .type "set", dict := none, data := .set #[] 0 (.fresh 0 0 (!w.params.followText "set-order")) }
theorem code_set_newL (a : Value) {Q₁ : Value → Shared → Prop} (h : Q₁ (.ref s.heap.objs.size) { s with heap := s.heap.push (fresh0 w) }) :
    codeAny (model prog w) A (.call (.builtin "set.__new__") ⟨[.type "set", a], []⟩) (wants Q₁ E) s := by
  refine codeAny_of_tree ?_
  show wpAny _ A.in1 (do checkBuiltinCall "set.__new__" ⟨[.type "set", a], []⟩; again (.builtin "set.__new__" ⟨[.type "set", a], []⟩)) _ _ s
  refine wpAny_bind (wpAny_of_eq (PySem.F.newCall_set_1 a) (wpAny_pure ⟨plainId_quiet PySem.F.plain_set_new _, codeAny_builtin PySem.F.entry_set_new ?_⟩))
  rw [Around.under_plainId PySem.F.plain_set_new _]
  unfold Builtin.«set.__new__» Builtin.Frozenset.newClass
  have hsub := sub_set_self
  obtain ⟨hp, g, d, tk, os⟩ := s
  dsimp only
  wp_walk
  refine wpAny_askSetting (wpAny_pure ?_)
  dsimp only
  simp only [newObj]
  refine wpAny_bind (wpAny_alloc (wpAny_pure ?_))
  exact wpAny_pure h
structure Fills (prog : Program) (w : World) (h₀ : Heap) (S : Addr) (P : Nat → Value → Prop) (n : Nat) (Z : Nat → Heap → Prop) : Prop where
  frame : ∀ i h h', Z i h → h'.get? S = h.get? S → Z i h'
  live : ∀ i h, Z i h → Live h S
  start : ∀ h : Heap, h.get? S = some (fresh0 w) → Z 0 h
  add : ∀ i v (s : Shared) (A : Around), A.units < cLine → i < n → P i v → Keeps h₀ s.heap → Z i s.heap → ∀ (Q : Bool → Shared → Prop) (E : Value → Shared → Prop),
    (∀ b h' tk, Heap.SameBut S s.heap h' → Z (i + 1) h' → Q b { s with heap := h', toks := tk }) → wpAny (model prog w) A (setAdd S v) Q E s
theorem keeps_of {h₀ h h' : Heap} {l : List Addr} (k : Keeps h₀ h) (hl : ∀ b ∈ l, h₀.get? b = none) (m : ∀ b o, b ∉ l → h.get? b = some o → h'.get? b = some o) : Keeps h₀ h' := fun b o e => m b o (fun q => by rw [hl b q] at e; cases e) (k b o e)
theorem set_loop {R : Result → Shared → Prop} {I S : Addr} {fp wr : List Addr} {P : Nat → Value → Prop} {St Z : Nat → Heap → Prop} {n : Nat} {h₀ : Heap} (W : Walks prog w A.in1 I fp wr n P St) (hu : A.in1.units < cLine) (hSf : S ∉ fp) (hS0 : h₀.get? S = none) (hw : ∀ b ∈ wr, h₀.get? b = none)
    (Fl : Fills prog w h₀ S P n Z) : ∀ (k i : Nat) (s : Shared), n - i = k → i ≤ n → St i s.heap → Z i s.heap → Keeps h₀ s.heap →
      (∀ h' tk, Keeps h₀ h' → Z n h' → R (.ok (.ret .none)) { s with heap := h', toks := tk }) →
      codeAny (model prog w) A (.builtin "set.update.loop" ⟨[.ref S, .ref I], []⟩) R s := by
  have hSw : S ∉ wr := fun h => hSf (W.sub _ h)
  intro k
  induction k with
  | zero =>
    intro i s hk hi hst hZ hK hR
    cases show i = n from Nat.le_antisymm hi (Nat.sub_eq_zero_iff_le.mp hk)
    refine codeAny_builtin PyProof.Rows.F.entry_set_update_loop ?_
    rw [Around.under_plainId PyProof.Rows.F.plain_set_update_loop _]
    show wpAny _ A.in1 (pyNext (.ref I) >>= _) _ _ s
    refine wpAny_bind (W.done s _ _ hst fun h' tk hm => ?_)
    show wpAny _ A.in1 (ret Value.none) _ _ _
    obtain ⟨o, ho⟩ := Fl.live _ _ hZ
    exact wpAny_pure (hR h' tk (keeps_of hK hw hm) (Fl.frame _ _ _ hZ ((hm S o hSw ho).trans ho.symm)))
  | succ k ih =>
    intro i s hk hi hst hZ hK hR
    have hlt : i < n := Nat.lt_of_sub_eq_succ hk
    refine codeAny_builtin PyProof.Rows.F.entry_set_update_loop ?_
    rw [Around.under_plainId PyProof.Rows.F.plain_set_update_loop _]
    show wpAny _ A.in1 (pyNext (.ref I) >>= _) _ _ s
    refine wpAny_bind (W.item i s _ _ hlt hst fun v h₁ tk₁ hP hst' hm => ?_)
    obtain ⟨o, ho⟩ := Fl.live _ _ hZ
    have hl1 := hm S o hSw ho
    have hK1 := keeps_of hK hw hm
    show wpAny _ A.in1 (holding [v] (setAdd S v) >>= _) _ _ _
    refine wpAny_bind (wpAny_holding (Fl.add i v _ _ hu hlt hP hK1 (Fl.frame _ _ _ hZ (hl1.trans ho.symm)) _ _ fun b h' tk hsb hZ' => ?_))
    have hK2 : Keeps h₀ h' := fun b o e => by
      by_cases q : b = S
      · subst q; rw [hS0] at e; cases e
      · exact (hsb.2 b q).trans (hK1 b o e)
    refine wpAny_pure ⟨plainId_quiet PyProof.Rows.F.plain_set_update_loop _, ih (i + 1) { s with heap := h', toks := tk } (by omega) hlt (W.frame _ _ _ hst' fun b hb o e => (hsb.2 b fun q => hSf (q ▸ hb)).trans e) hZ' hK2 hR⟩
noncomputable def Goes (prog : Program) (w : World) (h₀ : Heap) (x : Value) (n : Nat) (P : Nat → Value → Prop) : Prop := ∀ (s : Shared) (A : Around) (Q : Value → Shared → Prop) (E : Value → Shared → Prop), Keeps h₀ s.heap →
  (∀ I fp wr St h', Keeps s.heap h' → (∀ b ∈ wr, s.heap.get? b = none) → (∀ b ∈ fp, s.heap.get? b = none ∨ Live h₀ b) → (∀ A : Around, A.handled = none → Walks prog w A I fp wr n P St) → St 0 h' → Q (.ref I) { s with heap := h' }) → wpAny (model prog w) A (pyIter x) Q E s
set_option maxHeartbeats 3200000 in
theorem call_set {x : Value} {T : String} {n : Nat} {P : Nat → Value → Prop} {Z : Nat → Heap → Prop} {Q : Value → Shared → Prop} (hh : A.handled = none) (hu : A.units + 100 < cLine) (hT : ∀ s' : Shared, Keeps s.heap s'.heap → s'.TypeIs x T) (hs1 : isSubtype (.type T) (.type "set") = pure false) (hs2 : isSubtype (.type T) (.type "frozenset") = pure false)
    (hne : (Value.type T == Value.type "dict") = false) (go : Goes prog w s.heap x n P) (Fl : Fills prog w s.heap s.heap.objs.size P n Z)
    (h : ∀ (h' : Heap) (tk : Nat), Z n h' → Keeps s.heap h' → Q (.ref s.heap.objs.size) { s with heap := h', toks := tk }) : wpAny (model prog w) A (call (.type "set") [x]) Q E s := by
  obtain ⟨c, tl, hmro⟩ := PySem.F.called_set.mro
  have hmade := PySem.F.called_set.made
  have hsub := PySem.F.called_set.sub
  refine wpAny_call (codeAny_of_tree ?_)
  show wpAny _ _ (callAny (.type "set") _) _ _ _
  refine wpAny_pure ⟨Code.quiet_builtin _ (by decide +kernel), codeAny_builtin PySem.F.entry_type_call ?_⟩
  rw [Around.under_plain (weight_type_call_type "set" [x] []) rfl]
  have h1 := PySem.F.called_set.notType
  have h2 := PySem.F.called_set.canCreate
  have hct := PySem.F.typeCall_set_1 x
  repeat (any_goals (first | assumption | wp_step))
  refine codeAny_mono (code_set_newL x (E := E) (Q₁ := fun obj s₁ => obj = .ref s.heap.objs.size ∧ s₁ = { s with heap := s.heap.push (fresh0 w) }) ⟨rfl, rfl⟩) fun r s₁ hr => ?_
  cases r with
  | error e => exact hr
  | ok fl =>
    cases fl with
    | ret obj =>
      obtain ⟨rfl, rfl⟩ := hr
      have hS : (s.heap.push (fresh0 w)).get? s.heap.objs.size = some (fresh0 w) := Heap.get?_push_size _ rfl
      have hT1 : Shared.TypeIs { s with heap := s.heap.push (fresh0 w) } (.ref s.heap.objs.size) "set" := ⟨_, hS, rfl⟩
      have hli := PySem.F.called_set.init.lookup
      have hbi := PySem.F.called_set.init.bind (.ref s.heap.objs.size)
      have hTx := hT { s with heap := s.heap.push (fresh0 w) } (keeps_push _ _)
      repeat (any_goals (first | assumption | wp_step))
      refine codeAny_mono (codeAny_call_builtin (R := wants (fun r s₂ => r = .none ∧ ∃ h' tk, s₂ = { s with heap := h', toks := tk } ∧ Z n h' ∧ Keeps s.heap h') E) PySem.F.called_set.init.plain PySem.F.entry_set_init (check_set_init_1 hT1 ?_)) fun r₂ s₂ hr₂ => ?_
      · unfold Builtin.«set.__init__» noKeywords Builtin.Frozenset.updateFrom
        generalize hPI : pyIter = PI
        wp_walk
        subst hPI
        refine go _ _ _ _ (keeps_push _ _) fun I fp wr St h' hk hw hf W hst => ?_
        refine wpAny_bind (wpAny_runValue ?_)
        have hh3 : A.in1.in1.in1.handled = none := by simp [hh]
        have n0 : s.heap.get? s.heap.objs.size = none := size_none _
        refine set_loop (W _ hh3) (show A.units + 1 + 1 + 1 < cLine by omega) (fun q => ?_) n0 (fun b q => none_of (keeps_push _ _).live (hw b q)) Fl (n - 0) 0 _ rfl (Nat.zero_le _) hst (Fl.start _ (hk _ _ hS)) ((keeps_push _ _).trans hk) ?_
        · rcases hf _ q with q | ⟨o, q⟩
          · rw [hS] at q; cases q
          · rw [n0] at q; cases q
        · intro h'' tk hk' hz
          show wpAny _ _ _ _ _ _
          refine wpAny_pure ?_
          show wpAny _ _ (ret Value.none) _ _ _
          exact wpAny_pure ⟨rfl, h'', tk, rfl, hz, hk'⟩
      · cases r₂ with
        | error e => exact hr₂
        | ok fl₂ =>
          cases fl₂ with
          | ret r =>
            obtain ⟨rfl, h', tk, rfl, hz, hk'⟩ := hr₂
            repeat (any_goals (first | assumption | wp_step))
            exact h _ _ hz hk'
          | _ => exact hr₂.elim
    | _ => exact hr.elim
end
end Mine
end

noncomputable section
set_option maxRecDepth 100000
set_option linter.unusedVariables false
namespace Mine
open PySem PySem.Calls PyProof.Rows PySem.W

section
variable {prog : Program} {w : World} {A : Around} {E : Value → Shared → Prop} {s : Shared} {h₀ : Heap}
theorem goes_list {l : Addr} {items : Array Value} (hl : h₀.IsList l items) : Goes prog w h₀ (.ref l) items.size (fun i v => items[i]? = some v) := fun s A Q E hk hQ => by
  have hl1 : s.heap.IsList l items := hl.at (hk l)
  have hlt : l ≠ s.heap.objs.size := by obtain ⟨o, ho, _⟩ := hl1; exact ne_size ho
  refine wpAny_pyIter_list hl1 (hQ _ _ _ _ _ (keeps_push _ _) (fun b q => ?_) (fun b q => ?_) (fun A' hh => Walks.list hh _ l hlt items) ⟨⟨_, Heap.get?_push_size _ rfl, rfl, rfl⟩, hl1.push _⟩)
  · cases List.mem_singleton.mp q; exact size_none _
  · rcases List.mem_cons.mp q with rfl | q
    · exact .inl (size_none _)
    · cases List.mem_singleton.mp q; obtain ⟨o, ho, _⟩ := hl; exact .inr ⟨o, ho⟩
theorem goes_str {x : Str} {t : Tok} : Goes prog w h₀ (.str x t) x.cps.size (SignAt x) := fun s A Q E hk hQ => by
  cases ha : x.cps.all (· < 128)
  · exact wpAny_pyIter_wide ha (hQ _ _ _ _ _ (keeps_push _ _) (fun b q => by cases List.mem_singleton.mp q; exact size_none _) (fun b q => by cases List.mem_singleton.mp q; exact .inl (size_none _)) (fun A' hh => Walks.strWide hh _ x t) ⟨_, Heap.get?_push_size _ rfl, rfl, rfl⟩)
  · exact wpAny_pyIter_ascii ha (hQ _ _ _ _ _ (keeps_push _ _) (fun b q => by cases List.mem_singleton.mp q; exact size_none _) (fun b q => by cases List.mem_singleton.mp q; exact .inl (size_none _)) (fun A' hh => Walks.strAscii hh _ x t) ⟨_, Heap.get?_push_size _ rfl, rfl, rfl⟩)
theorem fills_nodup {K : Type} [DecidableEq K] {knd : KeyKind prog w K} {S : Addr} {P : Nat → Value → Prop} {ks : List K} (hP : ∀ i v, P i v → ∃ k, ks[i]? = some k ∧ knd.is k v = true ∧ v.scannable = true) (nd : ks.Nodup) (hn : ks.length + 1 < scanBound) :
    Fills prog w h₀ S P ks.length (fun i h => h.SetOf knd S (fun k => decide (k ∈ ks.take i)) i) where
  frame := fun i h h' ⟨o, es, ep, t, ho, r⟩ e => ⟨o, es, ep, t, e.trans ho, r⟩
  live := fun i h ⟨o, es, ep, t, ho, r⟩ => ⟨o, ho⟩
  start := fun h ho => SetOf_congr ((setObjOf_fresh (knd := knd) _).setOf ho (by unfold scanBound; omega)) (fun _ => by simp) rfl
  add := fun i v s A hu hi hp hk hZ Q E hQ => by
    obtain ⟨k, ek, hkey, hsc⟩ := hP i v hp
    have hnew : k ∉ ks.take i := fun q => by
      obtain ⟨j, hj⟩ := List.getElem?_of_mem q
      have hji : j < i := by have := (List.getElem?_eq_some_iff.mp hj).1; rw [List.length_take] at this; omega
      rw [List.getElem?_take_of_lt hji] at hj
      exact absurd ((List.getElem?_inj (Nat.lt_trans hji hi) nd).mp (hj.trans ek.symm)) (Nat.ne_of_lt hji)
    unfold setAdd
    refine wpAny_holding (wpAny_bind (knd.pyHash hkey (wpAny_setAddHashed_of (s := { s with toks := s.toks + 1 }) hkey hsc hZ (by omega) fun h' hsb hS => hQ _ h' _ hsb (SetOf_congr hS (fun k' => ?_) ?_))))
    · rw [List.take_add_one, ek]
      by_cases q : k' = k <;> simp [q]
    · rw [if_neg (by simpa using hnew)]
theorem len_set {K : Type} [DecidableEq K] {knd : KeyKind prog w K} {a : Addr} {S : K → Bool} {n : Nat} {Q : Value → Shared → Prop} (hS : s.heap.SetOf knd a S n) (h : ∀ t tk, Q (.int n t) { s with toks := tk }) : wpAny (model prog w) A (call (.builtin "len") [.ref a]) Q E s := by
  obtain ⟨o, es, ep, t, ho, hex, hd, hel, hmem, hb, hf, hn⟩ := hS
  subst hn
  refine Calls.call_function_entry kind_len plain_len entry_len (args_len1 _) ?_
  exact wpAny_len_body_set ho hex hd hf (by unfold scanBound at hb; omega) (h _ _)
end
end Mine
end

noncomputable section
set_option maxRecDepth 100000
set_option linter.unusedVariables false
namespace Mine
open PySem PySem.Calls PyProof.Rows PySem.W

/-! flat tuples, and their keys -/
theorem kOf_inj {x y : V} (hx : scalar x = true) (hy : scalar y = true) (e : kOf x = kOf y) : x = y := by
  cases x <;> first | (cases hx; done) | (cases y <;> first | (cases hy; done) | (cases e; done) | (cases e; rfl))
theorem kOfs_inj : ∀ {l m : List V}, l.all scalar = true → m.all scalar = true → l.map kOf = m.map kOf → l = m
  | [], [], _, _, _ => rfl
  | [], _ :: _, _, _, e => nomatch e
  | _ :: _, [], _, _, e => nomatch e
  | x :: l, y :: m, hl, hm, e => by
    have hl := (Bool.and_eq_true _ _).mp hl
    have hm := (Bool.and_eq_true _ _).mp hm
    have e := List.cons.inj e
    rw [kOf_inj hl.1 hm.1 e.1, kOfs_inj hl.2 hm.2 e.2]
section
variable {g : Gl} {bad : Addr → Prop} {h h' : Heap} {v : Value} {x : V} {vs ws : List Value} {l m : List V}
theorem items_of (r : RpAll g bad h vs l) : l.all scalar = true → ItemsAre (scKind g.prog g.w) (l.map kOf) vs :=
  r.ind (D := fun vs l => l.all scalar = true → ItemsAre (scKind g.prog g.w) (l.map kOf) vs) (fun _ => .nil) fun v vs x l r _ ih q => by
    have q := (Bool.and_eq_true _ _).mp q
    refine .cons ?_ (ih q.2)
    cases r with
    | int i t => exact (by simp [Value.isInt] : Value.isInt i (.int i t) = true)
    | str y t => exact (by simp [Value.isStrOf] : Value.isStrOf y (.str y t) = true)
    | _ => cases q.1
theorem key_of (r : Rp g bad h v (.tuple l)) (q : l.all scalar = true) : ∃ c, v = .ref c ∧ IsTupleKey (scKind g.prog g.w) h (l.map kOf) c :=
  r.tuple_elim fun a o vs n _ ha hc hd hl => ⟨a, rfl, o, vs, n, ha, hc, hd, items_of hl q⟩
theorem key_keep {ks : List Sc} {c : Addr} (k : Keeps h h') (x : IsTupleKey (scKind g.prog g.w) h ks c) : IsTupleKey (scKind g.prog g.w) h' ks c := let ⟨o, vs, n, ho, r⟩ := x; ⟨o, vs, n, k _ _ ho, r⟩
theorem RpAll.of_mem (r : RpAll g bad h vs l) : v ∈ vs → ∃ y ∈ l, Rp g bad h v y := r.ind (D := fun vs l => v ∈ vs → ∃ y ∈ l, Rp g bad h v y) (fun q => nomatch q) fun u vs y l r _ ih q => by
  rcases List.mem_cons.mp q with rfl | q
  · exact ⟨y, .head _, r⟩
  · obtain ⟨z, m, p⟩ := ih q; exact ⟨z, .tail _ m, p⟩
theorem RpAll.mem (r : RpAll g bad h vs l) : x ∈ l → ∃ u ∈ vs, Rp g bad h u x := r.ind (D := fun vs l => x ∈ l → ∃ u ∈ vs, Rp g bad h u x) (fun q => nomatch q) fun u vs y l r _ ih q => by
  rcases List.mem_cons.mp q with rfl | q
  · exact ⟨u, .head _, r⟩
  · obtain ⟨z, m, p⟩ := ih q; exact ⟨z, .tail _ m, p⟩
theorem RpAll.perm (p : ws.Perm vs) : ∀ {l}, RpAll g bad h vs l → ∃ m, m.Perm l ∧ RpAll g bad h ws m := by
  induction p with
  | nil => exact fun r => ⟨_, .refl _, r⟩
  | cons v _ ih =>
    intro l r
    cases r with
    | cons a r => obtain ⟨m, p, q⟩ := ih r; exact ⟨_, .cons _ p, .cons a q⟩
  | swap v u _ =>
    intro l r
    cases r with
    | cons a r => cases r with
      | cons b r => exact ⟨_, .swap _ _ _, .cons b (.cons a r)⟩
  | trans _ _ ih1 ih2 =>
    intro l r
    obtain ⟨m, p, r⟩ := ih2 r
    obtain ⟨n, p', r⟩ := ih1 r
    exact ⟨n, p'.trans p, r⟩
theorem way_elim {C : V → Prop} (e : wayV x = true) (k : ∀ t l, (PyData.str t :: l).all scalar = true → C (.tuple (.str t :: l))) : C x := by
  unfold wayV at e
  split at e
  · exact k _ _ e
  · cases e
theorem way_key (e : wayV x = true) (r : Rp g bad h v x) : ∃ c, v = .ref c ∧ IsTupleKey (scKind g.prog g.w) h (keysOf x) c := way_elim (C := fun x => Rp g bad h v x → ∃ c, v = .ref c ∧ IsTupleKey (scKind g.prog g.w) h (keysOf x) c) e (fun t l q r => key_of r q) r
theorem keys_inj {y : V} (e : wayV x = true) (e' : wayV y = true) (q : keysOf y = keysOf x) : y = x :=
  way_elim (C := fun x => keysOf y = keysOf x → y = x) e (fun t l hl q => way_elim (C := fun y => keysOf y = keysOf (.tuple (.str t :: l)) → y = .tuple (.str t :: l)) e' (fun t' l' hl' q => congrArg _ (kOfs_inj hl' hl q)) q) q
theorem keys_head (e : wayV x = true) : ∃ t ks, keysOf x = .inr t :: ks := way_elim (C := fun x => ∃ t ks, keysOf x = .inr t :: ks) e fun t l _ => ⟨t, l.map kOf, rfl⟩
theorem no_get {α : Type} {i : Nat} {a : α} {C : Prop} (e : (#[] : Array α)[i]? = some a) : C := by simp at e
theorem tab0 {L : Bool} : Tab (SetTable.fresh 0 0 L) (#[] : Array (Int × Value)) := ⟨.inl rfl, rfl, rfl, fun _ _ _ _ _ e => no_get e, fun _ _ e => no_get e, fun _ _ _ e => no_get e⟩
noncomputable def WaySet (g : Gl) (bad : Addr → Prop) (h₀ : Heap) (S : Addr) (l : List V) (i : Nat) (h : Heap) : Prop :=
  ∃ es r, TS h S es (!g.w.params.followText "set-order") ∧ Ents (scKind g.prog g.w) h₀ es.toList ∧ RpAll g bad h₀ (es.toList.map (·.2)) r ∧ r.Nodup ∧ (∀ y, y ∈ r ↔ y ∈ l.take i) ∧ r.length ≤ i
theorem rps_size {es : Array (Int × Value)} {r : List V} (q : RpAll g bad h (es.toList.map (·.2)) r) : es.size = r.length := by
  have := q.length
  rwa [List.length_map, Array.length_toList] at this
theorem fills_ways {S : Addr} {vs : Array Value} (r : RpAll g bad h vs.toList l) (hw : ∀ x ∈ l, wayV x = true) (hn : l.length ≤ 200) : Fills g.prog g.w h S (fun i v => vs[i]? = some v) vs.size (WaySet g bad h S l) where
  frame := fun i h h' ⟨es, r, ⟨o, ep, t, ho, q⟩, q'⟩ e => ⟨es, r, ⟨o, ep, t, e.trans ho, q⟩, q'⟩
  live := fun i h ⟨es, r, ⟨o, ep, t, ho, q⟩, q'⟩ => ⟨o, ho⟩
  start := fun h ho => ⟨#[], [], ⟨_, _, _, ho, ⟨rfl, rfl, rfl⟩, rfl, tab0, Nat.zero_lt_succ 20, rfl, .inl rfl⟩, fun e m => (nomatch m), .nil, .nil, fun y => ⟨fun q => (nomatch q), fun q => (nomatch q)⟩, Nat.le_refl _⟩
  add := fun i v s A hu hi hp hk hZ Q E hQ => by
    obtain ⟨es, R, T, he, hr, hd, hm, hl⟩ := hZ
    have hsz := r.length
    rw [Array.length_toList] at hsz
    obtain ⟨x, hx⟩ : ∃ x, l[i]? = some x := ⟨_, List.getElem?_eq_getElem (hsz ▸ hi)⟩
    obtain ⟨v', ev, rv⟩ := r.get hx
    rw [Array.getElem?_toList, hp] at ev
    cases ev
    have hxw := hw x (List.mem_of_getElem? hx)
    obtain ⟨c, rfl, k⟩ := way_key hxw rv
    obtain ⟨t, ks, eh⟩ := keys_head hxw
    have mem1 : ∀ y, y ∈ l.take (i + 1) ↔ y ∈ R ∨ y = x := fun y => by rw [List.take_add_one, hx, List.mem_append, hm]; simp
    have he' : Ents (scKind g.prog g.w) s.heap es.toList := fun e me => let ⟨ks, c, q, z⟩ := he e me; ⟨ks, c, q, key_keep hk z⟩
    have inR : x ∈ R ↔ ∃ e ∈ es.toList, IsK (scKind g.prog g.w) s.heap (.inr t :: ks) e := by
      rw [← eh]
      constructor
      · intro q
        obtain ⟨u, mu, ru⟩ := hr.mem q
        obtain ⟨e, me, rfl⟩ := List.mem_map.mp mu
        obtain ⟨ks', c', rfl, z⟩ := he e me
        obtain ⟨c2, e2, k2⟩ := way_key hxw ru
        cases e2
        cases z.inj k2
        exact ⟨_, me, c', rfl, key_keep hk z⟩
      · rintro ⟨e, me, c', rfl, z⟩
        obtain ⟨y, my, ry⟩ := hr.of_mem (List.mem_map.mpr ⟨_, me, rfl⟩)
        have hy := hw y (List.mem_of_mem_take ((hm y).mp my))
        obtain ⟨c2, e2, k2⟩ := way_key hy ry
        cases e2
        exact keys_inj hxw hy ((key_keep hk k2).inj z) ▸ my
    rw [eh] at k
    refine set_add_ok hu T he' (key_keep hk k) (by rw [rps_size hr]; omega) (fun q tk => ?_) fun h' es' tk sb T' p q => ?_
    · have q := inR.mpr q
      exact hQ _ s.heap tk (.refl _ _) ⟨es, R, T, he, hr, hd, fun y => by rw [mem1]; exact ⟨.inl, fun z => z.elim id fun z => z ▸ q⟩, Nat.le_succ_of_le hl⟩
    · obtain ⟨R', pR, rR⟩ := RpAll.perm (p.map Prod.snd) (RpAll.cons rv hr)
      refine hQ _ h' tk sb ⟨es', R', T', fun e me => ?_, rR, pR.nodup_iff.mpr (List.nodup_cons.mpr ⟨fun z => ?_, hd⟩), fun y => ?_, ?_⟩
      · rcases List.mem_cons.mp (p.mem_iff.mp me) with rfl | me
        · exact ⟨_, c, rfl, k⟩
        · exact he e me
      · obtain ⟨e, me, ie⟩ := inR.mp z; exact q e me ie
      · rw [pR.mem_iff, mem1, List.mem_cons]; exact or_comm
      · rw [pR.length_eq]; exact Nat.succ_le_succ hl
end
end Mine
end

noncomputable section
set_option maxRecDepth 100000
set_option linter.unusedVariables false
namespace Mine
open PySem PySem.Calls PyProof.Rows PySem.W

theorem slot_setit_next : PySem.Slot "set_iterator" "__next__" "set_iterator.__next__" :=
  .of (owner := "set_iterator") (n := "__next__") (by rw [typeLookup_type, builtinLookup_eq_fast]; kernel_rfl) (by decide +kernel) (by decide +kernel) (by decide +kernel)
    (by first | exact .inl (by decide +kernel) | exact .inr (by decide +kernel)) (by rw [isSubtype_type]; kernel_rfl)
theorem entry_setit_next : entryFor table "set_iterator.__next__" = some Builtin.«set_iterator.__next__» := entryFor_of_tree (by kernel_rfl)
theorem args_setit_next (a : Value) : argsOk "set_iterator.__next__" ⟨[a], []⟩ := by unfold argsOk; kernel_rfl
theorem entry_set_iter : entryFor table "set.__iter__" = some Builtin.«frozenset.__iter__» := entryFor_alias (id' := "frozenset.__iter__") (by kernel_rfl) rfl (by decide +kernel) (by kernel_rfl)

section
variable {prog : Program} {w : World} {A : Around} {E : Value → Shared → Prop} {s : Shared}
noncomputable abbrev sitObj (ff : Value) (i : Nat) (S : Addr) (n ep : Nat) : Obj := { cls := .type "set_iterator", data := .fields #[ff, .int i 0, .ref S, .int n 0, .int ep 0] }
theorem stop_ok {Q : Option Value → Shared → Prop} {P : Fin → Shared → Prop} (hh : A.handled = none) (h : ∀ h', Keeps s.heap h' → Q none { s with heap := h' }) :
    wpAny (model prog w) A.in1 (newExc (.type "StopIteration") [] >>= fun e => raiseNew e) P (fun e s' => wpAny (model prog w) A (isInstance e (.type "StopIteration") >>= fun b => if b = true then pure none else throw e) Q E s') s := by
  refine wpAny_bind ?_
  simp only [newExc, newTuple]
  refine wpAny_bind (wpAny_newObj_type ?_ (by size_fits))
  refine wpAny_bind (m := firstArgMember _ _) (wpAny_of_eq (a := Value.none) (by first | rfl | (simp only [firstArgMember]; rfl)) ?_)
  refine wpAny_newObj_type ?_ (by size_fits)
  simp only [raiseNew]
  refine wpAny_bind (wpAny_handled ?_)
  rw [show A.in1.handled = none from hh]
  refine wpAny_bind (wpAny_pure (wpAny_throw ?_))
  refine wpAny_bind (wpAny_isInstance (T := "StopIteration") (b := true) ⟨_, Heap.get?_push_size _ rfl, rfl⟩ isSubtype_stop ?_)
  exact wpAny_pure (h _ ((keeps_push _ _).trans (keeps_push _ _)))
theorem set_fld {I : Addr} {vs : Array Value} {j : Nat} {v : Value} {Q : Unit → Shared → Prop} (ho : s.heap.get? I = some { cls := .type "set_iterator", data := .fields vs }) (hj : j < vs.size) (h : ∀ h', h'.get? I = some { cls := .type "set_iterator", data := .fields (vs.setIfInBounds j v) } → Heap.SameBut I s.heap h' → Q () { s with heap := h' }) :
    wpAny (model prog w) A (setField (.ref I) j v) Q E s :=
  wpAny_setField ho rfl hj (h _ (Heap.get?_update_self _ ho rfl) (Heap.SameBut.update ..))
theorem next_set {I S : Addr} {o : Obj} {es : Array (Int × Value)} {ep i : Nat} {t : SetTable} {ff f' : Value} {r : Option Value} {Q : Option Value → Shared → Prop} (hh : A.handled = none)
    (hI : s.heap.get? I = some (sitObj ff i S es.size ep)) (ho : s.heap.get? S = some o) (hd : o.data = .set es ep t) (hf : t.fits es.size = true)
    (hn : (∃ (slot nx : Nat) (tk : Tok), ff = .int slot tk ∧ f' = .int nx 0 ∧ ∀ (A : Around) (Q : Option (Value × Nat) → Shared → Prop) (E : Value → Shared → Prop), Q (r.map fun x => (x, nx)) s → wpAny (model prog w) A (setNext S slot i ep) Q E s) ∨
      ∃ F ol items n', ff = .ref F ∧ f' = ff ∧ s.heap.get? F = some ol ∧ ol.data = .seq items n' ∧ ((r = none ∧ items[i]? = none) ∨ ∃ (p : Nat) (tk : Tok) (x : Value) (e : Int), r = some x ∧ items[i]? = some (.int p tk) ∧ es[p]? = some (e, x)))
    (hQ : ∀ x, r = some x → ∀ h', h'.get? I = some (sitObj f' (i + 1) S es.size ep) → Heap.SameBut I s.heap h' → Q (some x) { s with heap := h' })
    (hE : r = none → ∀ h', (∀ b o, b ≠ I → s.heap.get? b = some o → h'.get? b = some o) → Q none { s with heap := h' }) : wpAny (model prog w) A (pyNext (.ref I)) Q E s := by
  have hT : s.TypeIs (.ref I) "set_iterator" := ⟨_, hI, rfl⟩
  unfold pyNext
  refine wpAny_bind (wpAny_attempt (wpAny_callSpecial?_slot (name := Str.ofString "__next__") hT slot_setit_next (wpAny_call_entry slot_setit_next hT entry_setit_next ?_ (args_setit_next _))))
  refine wpAny_bind (wpAny_pure ?_)
  refine wpAny_bind (wpAny_fieldsOf hI rfl ?_)
  dsimp only
  refine wpAny_bind (wpAny_bind (wpAny_setState_of ho hd hf (wpAny_pure ?_)))
  rw [if_neg (by simp)]
  have ext : ∀ {h1 h2 : Heap}, Heap.SameBut I s.heap h1 → Keeps h1 h2 → ∀ b o, b ≠ I → s.heap.get? b = some o → h2.get? b = some o := fun a k b o q e => k b o ((a.2 b q).trans e)
  rcases hn with ⟨slot, nx, tk, rfl, rfl, hn⟩ | ⟨F, ol, items, n', rfl, rfl, hol, hdl, hn⟩
  · dsimp only
    refine wpAny_bind (hn _ _ _ ?_)
    cases r with
    | none => exact wpAny_bind (set_fld hI (by simp) fun h1 _ sb => stop_ok hh fun h2 k => hE rfl _ (ext sb k))
    | some x => exact wpAny_bind (set_fld hI (by simp) fun h1 g1 sb => wpAny_bind (set_fld g1 (by simp) fun h2 g2 sb2 => wpAny_pure ⟨x, rfl, wpAny_pure (hQ x rfl h2 g2 (sb.trans sb2))⟩))
  · dsimp only
    refine wpAny_bind (wpAny_seqItems hol hdl ?_)
    rcases hn with ⟨rfl, hi⟩ | ⟨p, tk, x, e, rfl, hi, he⟩
    · dsimp only
      rw [Int.toNat_natCast, hi]
      exact wpAny_bind (set_fld hI (by simp) fun h1 g1 sb => wpAny_bind (set_fld g1 (by simp) fun h2 g2 sb2 => stop_ok hh fun h3 k => hE rfl _ (ext (sb.trans sb2) k)))
    · dsimp only
      rw [Int.toNat_natCast, hi]
      dsimp only
      unfold setNextDrawn
      refine wpAny_bind (wpAny_bind (wpAny_setState_of ho hd hf ?_))
      dsimp only
      rw [if_neg (by simp), Int.toNat_natCast, he]
      exact wpAny_pure (wpAny_bind (set_fld hI (by simp) fun h1 g1 sb => wpAny_pure ⟨x, rfl, wpAny_pure (hQ x rfl h1 g1 sb)⟩))
/-! the order that a set is gone over in -/
theorem wpAny_choose {M : Model} {src : Source} {n : Nat} {Q : Nat → Shared → Prop} (hn : n ≠ 0) (h : ∀ i d, i < n → Q i { s with drawn := d }) : wpAny M A (choose src n) Q E s := fun Γ p hΓ => by
  unfold choose
  rw [Sem.wp_choose]
  exact ⟨hn, h _ _ (Nat.mod_lt _ (Nat.pos_of_ne_zero hn))⟩
theorem eraseIdx_perm {α : Type} {x : α} : ∀ {l : List α} {i : Nat}, l[i]? = some x → (x :: l.eraseIdx i).Perm l
  | [], _, h => nomatch h
  | y :: l, 0, h => by cases h; exact .refl _
  | y :: l, i + 1, h => (List.Perm.swap y x _).trans (.cons y (eraseIdx_perm (l := l) h))
theorem draw_ok {α : Type} {M : Model} : ∀ (n : Nat) (xs : List α) (s : Shared) {Q : List α → Shared → Prop}, xs.length = n → (∀ ys d, ys.Perm xs → Q ys { s with drawn := d }) → wpAny M A (drawOrder n xs) Q E s
  | 0, xs, s, Q, hl, h => by cases List.length_eq_zero_iff.mp hl; exact wpAny_pure (h [] s.drawn (.refl _))
  | n + 1, [], s, Q, hl, h => nomatch hl
  | n + 1, x :: xs, s, Q, hl, h => by
    refine wpAny_bind (wpAny_choose (by rw [hl]; exact Nat.succ_ne_zero n) fun i d hi => ?_)
    have e : (x :: xs)[i]? = some (x :: xs)[i] := List.getElem?_eq_getElem hi
    rw [e]
    refine wpAny_bind (draw_ok n _ _ (by rw [List.length_eraseIdx_of_lt hi, hl]; rfl) fun ys d' p => wpAny_pure (h _ d' ((List.Perm.cons _ p).trans (eraseIdx_perm e))))
theorem pick_ok {α : Type} (f : Nat → Nat) : ∀ (n k : Nat) (l : List α) (o : Array α), l.length = n → (pickOrder.go f n k l o).toList.Perm (o.toList ++ l)
  | 0, k, l, o, h => by cases List.length_eq_zero_iff.mp h; unfold pickOrder.go; rw [List.append_nil]
  | n + 1, k, l, o, h => by
    have hi : f k % l.length < l.length := Nat.mod_lt _ (by rw [h]; exact Nat.succ_pos n)
    have e : l[f k % l.length]? = some l[f k % l.length] := List.getElem?_eq_getElem hi
    unfold pickOrder.go
    rw [e]
    refine (pick_ok f n (k + 1) _ _ (by rw [List.length_eraseIdx_of_lt hi, h]; rfl)).trans ?_
    rw [Array.toList_push, List.append_assoc]
    exact .append_left _ (eraseIdx_perm e)
theorem pick_perm {α : Type} (f : Nat → Nat) (xs : Array α) : (pickOrder f xs).toList.Perm xs.toList := pick_ok f _ 0 _ #[] Array.length_toList
end
end Mine
end

noncomputable section
set_option maxRecDepth 100000
set_option linter.unusedVariables false
namespace Mine
open PySem PySem.Calls PyProof.Rows PySem.W

theorem slot_setit_iter : PySem.Slot "set_iterator" "__iter__" "set_iterator.__iter__" :=
  .of (owner := "set_iterator") (n := "__iter__") (by rw [typeLookup_type, builtinLookup_eq_fast]; kernel_rfl) (by decide +kernel) (by decide +kernel) (by decide +kernel)
    (by first | exact .inl (by decide +kernel) | exact .inr (by decide +kernel)) (by rw [isSubtype_type]; kernel_rfl)
theorem entry_setit_iter : entryFor table "set_iterator.__iter__" = some Builtin.«dict_keyiterator.__iter__» := entryFor_alias (id' := "dict_keyiterator.__iter__") (by kernel_rfl) rfl (by decide +kernel) (by kernel_rfl)
theorem args_setit_iter (a : Value) : argsOk "set_iterator.__iter__" ⟨[a], []⟩ := by unfold argsOk; kernel_rfl
section
variable {prog : Program} {w : World} {A : Around} {E : Value → Shared → Prop} {s : Shared} {I S : Addr} {o : Obj} {es : Array (Int × Value)} {ep : Nat} {t : SetTable} {ord : List Value}
theorem setit_self {Q : Value → Shared → Prop} {ob : Obj} (hI : s.heap.get? I = some ob) (hc : ob.cls = .type "set_iterator") (h : Q (.ref I) s) : wpAny (model prog w) A (pyIter (.ref I)) Q E s := by
  have hT : s.TypeIs (.ref I) "set_iterator" := ⟨_, hI, hc⟩
  refine wpAny_pyIter_slot hT slot_setit_iter (wpAny_call_entry slot_setit_iter hT entry_setit_iter ?_ (args_setit_iter _))
  refine wpAny_bind (wpAny_pure ?_)
  exact wpAny_pure ⟨_, rfl, "set_iterator", _, hT, slot_setit_next.lookup, h⟩
noncomputable abbrev NextIs (prog : Program) (w : World) (S : Addr) (o : Obj) (i ep slot : Nat) (r : Option (Value × Nat)) : Prop := ∀ (s : Shared), s.heap.get? S = some o → ∀ (A : Around) (Q : Option (Value × Nat) → Shared → Prop) (E : Value → Shared → Prop), Q r s → wpAny (model prog w) A (setNext S slot i ep) Q E s
theorem mem2 {a b c : Addr} {C : Addr → Prop} (m : c ∈ [a, b]) (ha : C a) (hb : C b) : C c := by
  rcases List.mem_cons.mp m with rfl | m
  · exact ha
  · cases List.mem_singleton.mp m; exact hb
theorem walks_int (hh : A.handled = none) (hne : S ≠ I) (hd : o.data = .set es ep t) (hf : t.fits es.size = true) (Sl : Nat → Nat → Prop)
    (hs : ∀ i slot, Sl slot i → i < es.size → ∃ x nx, ord[i]? = some x ∧ Sl nx (i + 1) ∧ NextIs prog w S o i ep slot (some (x, nx))) (he : ∀ slot, Sl slot es.size → NextIs prog w S o es.size ep slot none) :
    Walks prog w A I [I, S] [I] es.size (fun i v => ord[i]? = some v) (fun i h => h.get? S = some o ∧ ∃ slot tk, Sl slot i ∧ h.get? I = some (sitObj (.int slot tk) i S es.size ep)) where
  sub := fun b m => by cases List.mem_singleton.mp m; exact .head _
  frame := fun i h h' ⟨a, slot, tk, b, c⟩ k => ⟨k S (.tail _ (.head _)) _ a, slot, tk, b, k I (.head _) _ c⟩
  item := fun i s Q E hi ⟨a, slot, tk, b, c⟩ hQ => by
    obtain ⟨x, nx, e1, e2, e3⟩ := hs i slot b hi
    refine next_set (r := some x) (f' := .int nx 0) hh c a hd hf (.inl ⟨slot, nx, tk, rfl, rfl, e3 s a⟩) (fun y ey h' hI sb => ?_) fun q => nomatch q
    cases ey
    exact hQ x h' s.toks e1 ⟨(sb.2 S hne).trans a, nx, 0, e2, hI⟩ fun b o m e => (sb.2 b fun q => m (q ▸ .head _)).trans e
  done := fun s Q E ⟨a, slot, tk, b, c⟩ hQ => next_set (r := none) (f' := .int 0 0) hh c a hd hf (.inl ⟨slot, 0, tk, rfl, rfl, he slot b s a⟩) (fun y ey => nomatch ey) fun _ h' k => hQ h' s.toks fun b o m e => k b o (fun q => m (q ▸ .head _)) e
  self := fun i s Q E ⟨a, slot, tk, b, c⟩ h => setit_self c rfl h
theorem walks_ref (hh : A.handled = none) (hne : S ≠ I) (hd : o.data = .set es ep t) (hf : t.fits es.size = true) {F : Addr} {ol : Obj} {items : Array Value} {n' : Nat} (hF : F ≠ I) (hdl : ol.data = .seq items n') (hz : items.size = es.size)
    (hs : ∀ i, i < es.size → ∃ (p : Nat) (tk : Tok) (x : Value) (e : Int), ord[i]? = some x ∧ items[i]? = some (.int p tk) ∧ es[p]? = some (e, x)) :
    Walks prog w A I [I, S, F] [I] es.size (fun i v => ord[i]? = some v) (fun i h => h.get? S = some o ∧ h.get? F = some ol ∧ h.get? I = some (sitObj (.ref F) i S es.size ep)) where
  sub := fun b m => by cases List.mem_singleton.mp m; exact .head _
  frame := fun i h h' ⟨a, b, c⟩ k => ⟨k S (.tail _ (.head _)) _ a, k F (.tail _ (.tail _ (.head _))) _ b, k I (.head _) _ c⟩
  item := fun i s Q E hi ⟨a, b, c⟩ hQ => by
    obtain ⟨p, tk, x, e, e1, e2, e3⟩ := hs i hi
    refine next_set (r := some x) (f' := .ref F) hh c a hd hf (.inr ⟨F, ol, items, n', rfl, rfl, b, hdl, .inr ⟨p, tk, x, e, rfl, e2, e3⟩⟩) (fun y ey h' hI sb => ?_) fun q => nomatch q
    cases ey
    exact hQ x h' s.toks e1 ⟨(sb.2 S hne).trans a, (sb.2 F hF).trans b, hI⟩ fun b o m e => (sb.2 b fun q => m (q ▸ .head _)).trans e
  done := fun s Q E ⟨a, b, c⟩ hQ => next_set (r := none) (f' := .ref F) hh c a hd hf (.inr ⟨F, ol, items, n', rfl, rfl, b, hdl, .inl ⟨rfl, Array.getElem?_eq_none (Nat.le_of_eq hz)⟩⟩) (fun y ey => nomatch ey) fun _ h' k => hQ h' s.toks fun b o m e => k b o (fun q => m (q ▸ .head _)) e
  self := fun i s Q E ⟨a, b, c⟩ h => setit_self c rfl h
theorem next_text {i slot : Nat} {r : Option (Value × Nat)} (hB : w.params.followText "set-order" = true) (hd : o.data = .set es ep t) (hf : t.fits es.size = true) (e : ((pickOrder (w.params.setOrder S ep) es)[i]?).map (fun e => (e.2, slot)) = r) : NextIs prog w S o i ep slot r := fun s ho A Q E h => by
  unfold setNext
  refine wpAny_bind (wpAny_setState_of ho hd hf ?_)
  refine wpAny_bind (wpAny_bind (wpAny_askSetting (wpAny_pure ?_)))
  rw [show (Setting.mk (model prog w).prog (model prog w).w.params).params.followText "set-order" = true from hB, if_pos rfl, if_neg (by simp)]
  unfold setWalk
  refine wpAny_bind (wpAny_bind (wpAny_setState_of ho hd hf ?_))
  refine wpAny_bind (wpAny_bind (wpAny_askSetting (wpAny_pure ?_)))
  rw [show (Setting.mk (model prog w).prog (model prog w).w.params).params.followText "set-order" = true from hB, if_pos rfl]
  refine wpAny_bind (wpAny_askSetting (wpAny_pure (wpAny_pure ?_)))
  exact e ▸ h
theorem next_few {i slot : Nat} {r : Option (Value × Nat)} (hB : w.params.followText "set-order" = false) (hd : o.data = .set es ep t) (hf : t.fits es.size = true) (hl : t.led = true) (hn : es.size ≤ 1)
    (e : (match es[SetTable.below t.place slot]?, t.place[SetTable.below t.place slot]? with | some (_, x), some j => some (x, j + 1) | _, _ => none) = r) : NextIs prog w S o i ep slot r := fun s ho A Q E h => by
  unfold setNext
  refine wpAny_bind (wpAny_setState_of ho hd hf ?_)
  refine wpAny_bind (wpAny_bind (wpAny_askSetting (wpAny_pure ?_)))
  rw [show (Setting.mk (model prog w).prog (model prog w).w.params).params.followText "set-order" = false from hB, if_neg Bool.false_ne_true]
  refine wpAny_else (show ¬ (!t.plain && decide (es.size > 1)) = true by simp; omega) ?_
  refine wpAny_bind (wpAny_else (show ¬ (!t.led && !es.isEmpty) = true by simp [hl]) (wpAny_pure ?_))
  refine wpAny_pure ?_
  subst e; exact h
theorem iter_set {L : Bool} {Q : Value → Shared → Prop} (hL : L = !w.params.followText "set-order") (T : TS s.heap S es L)
    (h : ∀ (ord : List Value) I fp wr St h' d, ord.Perm (es.toList.map (·.2)) → Keeps s.heap h' → (∀ b ∈ wr, s.heap.get? b = none) → (∀ b ∈ fp, s.heap.get? b = none ∨ b = S) → (∀ A : Around, A.handled = none → Walks prog w A I fp wr es.size (fun i v => ord[i]? = some v) St) → St 0 h' → Q (.ref I) { s with heap := h', drawn := d }) :
    wpAny (model prog w) A (pyIter (.ref S)) Q E s := by
  obtain ⟨o, ep, t, ho, hex, hd, T, hr, hl, hp⟩ := T
  have hf : t.fits es.size = true := T.fits (by have := T.msk; omega)
  have hT : s.TypeIs (.ref S) "set" := ⟨_, ho, hex.1⟩
  refine wpAny_pyIter_slot hT PySem.F.slot_set_iter (wpAny_call_entry PySem.F.slot_set_iter hT entry_set_iter ?_ (PySem.F.args_set_iter_1 _))
  unfold Builtin.«frozenset.__iter__»
  refine wpAny_bind (wpAny_bind (wpAny_pure (wpAny_pure ?_)))
  refine wpAny_bind (wpAny_bind (wpAny_bind (wpAny_setState_of ho hd hf (wpAny_pure (wpAny_pure ?_)))))
  unfold setDrawn
  refine wpAny_bind (wpAny_bind (wpAny_setState_of ho hd hf ?_))
  refine wpAny_bind (wpAny_bind (wpAny_askSetting (wpAny_pure (wpAny_pure ?_))))
  have hle : es.size ≤ 511 := by have := T.msk; rcases this with q | q | q | q <;> omega
  extract_lets jp
  have hjp : ∀ (s1 : Shared) ff, s1.heap.get? S = some o → (∀ h', h'.get? s1.heap.objs.size = some (sitObj ff 0 S es.size ep) → Keeps s1.heap h' → Q (.ref s1.heap.objs.size) { s1 with heap := h' }) →
      wpAny (model prog w) A.in1 (jp ff) (fun fin s' => ∃ v, fin = .done (.ret v) ∧ ∃ T' r, s'.TypeIs v T' ∧ typeLookup (.type T') (Str.ofString "__next__") = pure (some r) ∧ Q v s') E s1 := fun s1 ff h1 hq => by
    refine wpAny_bind (wpAny_setEpoch_of h1 hd hf ?_)
    refine wpAny_bind (wpAny_newObj_type ?_)
    exact wpAny_pure ⟨_, rfl, "set_iterator", _, ⟨_, Heap.get?_push_size _ rfl, rfl⟩, slot_setit_next.lookup, hq _ (Heap.get?_push_size _ rfl) (keeps_push _ _)⟩
  have nI : ∀ (h1 : Heap), Keeps s.heap h1 → s.heap.get? h1.objs.size = none := fun h1 k => none_of k.live (size_none _)
  refine wpAny_ite_split (fun c => ?_) fun c => ?_
  · refine wpAny_bind (draw_ok _ _ _ List.length_range fun ys d py => ?_)
    refine wpAny_bind (wpAny_newTuple ?_ (by rw [List.length_map, py.length_eq, List.length_range]; exact Nat.le_trans hle (by decide)))
    have k1 : Keeps s.heap (s.heap.push { cls := .type "tuple", data := .seq (ys.map fun (i : Nat) => rawInt i).toArray 0 }) := keeps_push _ _
    have hy : ∀ a ∈ ys, (es.toList[a]?).isSome := fun a m => by
      rw [List.getElem?_eq_getElem (by rw [Array.length_toList]; exact List.mem_range.mp (py.mem_iff.mp m))]; rfl
    refine hjp _ _ (k1 _ _ ho) fun h' hI k => h ((ys.filterMap (es.toList[·]?)).map (·.2)) _ _ _ _ h' d ?_ (k1.trans k) (fun b m => ?_) (fun b m => ?_) (fun A hh => walks_ref hh (ne_size (k1 _ _ ho)) hd hf (F := s.heap.objs.size) (Nat.ne_of_lt (by rw [Heap.size_push]; exact Nat.lt_succ_self _)) (rfl : Obj.data { cls := .type "tuple", data := .seq (ys.map fun (i : Nat) => rawInt i).toArray 0 } = _) (by simp [py.length_eq]) fun i hi => ?_) ⟨(k1.trans k) _ _ ho, k _ _ (Heap.get?_push_size _ rfl), hI⟩
    · refine (List.Perm.map _ ((List.Perm.filterMap _ py).trans (.of_eq ?_)))
      rw [← Array.length_toList]; exact filterMap_range _
    · cases List.mem_singleton.mp m; exact nI _ k1
    · rcases List.mem_cons.mp m with rfl | m
      · exact .inl (nI _ k1)
      · exact mem2 (C := fun b => s.heap.get? b = none ∨ b = S) m (.inr rfl) (.inl (size_none _))
    · have hl' : i < ys.length := by rw [py.length_eq, List.length_range]; exact hi
      have ep : ys[i] < es.size := List.mem_range.mp (py.mem_iff.mp (List.getElem_mem hl'))
      refine ⟨ys[i], 0, es[ys[i]].2, es[ys[i]].1, ?_, ?_, Array.getElem?_eq_getElem ep⟩
      · rw [List.getElem?_map, filterMap_get hy, List.getElem?_eq_getElem hl']
        show ((es.toList[ys[i]]?).map _) = _
        rw [Array.getElem?_toList, Array.getElem?_eq_getElem ep]; rfl
      · simp [hl', rawInt]
  · refine wpAny_bind (wpAny_pure ?_)
    cases hB : w.params.followText "set-order" with
    | true =>
      have pk := pick_perm (w.params.setOrder S ep) es
      refine hjp s _ ho fun h' hI k => h ((pickOrder (w.params.setOrder S ep) es).toList.map (·.2)) _ _ _ _ h' s.drawn (pk.map _) k (fun b m => by cases List.mem_singleton.mp m; exact size_none _) (fun b m => mem2 (C := fun b => s.heap.get? b = none ∨ b = S) m (.inl (size_none _)) (.inr rfl))
        (fun A hh => walks_int hh (ne_size ho) hd hf (fun _ _ => True) (fun i slot _ hi => ?_) fun slot _ => ?_) ⟨k _ _ ho, 0, 0, trivial, hI⟩
      · have hl' : i < (pickOrder (w.params.setOrder S ep) es).size := by rw [← Array.length_toList, pk.length_eq, Array.length_toList]; exact hi
        exact ⟨(pickOrder (w.params.setOrder S ep) es)[i].2, slot, by rw [List.getElem?_map, Array.getElem?_toList, Array.getElem?_eq_getElem hl']; rfl, trivial, next_text hB hd hf (by rw [Array.getElem?_eq_getElem hl']; rfl)⟩
      · exact next_text hB hd hf (by rw [Array.getElem?_eq_none (by rw [← Array.length_toList, pk.length_eq, Array.length_toList]; exact Nat.le_refl _)]; rfl)
    | false =>
      have hl2 : t.led = true := by rw [hl, hL, hB]; rfl
      have hn : es.size ≤ 1 := by
        have c : ¬ (!w.params.followText "set-order" && (!t.plain && decide (es.size > 1))) = true := c
        rcases hp with q | q
        · omega
        · rw [hB, q] at c; simpa using c
      refine hjp s _ ho fun h' hI k => h (es.toList.map (·.2)) _ _ _ _ h' s.drawn (.refl _) k (fun b m => by cases List.mem_singleton.mp m; exact size_none _) (fun b m => mem2 (C := fun b => s.heap.get? b = none ∨ b = S) m (.inl (size_none _)) (.inr rfl))
        (fun A hh => walks_int hh (ne_size ho) hd hf (fun slot i => SetTable.below t.place slot = i) (fun i slot e hi => ?_) fun slot e => next_few hB hd hf hl2 hn (by rw [e, Array.getElem?_eq_none (Nat.le_refl _)])) ⟨k _ _ ho, 0, 0, ?_, hI⟩
      · have hi0 : i = 0 := by omega
        subst hi0
        obtain ⟨j, ej⟩ : ∃ j, t.place[0]? = some j := ⟨_, Array.getElem?_eq_getElem (by rw [T.sz]; exact hi)⟩
        refine ⟨es[0].2, j + 1, by rw [List.getElem?_map, Array.getElem?_toList, Array.getElem?_eq_getElem hi]; rfl, ?_, next_few hB hd hf hl2 hn (by rw [e, Array.getElem?_eq_getElem hi, ej])⟩
        have b := below_ok T.rise (j + 1)
        have b1 := b.1
        rw [T.sz] at b1
        rcases Nat.lt_or_ge (SetTable.below t.place (j + 1)) 1 with q | q
        · exact absurd (b.2.2 0 j (by omega) ej) (by omega)
        · omega
      · have b := below_ok T.rise 0
        rcases Nat.eq_zero_or_pos (SetTable.below t.place 0) with q | q
        · exact q
        · have b1 := b.1
          obtain ⟨j, ej⟩ : ∃ j, t.place[0]? = some j := ⟨_, Array.getElem?_eq_getElem (Nat.lt_of_lt_of_le q b1)⟩
          exact absurd (b.2.1 0 j q ej) (Nat.not_lt_zero _)
end
end Mine
end

noncomputable section
set_option maxRecDepth 100000
set_option linter.unusedVariables false
namespace Mine
open PySem PySem.Calls PyProof.Rows PySem.W

/-! list.sort, seen as this alone: it gives the same things in some order -/
structure SI (k₀ : SortKind) (a₀ : Array Keyed) (p : Array (Nat × Nat × Nat)) (st : SortSt) : Prop where
  perm : (arrOf st).Perm a₀
  kind : kindOf st = k₀
  failed : failedOf st = none
  pend : pendingOf st = p
section
variable {M : Model} {A : Around} {s : Shared} {k₀ : SortKind} {a₀ : Array Keyed} {p : Array (Nat × Nat × Nat)} {st : SortSt} {E : Value → Shared → Prop}
noncomputable def LtOk (M : Model) (A : Around) (s : Shared) (k₀ : SortKind) (a₀ : Array Keyed) : Prop := ∀ x y : Keyed, x ∈ a₀.toList → y ∈ a₀.toList → ∀ (E : Value → Shared → Prop) (Q : Bool → Shared → Prop), (∀ b, Q b s) → wpAny M A (keyLt' k₀ x.1 y.1) Q E s
theorem SI.size (I : SI k₀ a₀ p st) : (arrOf st).size = a₀.size := I.perm.size_eq
theorem SI.setArr {xs : Array Keyed} (I : SI k₀ a₀ p st) (h : xs.Perm (arrOf st)) : SI k₀ a₀ p (setArr st xs) := ⟨h.trans I.perm, I.kind, I.failed, I.pend⟩
theorem SI.mem (I : SI k₀ a₀ p st) {x : Keyed} (h : x ∈ (arrOf st).toList) : x ∈ a₀.toList := (Array.perm_iff_toList_perm.mp I.perm).mem_iff.mp h
theorem wpS_elem {a : Array Keyed} {i : Nat} {Q : Keyed → SortSt → Prop} (hi : i < a.size) (h : ∀ x, x ∈ a.toList → a[i]? = some x → Q x st) : wpS M A E s (elem' a i) Q st := by
  rw [elem'_eq, getElem?_pos a i hi]
  exact wpS_pure (h _ (by simp) (getElem?_pos a i hi))
theorem wpS_lt {x y : Keyed} {Q : Option Bool → SortSt → Prop} (L : LtOk M A s k₀ a₀) (hk : kindOf st = k₀) (hx : x ∈ a₀.toList) (hy : y ∈ a₀.toList) (h : ∀ b, Q (some b) st) : wpS M A E s (lt' x y) Q st := by
  rw [lt'_eq]
  refine wpS_bind (wpS_get ?_)
  rw [hk]
  exact wpS_bind (wpS_lift (wpAny_attempt (L x y hx hy _ _ fun b => ⟨rfl, wpS_pure (h b)⟩)))
theorem wpS_ltAt {i j : Nat} {Q : Option Bool → SortSt → Prop} (L : LtOk M A s k₀ a₀) (I : SI k₀ a₀ p st) (hi : i < a₀.size) (hj : j < a₀.size) (h : ∀ b, Q (some b) st) : wpS M A E s (ltAt' i j) Q st := by
  rw [ltAt'_eq]
  exact wpS_bind (wpS_get (wpS_bind (wpS_elem (I.size ▸ hi) fun x hx _ => wpS_bind (wpS_elem (I.size ▸ hj) fun y hy _ => wpS_lt L I.kind (I.mem hx) (I.mem hy) h))))
theorem wpS_rev {i j : Nat} {Q : Unit → SortSt → Prop} (I : SI k₀ a₀ p st) (h : ∀ st', SI k₀ a₀ p st' → Q () st') : wpS M A E s (reverseSlice' i j) Q st := by
  rw [reverseSlice'_eq]; exact wpS_modify (h _ (I.setArr (mirror_perm _ _ _ _)))
theorem wpS_moveDown {i j : Nat} {Q : Unit → SortSt → Prop} (I : SI k₀ a₀ p st) (h : ∀ st', SI k₀ a₀ p st' → Q () st') : wpS M A E s (moveDown' i j) Q st := by
  rw [moveDown'_eq]; exact wpS_modify (h _ (I.setArr (bubble_perm _ _ _)))
theorem wpS_asc {lo a nrem : Nat} {f : Nat → Option (Option Nat) × Nat → StateT SortSt Sem (ForInStep (Option (Option Nat) × Nat))} {Q : Option (Option Nat) × Nat → SortSt → Prop} {g : Nat → Option Bool → StateT SortSt Sem (ForInStep (Option (Option Nat) × Nat))}
    (L : LtOk M A s k₀ a₀) (hf : ∀ x, f x (none, x) = (ltAt' (lo + x) (lo + x - 1) >>= g x)) (g1 : ∀ x, g x (some true) = pure (.done (none, x))) (g0 : ∀ x, g x (some false) = pure (.yield (none, x + 1)))
    (hn : lo + nrem ≤ a₀.size) (h1 : 1 ≤ a) (h2 : a ≤ nrem) (I : SI k₀ a₀ p st) (h : ∀ m st', SI k₀ a₀ p st' → 1 ≤ m → m ≤ nrem → Q (none, m) st') : wpS M A E s (forIn [a:nrem] (none, a) f) Q st := by
  refine wpS_forRange (I := fun x c st' => c = (none, x) ∧ SI k₀ a₀ p st') ?_ ?_ ⟨rfl, I⟩
  · rintro x c st' h1 h2 ⟨rfl, I'⟩
    rw [hf]
    refine wpS_bind (wpS_ltAt L I' (by omega) (by omega) fun b => ?_)
    cases b
    · rw [g0]; exact wpS_pure ⟨rfl, I'⟩
    · rw [g1]; exact wpS_pure (h x st' I' (by omega) (by omega))
  · rintro c st' ⟨rfl, I'⟩
    exact h _ st' I' (by omega) (by omega)
theorem wpS_opt {α : Type} {c : Prop} [Decidable c] {i j : Nat} {X : StateT SortSt Sem α} {Q : α → SortSt → Prop} (I : SI k₀ a₀ p st) (h : ∀ st', SI k₀ a₀ p st' → wpS M A E s X Q st') : wpS M A E s (if c then reverseSlice' i j >>= fun _ => X else X) Q st := by
  split
  · exact wpS_bind (wpS_rev I h)
  · exact h st I
theorem wpS_opt2 {α : Type} {c : Prop} [Decidable c] {i j a b : Nat} {F : Option Bool → StateT SortSt Sem α} {X : StateT SortSt Sem α} {Q : α → SortSt → Prop} (L : LtOk M A s k₀ a₀) (I : SI k₀ a₀ p st) (hi : i < a₀.size) (hj : j < a₀.size)
    (h1 : wpS M A E s (F (some true)) Q st) (h0 : F (some false) = (reverseSlice' a b >>= fun _ => X)) (h : ∀ st', SI k₀ a₀ p st' → wpS M A E s X Q st') : wpS M A E s (if c then ltAt' i j >>= F else X) Q st := by
  split
  · refine wpS_bind (wpS_ltAt L I hi hj fun b => ?_)
    cases b
    · rw [h0]; exact wpS_bind (wpS_rev I h)
    · exact h1
  · exact h st I
theorem wpS_countRunP {lo nrem : Nat} {Q : Option Nat → SortSt → Prop} (L : LtOk M A s k₀ a₀) (hn : lo + nrem ≤ a₀.size) (h1 : 1 ≤ nrem) (I : SI k₀ a₀ p st) (h : ∀ m st', SI k₀ a₀ p st' → 1 ≤ m → m ≤ nrem → Q (some m) st') : wpS M A E s (countRun' lo nrem) Q st := by
  rw [countRun'_eq]
  refine wpS_bind (wpS_asc L (fun _ => rfl) (fun _ => rfl) (fun _ => rfl) hn (Nat.le_refl 1) h1 I fun n st1 I1 hn1 hn2 => ?_)
  dsimp only
  by_cases e : n = nrem
  · rw [if_pos (by simpa using e)]; exact wpS_pure (h n st1 I1 hn1 hn2)
  rw [if_neg (by simpa using e)]
  refine wpS_opt2 L I1 (by omega) (by omega) (wpS_pure (h n st1 I1 hn1 hn2)) rfl fun st2 I2 => ?_
  refine wpS_bind (wpS_lift (wpAny_rule ⟨rfl, ?_⟩))
  refine wpS_bind (wpS_forRange (I := fun x c st' => ∃ q, c = (none, x, q) ∧ SI k₀ a₀ p st') ?_ ?_ ⟨0, rfl, I2⟩)
  · rintro x c st' hx1 hx2 ⟨q, rfl, I'⟩
    refine wpS_bind (wpS_ltAt L I' (by dsimp only; omega) (by dsimp only; omega) fun b => ?_)
    cases b
    · refine wpS_bind (wpS_ltAt L I' (by dsimp only; omega) (by dsimp only; omega) fun b => ?_)
      cases b
      · exact wpS_pure ⟨_, rfl, I'⟩
      · refine wpS_pure ?_
        exact wpS_opt I' fun st3 I3 => wpS_bind (wpS_rev I3 fun st4 I4 => wpS_bind (wpS_asc L (fun _ => rfl) (fun _ => rfl) (fun _ => rfl) hn (by dsimp only; omega) (by dsimp only; omega) I4 fun m st5 I5 hm1 hm2 => wpS_pure (h m st5 I5 hm1 hm2)))
    · exact wpS_opt I' fun st3 I3 => wpS_pure ⟨0, rfl, I3⟩
  · rintro c st' ⟨q, rfl, I'⟩
    exact wpS_opt I' fun st3 I3 => wpS_bind (wpS_rev I3 fun st4 I4 => wpS_bind (wpS_asc L (fun _ => rfl) (fun _ => rfl) (fun _ => rfl) hn (by dsimp only; omega) (by dsimp only; omega) I4 fun m st5 I5 hm1 hm2 => wpS_pure (h m st5 I5 hm1 hm2)))
theorem wpS_binarySortP {lo n ok : Nat} {Q : Bool → SortSt → Prop} (L : LtOk M A s k₀ a₀) (hn : lo + n ≤ a₀.size) (I : SI k₀ a₀ p st) (h : ∀ st', SI k₀ a₀ p st' → Q true st') : wpS M A E s (binarySort' lo n ok) Q st := by
  rw [binarySort'_eq]
  refine wpS_bind (wpS_forRange (I := fun k c st' => c = (none, ()) ∧ SI k₀ a₀ p st') ?_ (fun c st' ⟨e, I'⟩ => by subst e; exact wpS_pure (h st' I')) ⟨rfl, I⟩)
  rintro k c st' hk1 hk2 ⟨rfl, I'⟩
  refine wpS_bind (wpS_forRange (I := fun x c st'' => st'' = st' ∧ ∃ l r, c = (none, l, r) ∧ r ≤ k) ?_ ?_ ⟨rfl, 0, k, rfl, Nat.le_refl _⟩)
  · rintro x c st'' _ _ ⟨rfl, l, r, rfl, hr⟩
    dsimp only
    split
    · exact wpS_pure (wpS_bind (wpS_moveDown I' fun st3 I3 => wpS_pure ⟨rfl, I3⟩))
    · refine wpS_bind (wpS_ltAt L I' (by omega) (by omega) fun b => ?_)
      cases b
      · exact wpS_pure ⟨rfl, _, r, rfl, hr⟩
      · exact wpS_pure ⟨rfl, l, _, rfl, by omega⟩
  · rintro c st'' ⟨rfl, l, r, rfl, hr⟩
    exact wpS_bind (wpS_moveDown I' fun st3 I3 => wpS_pure ⟨rfl, I3⟩)
end
end Mine
end

noncomputable section
set_option maxRecDepth 100000
set_option linter.unusedVariables false
namespace Mine
open PySem PySem.Calls PyProof.Rows PySem.W
noncomputable def gallop' : Bool → Keyed → Array Keyed → Nat → Nat → Nat → StateT SortSt Sem (Option Nat) := sortPriv% PySem.Builtin.gallop
section
variable {M : Model} {A : Around} {s : Shared} {k₀ : SortKind} {a₀ : Array Keyed} {p : Array (Nat × Nat × Nat)} {st : SortSt} {E : Value → Shared → Prop}
theorem wpS_beyond {left : Bool} {key : Keyed} {arr : Array Keyed} {i : Nat} {Q : Option Bool → SortSt → Prop} (L : LtOk M A s k₀ a₀) (hk : kindOf st = k₀) (hx : key ∈ a₀.toList) (ha : ∀ x ∈ arr.toList, x ∈ a₀.toList) (hi : i < arr.size) (h : ∀ b, Q (some b) st) :
    wpS M A E s (elem' arr i >>= fun x => if left = true then lt' x key else lt' key x >>= fun r => pure (r.map (!·))) Q st := by
  refine wpS_bind (wpS_elem hi fun x hm _ => ?_)
  cases left
  · exact wpS_bind (wpS_lt L hk hx (ha x hm) fun b => wpS_pure (h _))
  · exact wpS_lt L hk (ha x hm) hx h
theorem wpS_bis {n lo hi : Nat} {f : Nat → Option (Option Nat) × Nat × Nat → StateT SortSt Sem (ForInStep (Option (Option Nat) × Nat × Nat))} {F : Option (Option Nat) × Nat × Nat → StateT SortSt Sem (Option Nat)} {Q : Option Nat → SortSt → Prop}
    (hf : ∀ x l h, h ≤ n → wpS M A E s (f x (none, l, h)) (fun r st' => st' = st ∧ ∃ l' h', h' ≤ n ∧ (r = .done (none, l', h') ∨ r = .yield (none, l', h'))) st) (hF : ∀ l h, F (none, l, h) = pure (some h)) (hh : hi ≤ n) (h : ∀ k, k ≤ n → Q (some k) st) : wpS M A E s (forIn [:n] (none, lo, hi) f >>= F) Q st := by
  refine wpS_bind (wpS_forRange (I := fun x c st' => st' = st ∧ ∃ l h, c = (none, l, h) ∧ h ≤ n) ?_ ?_ ⟨rfl, lo, hi, rfl, hh⟩)
  · rintro x c st' _ _ ⟨rfl, l, h', rfl, q⟩
    refine wpS_mono (hf x l h' q) fun r st'' w => ?_
    obtain ⟨rfl, l', h', q, rfl | rfl⟩ := w
    · show wpS _ _ _ _ (F _) _ _
      rw [hF]; exact wpS_pure (h _ q)
    · exact ⟨rfl, l', h', rfl, q⟩
  · rintro c st' ⟨rfl, l, h', rfl, q⟩
    rw [hF]; exact wpS_pure (h _ q)
theorem wpS_gallop {left : Bool} {key : Keyed} {arr : Array Keyed} {base n hint : Nat} {Q : Option Nat → SortSt → Prop} (L : LtOk M A s k₀ a₀) (hk : kindOf st = k₀) (hx : key ∈ a₀.toList) (ha : ∀ x ∈ arr.toList, x ∈ a₀.toList) (hb : base + n ≤ arr.size) (hh : hint < n)
    (h : ∀ k, k ≤ n → Q (some k) st) : wpS M A E s (gallop' left key arr base n hint) Q st := by
  refine wpS_bind (wpS_beyond L hk hx ha (by omega) fun b => ?_)
  have two : ∀ l h', h' ≤ n → wpS M A E s ((if l ≥ h' then pure (.done (none, l, h')) else (elem' arr (base + (l + (h' - l) / 2)) >>= fun x => if left = true then lt' x key else lt' key x >>= fun r => pure (r.map (!·))) >>= fun r => match r with
      | some more => if more = true then pure (.yield (none, l + (h' - l) / 2 + 1, h')) else pure (.yield (none, l, l + (h' - l) / 2))
      | _ => pure (.done (some none, l, h'))) : StateT SortSt Sem (ForInStep (Option (Option Nat) × Nat × Nat))) (fun r st' => st' = st ∧ ∃ l' h', h' ≤ n ∧ (r = .done (none, l', h') ∨ r = .yield (none, l', h'))) st := by
    intro l h' q
    split
    · exact wpS_pure ⟨rfl, l, h', q, .inl rfl⟩
    · refine wpS_bind (wpS_beyond L hk hx ha (by omega) fun b => ?_)
      cases b
      · exact wpS_pure ⟨rfl, _, _, by omega, .inr rfl⟩
      · exact wpS_pure ⟨rfl, _, _, q, .inr rfl⟩
  cases b
  · refine wpS_bind (wpS_forRange (I := fun x c st' => st' = st ∧ ∃ l o, c = (none, l, o)) ?_ ?_ ⟨rfl, 0, 1, rfl⟩)
    · rintro x c st' _ _ ⟨rfl, l, o, rfl⟩
      dsimp only
      split
      · exact wpS_pure (wpS_bis (fun x l h' q => two l h' q) (fun l h => rfl) (by dsimp only; omega) h)
      · refine wpS_bind (wpS_beyond L hk hx ha (by omega) fun b => ?_)
        cases b
        · exact wpS_pure ⟨rfl, _, _, rfl⟩
        · exact wpS_pure (wpS_bis (fun x l h' q => two l h' q) (fun l h => rfl) (by dsimp only; omega) h)
    · rintro c st' ⟨rfl, l, o, rfl⟩
      exact wpS_bis (fun x l h' q => two l h' q) (fun l h => rfl) (by dsimp only; omega) h
  · refine wpS_bind (wpS_forRange (I := fun x c st' => st' = st ∧ ∃ l o, c = (none, l, o)) ?_ ?_ ⟨rfl, 0, 1, rfl⟩)
    · rintro x c st' _ _ ⟨rfl, l, o, rfl⟩
      dsimp only
      split
      · exact wpS_pure (wpS_bis (fun x l h' q => two l h' q) (fun l h => rfl) (by dsimp only; omega) h)
      · refine wpS_bind (wpS_beyond L hk hx ha (by omega) fun b => ?_)
        cases b
        · exact wpS_pure (wpS_bis (fun x l h' q => two l h' q) (fun l h => rfl) (by dsimp only; omega) h)
        · exact wpS_pure ⟨rfl, _, _, rfl⟩
    · rintro c st' ⟨rfl, l, o, rfl⟩
      exact wpS_bis (fun x l h' q => two l h' q) (fun l h => rfl) (by dsimp only; omega) h
end
end Mine
end

noncomputable section
set_option maxRecDepth 100000
set_option linter.unusedVariables false
namespace Mine
open PySem PySem.Calls PyProof.Rows PySem.W
noncomputable def mergeLo' : Array Keyed → Array Keyed → StateT SortSt Sem (Array Keyed) := sortPriv% PySem.Builtin.mergeLo
noncomputable def mergeHi' : Array Keyed → Array Keyed → StateT SortSt Sem (Array Keyed) := sortPriv% PySem.Builtin.mergeHi
structure Same (st st' : SortSt) : Prop where
  arr : arrOf st' = arrOf st
  kind : kindOf st' = kindOf st
  failed : failedOf st' = failedOf st
  pend : pendingOf st' = pendingOf st
theorem Same.refl (st : SortSt) : Same st st := ⟨rfl, rfl, rfl, rfl⟩
theorem Same.trans {a b c : SortSt} (x : Same a b) (y : Same b c) : Same a c := ⟨y.arr.trans x.arr, y.kind.trans x.kind, y.failed.trans x.failed, y.pend.trans x.pend⟩
section
variable {α : Type} {o o' P P' R R' X : List α} {a : Array α} {x : α} {i j : Nat}
theorem mgA (h : o.Perm (P ++ R)) (p : P'.Perm (P ++ X)) (q : o' = o ++ X) : o'.Perm (P' ++ R) := by
  subst q
  refine (h.append_right X).trans (.trans ?_ (p.symm.append_right R))
  rw [List.append_assoc, List.append_assoc]
  exact List.Perm.append_left P List.perm_append_comm
theorem mgB (h : o.Perm (P ++ R)) (p : R'.Perm (R ++ X)) (q : o' = o ++ X) : o'.Perm (P ++ R') := by
  subst q
  refine (h.append_right X).trans ?_
  rw [List.append_assoc]
  exact List.Perm.append_left P p.symm
end
section
variable {a b o : Array Keyed} {i j k : Nat} {x : Keyed}
structure JLo (a b o : Array Keyed) (i j : Nat) : Prop where
  perm : o.toList.Perm (a.toList.take i ++ b.toList.take j)
  hi : i ≤ a.size
  hj : j ≤ b.size
theorem take_ext (l : Array Keyed) {i j : Nat} (h : i ≤ j) : l.toList.take j = l.toList.take i ++ (l.extract i j).toList := by
  rw [Array.toList_extract, ← List.take_add]; congr 1; omega
theorem JLo.moreA (J : JLo a b o i j) (h : i ≤ k) (hk : k ≤ a.size) : JLo a b (o ++ a.extract i k) k j := ⟨mgA J.perm (.of_eq (take_ext a h)) (by rw [Array.toList_append]), hk, J.hj⟩
theorem JLo.moreB (J : JLo a b o i j) (h : j ≤ k) (hk : k ≤ b.size) : JLo a b (o ++ b.extract j k) i k := ⟨mgB J.perm (.of_eq (take_ext b h)) (by rw [Array.toList_append]), J.hi, hk⟩
theorem JLo.pushA (J : JLo a b o i j) (e : a[i]? = some x) : JLo a b (o.push x) (i + 1) j :=
  ⟨mgA J.perm (by rw [List.take_add_one, Array.getElem?_toList, e]; exact .refl _) Array.toList_push, (Array.getElem?_eq_some_iff.mp e).1, J.hj⟩
theorem JLo.pushB (J : JLo a b o i j) (e : b[j]? = some x) : JLo a b (o.push x) i (j + 1) :=
  ⟨mgB J.perm (by rw [List.take_add_one, Array.getElem?_toList, e]; exact .refl _) Array.toList_push, J.hi, (Array.getElem?_eq_some_iff.mp e).1⟩
theorem JLo.all (J : JLo a b o a.size b.size) : o.toList.Perm (a.toList ++ b.toList) := by
  have := J.perm
  rwa [← Array.length_toList, List.take_length, ← Array.length_toList, List.take_length] at this
theorem JLo.done (J : JLo a b o i j) : (o ++ a.extract i ++ b.extract j).toList.Perm (a.toList ++ b.toList) := ((J.moreA J.hi (Nat.le_refl _)).moreB J.hj (Nat.le_refl _)).all
theorem JLo.last (J : JLo a b o i j) : (o ++ b.extract j ++ a.extract i).toList.Perm (a.toList ++ b.toList) := ((J.moreB J.hj (Nat.le_refl _)).moreA J.hi (Nat.le_refl _)).all
end
section
variable {M : Model} {A : Around} {s : Shared} {k₀ : SortKind} {a₀ : Array Keyed} {p : Array (Nat × Nat × Nat)} {st st' : SortSt} {E : Value → Shared → Prop}
theorem wpS_ite {α : Type} {c : Prop} [Decidable c] {t e : StateT SortSt Sem α} {Q : α → SortSt → Prop} (h1 : c → wpS M A E s t Q st) (h2 : ¬ c → wpS M A E s e Q st) : wpS M A E s (if c then t else e) Q st := by
  split
  · exact h1 ‹_›
  · exact h2 ‹_›
theorem wpS_min {m : Nat} {Q : Unit → SortSt → Prop} (S : Same st st') (h : ∀ st'', Same st st'' → Q () st'') : wpS M A E s ((sortPriv% PySem.Builtin.setMinGallop) m) Q st' := wpS_modify (h _ (S.trans ⟨rfl, rfl, rfl, rfl⟩))
noncomputable def Gd {δ : Type} (st : SortSt) (F : List Keyed) (J : Nat → δ → Prop) (n : Nat) (c : Option (Array Keyed) × δ) (st' : SortSt) : Prop := Same st st' ∧ ((∃ r, c.1 = some r ∧ r.toList.Perm F) ∨ (c.1 = none ∧ J n c.2))
noncomputable def Sq {δ : Type} (st : SortSt) (F : List Keyed) (J : Nat → δ → Prop) (n n' : Nat) (r : ForInStep (Option (Array Keyed) × δ)) (st' : SortSt) : Prop := match r with
  | .done c' => Gd st F J n' c' st'
  | .yield c' => c'.1 = none ∧ Gd st F J n c' st'
theorem ne_of_beq {i j : Nat} (h : ¬ (i == j) = true) : i ≠ j := fun e => h (by simpa using e)
theorem Gd.elim {δ : Type} {F : List Keyed} {J : Nat → δ → Prop} {n : Nat} {c : Option (Array Keyed) × δ} {P : Option (Array Keyed) × δ → Prop} (G : Gd st F J n c st') (h1 : ∀ r d, r.toList.Perm F → P (some r, d)) (h0 : ∀ d, J n d → P (none, d)) : P c := by
  obtain ⟨r, d⟩ := c
  obtain ⟨_, ⟨r', e, p⟩ | ⟨e, G⟩⟩ := G
  · cases (show r = _ from e); exact h1 _ _ p
  · cases (show r = _ from e); exact h0 _ G
theorem wpS_turns {δ β : Type} {t n' : Nat} {f : Nat → Option (Array Keyed) × δ → StateT SortSt Sem (ForInStep (Option (Array Keyed) × δ))} {H : Option (Array Keyed) × δ → StateT SortSt Sem β} {Q : β → SortSt → Prop} {F : List Keyed} {d : δ} (J : Nat → δ → Prop)
    (N : Nat → Nat) (S : Same st st') (j0 : J (N 0) d) (fin : ∀ d, J (N t) d → J n' d)
    (step : ∀ y d st', Same st st' → J (N y) d → wpS M A E s (f y (none, d)) (Sq st F J (N (y + 1)) n') st') (ret : ∀ r d st', Same st st' → r.toList.Perm F → wpS M A E s (H (some r, d)) Q st')
    (go : ∀ d st', Same st st' → J n' d → wpS M A E s (H (none, d)) Q st') : wpS M A E s (forIn [:t] (none, d) f >>= H) Q st' := by
  refine wpS_bind (wpS_mono (wpS_forRange (I := fun y c st' => c.1 = none ∧ Gd st F J (N y) c st') (Q := Gd st F J n') ?_ ?_ ⟨rfl, S, .inr ⟨rfl, j0⟩⟩) ?_)
  · rintro y c st1 _ _ ⟨e, G⟩
    refine wpS_mono (Q := Sq st F J (N (y + 1)) n') (Gd.elim (P := fun c => c.1 = none → wpS M A E s (f y c) _ st1) G (fun _ _ _ e => nomatch e) (fun d j _ => step y d st1 G.1 j) e) fun r _ q => by cases r <;> exact q
  · rintro c st1 ⟨e, G⟩
    rw [Nat.max_eq_right (Nat.zero_le _)] at G
    exact ⟨G.1, G.2.imp id fun ⟨a, b⟩ => ⟨a, fin _ b⟩⟩
  · intro c st1 G
    exact G.elim (P := fun c => wpS M A E s (H c) Q st1) (fun r d p => ret r d st1 G.1 p) fun d j => go d st1 G.1 j
theorem wpS_ltB {x y : Keyed} {Q : Option Bool → SortSt → Prop} (L : LtOk M A s k₀ a₀) (hk : kindOf st = k₀) (hx : x ∈ a₀.toList) (hy : y ∈ a₀.toList) (h1 : Q (some true) st) (h0 : Q (some false) st) : wpS M A E s (lt' x y) Q st := wpS_lt L hk hx hy fun b => by
  cases b
  · exact h0
  · exact h1
theorem le_push {n : Nat} {o : Array Keyed} {x : Keyed} (h : n ≤ o.size) : n + 1 ≤ (o.push x).size := by rw [Array.size_push]; exact Nat.succ_le_succ h
theorem le_push' {n : Nat} {o : Array Keyed} {x : Keyed} (h : n ≤ o.size) : n ≤ (o.push x).size := Nat.le_of_succ_le (le_push h)
theorem le_more {n : Nat} {o e : Array Keyed} (h : n ≤ o.size) : n ≤ (o ++ e).size := by rw [Array.size_append]; exact Nat.le_add_right_of_le h
theorem JLo.size {a b o : Array Keyed} {i j : Nat} (J : JLo a b o i j) : o.size = i + j := by
  have := J.perm.length_eq
  rwa [List.length_append, List.length_take, List.length_take, Array.length_toList, Array.length_toList, Array.length_toList, Nat.min_eq_left J.hi, Nat.min_eq_left J.hj] at this
noncomputable def LoJ {γ : Type} (a b : Array Keyed) (n : Nat) (d : Array Keyed × Nat × Nat × γ) : Prop := JLo a b d.1 d.2.1 d.2.2.1 ∧ d.2.1 + 1 < a.size ∧ d.2.2.1 < b.size ∧ n ≤ d.1.size
theorem LoJ.le {γ : Type} {a b : Array Keyed} {n m : Nat} {d : Array Keyed × Nat × Nat × γ} (h : m ≤ n) (J : LoJ a b n d) : LoJ a b m d := ⟨J.1, J.2.1, J.2.2.1, Nat.le_trans h J.2.2.2⟩
theorem LoJ.lt {γ : Type} {a b : Array Keyed} {d : Array Keyed × Nat × Nat × γ} (J : LoJ a b (a.size + b.size + 1) d) : False := by obtain ⟨J, h1, h2, h3⟩ := J; rw [J.size] at h3; omega
theorem lt_of_ne {i n : Nat} (h : i ≤ n) (e : ¬ (i == n) = true) : i < n := Nat.lt_of_le_of_ne h (ne_of_beq e)
theorem lt2_of_ne {i n : Nat} (h : i ≤ n) (e : ¬ (i + 1 == n) = true) (e' : ¬ (i == n) = true) : i + 1 < n := lt_of_ne (lt_of_ne h e') e
theorem wpS_mergeLo {a b : Array Keyed} {Q : Array Keyed → SortSt → Prop} (L : LtOk M A s k₀ a₀) (hk : kindOf st = k₀) (ha : ∀ x ∈ a.toList, x ∈ a₀.toList) (hb : ∀ x ∈ b.toList, x ∈ a₀.toList) (h1 : 1 ≤ a.size) (h2 : 1 ≤ b.size)
    (h : ∀ out st', Same st st' → out.toList.Perm (a.toList ++ b.toList) → Q out st') : wpS M A E s (mergeLo' a b) Q st := by
  refine wpS_bind (wpS_lift (wpAny_rule ⟨rfl, ?_⟩))
  refine wpS_bind (wpS_elem (a := b) h2 fun x hx ex => ?_)
  have J0 : JLo a b #[x] 0 1 := JLo.pushB (o := #[]) (j := 0) ⟨.refl _, Nat.zero_le _, Nat.zero_le _⟩ ex
  refine wpS_ite (fun _ => wpS_pure (h _ _ (.refl _) J0.done)) fun e1 => ?_
  refine wpS_ite (fun _ => wpS_pure (h _ _ (.refl _) J0.last)) fun e2 => ?_
  refine wpS_bind (wpS_get ?_)
  refine wpS_turns (LoJ a b) (F := a.toList ++ b.toList) (fun x => x + 1) (.refl _) ⟨J0, lt_of_ne h1 e2, lt_of_ne h2 e1, Nat.le_refl _⟩ (fun _ j => j) ?_ (fun r d st' S p => wpS_pure (h _ _ S p)) fun d st' S J => J.lt.elim
  intro x d st1 S1 J1
  refine wpS_turns (st := st) (LoJ a b) (F := a.toList ++ b.toList) (n' := x + 1 + 1) (fun y => x + 1 + y) S1 J1 (fun _ j => j.le (Nat.add_le_add_left (Nat.le_add_right_of_le h1) _)) ?_ (fun r d st' S p => wpS_pure ⟨S, .inl ⟨_, rfl, p⟩⟩) ?_
  · intro y d st1 S1 J1
    obtain ⟨J1, hi, hj, n1⟩ := J1
    refine wpS_bind (wpS_elem (a := b) hj fun v hv ev => wpS_bind (wpS_elem (a := a) (Nat.lt_of_succ_lt hi) fun u hu eu => ?_))
    refine wpS_bind (wpS_ltB L (S1.kind.trans hk) (hb v hv) (ha u hu) ?_ ?_)
    · refine wpS_bind (wpS_elem (a := b) hj fun v hv ev => ?_)
      have J2 := J1.pushB ev
      refine wpS_ite (fun _ => wpS_pure ⟨S1, .inl ⟨_, rfl, J2.done⟩⟩) fun e3 => ?_
      have hj' := lt_of_ne hj e3
      exact wpS_ite (fun _ => wpS_pure ⟨S1, .inr ⟨rfl, J2, hi, hj', le_push (Nat.le_of_add_right_le n1)⟩⟩) fun _ => wpS_pure ⟨rfl, S1, .inr ⟨rfl, J2, hi, hj', le_push n1⟩⟩
    · refine wpS_bind (wpS_elem (a := a) (Nat.lt_of_succ_lt hi) fun u hu eu => ?_)
      have J2 := J1.pushA eu
      refine wpS_ite (fun _ => wpS_pure ⟨S1, .inl ⟨_, rfl, J2.last⟩⟩) fun e3 => ?_
      have hi' := lt_of_ne hi e3
      exact wpS_ite (fun _ => wpS_pure ⟨S1, .inr ⟨rfl, J2, hi', hj, le_push (Nat.le_of_add_right_le n1)⟩⟩) fun _ => wpS_pure ⟨rfl, S1, .inr ⟨rfl, J2, hi', hj, le_push n1⟩⟩
  intro d st1 S1 J1
  refine wpS_bind (wpS_lift (wpAny_rule ⟨rfl, ?_⟩))
  refine wpS_turns (st := st) (LoJ a b) (F := a.toList ++ b.toList) (n' := x + 1 + 1) (fun y => x + 1 + 1) S1 J1 (fun _ j => j) ?_ (fun r d st' S p => wpS_pure ⟨S, .inl ⟨_, rfl, p⟩⟩) fun d st' S J => wpS_bind (wpS_min S fun st2 S2 => wpS_pure ⟨rfl, S2, .inr ⟨rfl, J⟩⟩)
  intro y d st1 S1 J1
  extract_lets z1 o' z2 i' z3 j' z4 g' z5 c1' c2' j1 jp mg
  have hjp : ∀ g, wpS M A E s (jp () g) (Sq st (a.toList ++ b.toList) (LoJ a b) (x + 1 + 1) (x + 1 + 1)) st1 := by
    intro g
    refine wpS_bind (wpS_min S1 fun st2 S2 => wpS_bind (wpS_elem (a := b) J1.2.2.1 fun v hv ev => wpS_bind (wpS_gallop L (S2.kind.trans hk) (hb v hv) ha (Nat.le_of_eq (Nat.add_sub_cancel' J1.1.hi)) (Nat.sub_pos_of_lt (Nat.lt_of_succ_lt J1.2.1)) fun k hk' => ?_)))
    dsimp (zeta := false) only
    extract_lets ac jp2 o2 i2
    have hjp2 : ∀ o i, JLo a b o i d.2.2.1 → i + 1 < a.size → x + 1 + 1 ≤ o.size → wpS M A E s (jp2 () o i) (Sq st (a.toList ++ b.toList) (LoJ a b) (x + 1 + 1) (x + 1 + 1)) st2 := by
      intro o i Jx hi n2
      refine wpS_bind (wpS_elem (a := b) J1.2.2.1 fun v hv ev => ?_)
      have J2 := Jx.pushB ev
      refine wpS_ite (fun _ => wpS_pure ⟨S2, .inl ⟨_, rfl, J2.done⟩⟩) fun e3 => ?_
      have e3 : d.2.2.1 + 1 < b.size := lt_of_ne J1.2.2.1 e3
      refine wpS_bind (wpS_elem (a := a) (Nat.lt_of_succ_lt hi) fun u hu eu => wpS_bind (wpS_gallop L (S2.kind.trans hk) (ha u hu) hb (Nat.le_of_eq (Nat.add_sub_cancel' J2.hj)) (Nat.sub_pos_of_lt e3) fun k2 hk2 => ?_))
      dsimp (zeta := false) only
      extract_lets bc i3 jp3 o3 j3
      have hjp3 : ∀ o j, JLo a b o i j → j < b.size → x + 1 + 1 ≤ o.size → wpS M A E s (jp3 () o j) (Sq st (a.toList ++ b.toList) (LoJ a b) (x + 1 + 1) (x + 1 + 1)) st2 := by
        intro o j Jy hj n3
        refine wpS_bind (wpS_elem (a := a) (Nat.lt_of_succ_lt hi) fun u hu eu => ?_)
        have J3 := Jy.pushA eu
        refine wpS_ite (fun _ => wpS_pure ⟨S2, .inl ⟨_, rfl, J3.last⟩⟩) fun e4 => ?_
        have hi' := lt_of_ne hi e4
        exact wpS_ite (fun _ => wpS_pure ⟨S2, .inr ⟨rfl, J3, hi', hj, le_push' n3⟩⟩) fun _ => wpS_pure ⟨rfl, S2, .inr ⟨rfl, J3, hi', hj, le_push' n3⟩⟩
      refine wpS_ite (fun _ => ?_) fun _ => hjp3 _ _ J2 e3 (le_push' n2)
      have J4 := J2.moreB (k := d.2.2.1 + 1 + k2) (Nat.le_add_right _ _) (Nat.add_le_of_le_sub' J2.hj hk2)
      exact wpS_ite (fun _ => wpS_pure ⟨S2, .inl ⟨_, rfl, J4.done⟩⟩) fun e4 => hjp3 _ _ J4 (lt_of_ne J4.hj e4) (le_more (le_push' n2))
    refine wpS_ite (fun _ => ?_) fun _ => hjp2 _ _ J1.1 J1.2.1 J1.2.2.2
    have J5 := J1.1.moreA (k := d.2.1 + k) (Nat.le_add_right _ _) (Nat.add_le_of_le_sub' J1.1.hi hk')
    exact wpS_ite (fun _ => wpS_pure ⟨S2, .inl ⟨_, rfl, J5.last⟩⟩) fun e4 => wpS_ite (fun _ => wpS_pure ⟨S2, .inl ⟨_, rfl, J5.done⟩⟩) fun e5 => hjp2 _ _ J5 (lt2_of_ne J5.hi e4 e5) (le_more J1.2.2.2)
  exact wpS_ite (fun _ => hjp _) fun _ => hjp _
end
end Mine
end

noncomputable section
set_option maxRecDepth 100000
set_option linter.unusedVariables false
namespace Mine
open PySem PySem.Calls PyProof.Rows PySem.W
section
variable {a b o : Array Keyed} {i j k n m : Nat} {x : Keyed} {γ : Type}
structure JHi (a b o : Array Keyed) (i j : Nat) : Prop where
  perm : o.toList.Perm (a.toList.drop i ++ b.toList.drop j)
  hi : i ≤ a.size
  hj : j ≤ b.size
theorem drop_ext (l : Array Keyed) {i k : Nat} (h : k ≤ i) : (l.toList.drop k).Perm (l.toList.drop i ++ ((l.extract k i).reverse).toList) := by
  rw [Array.toList_reverse, Array.toList_extract]
  refine .trans (.of_eq ?_) (List.perm_append_comm.trans (.append_left _ (List.reverse_perm _).symm))
  rw [show l.toList.drop i = (l.toList.drop k).drop (i - k) by rw [List.drop_drop, Nat.add_sub_cancel' h], List.take_append_drop]
theorem drop_one (l : Array Keyed) {i : Nat} (h : 1 ≤ i) (e : l[i - 1]? = some x) : (l.toList.drop (i - 1)).Perm (l.toList.drop i ++ [x]) := by
  have q := (Array.getElem?_eq_some_iff.mp e).1
  rw [List.drop_eq_getElem_cons (by rw [Array.length_toList]; exact q), Nat.sub_add_cancel h]
  refine .trans (.of_eq ?_) (List.perm_append_comm (l₁ := [x]))
  rw [Array.getElem_toList, (Array.getElem?_eq_some_iff.mp e).2]; rfl
theorem JHi.moreA (J : JHi a b o i j) (h : k ≤ i) : JHi a b (o ++ (a.extract k i).reverse) k j := ⟨mgA J.perm (drop_ext a h) Array.toList_append, Nat.le_trans h J.hi, J.hj⟩
theorem JHi.moreB (J : JHi a b o i j) (h : k ≤ j) : JHi a b (o ++ (b.extract k j).reverse) i k := ⟨mgB J.perm (drop_ext b h) Array.toList_append, J.hi, Nat.le_trans h J.hj⟩
theorem JHi.pushA (J : JHi a b o i j) (h : 1 ≤ i) (e : a[i - 1]? = some x) : JHi a b (o.push x) (i - 1) j := ⟨mgA J.perm (drop_one a h e) Array.toList_push, Nat.le_trans (Nat.sub_le _ _) J.hi, J.hj⟩
theorem JHi.pushB (J : JHi a b o i j) (h : 1 ≤ j) (e : b[j - 1]? = some x) : JHi a b (o.push x) i (j - 1) := ⟨mgB J.perm (drop_one b h e) Array.toList_push, J.hi, Nat.le_trans (Nat.sub_le _ _) J.hj⟩
theorem JHi.all (J : JHi a b o 0 0) : o.toList.Perm (a.toList ++ b.toList) := J.perm
theorem rev_perm {X Y : List Keyed} {o : Array Keyed} : (X ++ Y ++ o.reverse.toList).Perm (o.toList ++ X.reverse ++ Y.reverse) := by
  rw [Array.toList_reverse]
  refine (List.reverse_perm _).symm.trans ?_
  rw [List.reverse_append, List.reverse_append, List.reverse_reverse, ← List.append_assoc, List.append_assoc, List.append_assoc]
  exact .append_left _ List.perm_append_comm
theorem JHi.done (J : JHi a b o i j) : (a.extract 0 i ++ b.extract 0 j ++ o.reverse).toList.Perm (a.toList ++ b.toList) := by
  have q := ((J.moreA (Nat.zero_le _)).moreB (Nat.zero_le _)).all
  rw [Array.toList_append, Array.toList_append, Array.toList_reverse, Array.toList_reverse] at q
  rw [Array.toList_append, Array.toList_append]
  exact rev_perm.trans q
theorem JHi.first (J : JHi a b o i j) : (b.extract 0 j ++ a.extract 0 i ++ o.reverse).toList.Perm (a.toList ++ b.toList) := by
  have q := ((J.moreB (Nat.zero_le _)).moreA (Nat.zero_le _)).all
  rw [Array.toList_append, Array.toList_append, Array.toList_reverse, Array.toList_reverse] at q
  rw [Array.toList_append, Array.toList_append]
  exact rev_perm.trans q
theorem JHi.size (J : JHi a b o i j) : o.size = (a.size - i) + (b.size - j) := by
  have := J.perm.length_eq
  rwa [List.length_append, List.length_drop, List.length_drop, Array.length_toList, Array.length_toList, Array.length_toList] at this
noncomputable def HiJ (a b : Array Keyed) (n : Nat) (d : Nat × Nat × Array Keyed × γ) : Prop := JHi a b d.2.2.1 d.1 d.2.1 ∧ 1 ≤ d.1 ∧ 2 ≤ d.2.1 ∧ n ≤ d.2.2.1.size
theorem HiJ.le {d : Nat × Nat × Array Keyed × γ} (h : m ≤ n) (J : HiJ a b n d) : HiJ a b m d := ⟨J.1, J.2.1, J.2.2.1, Nat.le_trans h J.2.2.2⟩
theorem HiJ.lt {d : Nat × Nat × Array Keyed × γ} (J : HiJ a b (a.size + b.size + 1) d) : False := by obtain ⟨J, h1, h2, h3⟩ := J; rw [J.size] at h3; have := J.hi; omega
theorem pos_of {i : Nat} (e : ¬ (i == 0) = true) : 1 ≤ i := Nat.pos_of_ne_zero (ne_of_beq e)
theorem two_of {i : Nat} (h : 1 ≤ i) (e : ¬ (i == 1) = true) : 2 ≤ i := Nat.lt_of_le_of_ne h (ne_of_beq e).symm
end
section
variable {M : Model} {A : Around} {s : Shared} {k₀ : SortKind} {a₀ : Array Keyed} {p : Array (Nat × Nat × Nat)} {st st' : SortSt} {E : Value → Shared → Prop}
theorem wpS_mergeHi {a b : Array Keyed} {Q : Array Keyed → SortSt → Prop} (L : LtOk M A s k₀ a₀) (hk : kindOf st = k₀) (ha : ∀ x ∈ a.toList, x ∈ a₀.toList) (hb : ∀ x ∈ b.toList, x ∈ a₀.toList) (h1 : 1 ≤ a.size) (h2 : 1 ≤ b.size)
    (h : ∀ out st', Same st st' → out.toList.Perm (a.toList ++ b.toList) → Q out st') : wpS M A E s (mergeHi' a b) Q st := by
  refine wpS_bind (wpS_lift (wpAny_rule ⟨rfl, ?_⟩))
  refine wpS_bind (wpS_elem (a := a) (i := a.size - 1) (Nat.sub_one_lt_of_lt h1) fun x hx ex => ?_)
  have J0 : JHi a b #[x] (a.size - 1) b.size := JHi.pushA (o := #[]) (i := a.size) ⟨by rw [← Array.length_toList, List.drop_length, ← Array.length_toList, List.drop_length]; exact .refl _, Nat.le_refl _, Nat.le_refl _⟩ h1 ex
  refine wpS_ite (fun _ => wpS_pure (h _ _ (.refl _) J0.done)) fun e1 => ?_
  refine wpS_ite (fun _ => wpS_pure (h _ _ (.refl _) J0.first)) fun e2 => ?_
  refine wpS_bind (wpS_get ?_)
  refine wpS_turns (HiJ a b) (F := a.toList ++ b.toList) (fun x => x + 1) (.refl _) ⟨J0, pos_of e1, two_of h2 e2, Nat.le_refl _⟩ (fun _ j => j) ?_ (fun r d st' S p => wpS_pure (h _ _ S p)) fun d st' S J => J.lt.elim
  intro x d st1 S1 J1
  refine wpS_turns (st := st) (HiJ a b) (F := a.toList ++ b.toList) (n' := x + 1 + 1) (fun y => x + 1 + y) S1 J1 (fun _ j => j.le (Nat.add_le_add_left (Nat.le_add_right_of_le h1) _)) ?_ (fun r d st' S p => wpS_pure ⟨S, .inl ⟨_, rfl, p⟩⟩) ?_
  · intro y d st1 S1 J1
    obtain ⟨J1, hi, hj, n1⟩ := J1
    have hb1 : d.2.1 - 1 < b.size := Nat.lt_of_lt_of_le (Nat.sub_one_lt_of_lt hj) J1.hj
    have ha1 : d.1 - 1 < a.size := Nat.lt_of_lt_of_le (Nat.sub_one_lt_of_lt hi) J1.hi
    refine wpS_bind (wpS_elem (a := b) hb1 fun v hv ev => wpS_bind (wpS_elem (a := a) ha1 fun u hu eu => ?_))
    refine wpS_bind (wpS_ltB L (S1.kind.trans hk) (hb v hv) (ha u hu) ?_ ?_)
    · refine wpS_bind (wpS_elem (a := a) ha1 fun u hu eu => ?_)
      have J2 := J1.pushA hi eu
      refine wpS_ite (fun _ => wpS_pure ⟨S1, .inl ⟨_, rfl, J2.done⟩⟩) fun e3 => ?_
      have hi' := pos_of e3
      exact wpS_ite (fun _ => wpS_pure ⟨S1, .inr ⟨rfl, J2, hi', hj, le_push (Nat.le_of_add_right_le n1)⟩⟩) fun _ => wpS_pure ⟨rfl, S1, .inr ⟨rfl, J2, hi', hj, le_push n1⟩⟩
    · refine wpS_bind (wpS_elem (a := b) hb1 fun v hv ev => ?_)
      have J2 := J1.pushB (Nat.le_of_succ_le hj) ev
      refine wpS_ite (fun _ => wpS_pure ⟨S1, .inl ⟨_, rfl, J2.first⟩⟩) fun e3 => ?_
      have hj' := two_of (Nat.le_sub_one_of_lt hj) e3
      exact wpS_ite (fun _ => wpS_pure ⟨S1, .inr ⟨rfl, J2, hi, hj', le_push (Nat.le_of_add_right_le n1)⟩⟩) fun _ => wpS_pure ⟨rfl, S1, .inr ⟨rfl, J2, hi, hj', le_push n1⟩⟩
  intro d st1 S1 J1
  refine wpS_bind (wpS_lift (wpAny_rule ⟨rfl, ?_⟩))
  refine wpS_turns (st := st) (HiJ a b) (F := a.toList ++ b.toList) (n' := x + 1 + 1) (fun y => x + 1 + 1) S1 J1 (fun _ j => j) ?_ (fun r d st' S p => wpS_pure ⟨S, .inl ⟨_, rfl, p⟩⟩) fun d st' S J => wpS_bind (wpS_min S fun st2 S2 => wpS_pure ⟨rfl, S2, .inr ⟨rfl, J⟩⟩)
  intro y d st1 S1 J1
  extract_lets z1 i' z2 j' z3 o' z4 g' z5 c1' c2' j1 jp mg
  have hjp : ∀ g, wpS M A E s (jp () g) (Sq st (a.toList ++ b.toList) (HiJ a b) (x + 1 + 1) (x + 1 + 1)) st1 := by
    intro g
    have hb1 : d.2.1 - 1 < b.size := Nat.lt_of_lt_of_le (Nat.sub_one_lt_of_lt J1.2.2.1) J1.1.hj
    refine wpS_bind (wpS_min S1 fun st2 S2 => wpS_bind (wpS_elem (a := b) hb1 fun v hv ev => wpS_bind (wpS_gallop L (S2.kind.trans hk) (hb v hv) ha (Nat.le_trans (Nat.le_of_eq (Nat.zero_add _)) J1.1.hi) (Nat.sub_one_lt_of_lt J1.2.1) fun k hk' => ?_)))
    dsimp (zeta := false) only
    extract_lets kk ac jp2 o2 i2
    have hjp2 : ∀ i o, JHi a b o i d.2.1 → 1 ≤ i → x + 1 + 1 ≤ o.size → wpS M A E s (jp2 () i o) (Sq st (a.toList ++ b.toList) (HiJ a b) (x + 1 + 1) (x + 1 + 1)) st2 := by
      intro i o Jx hi n2
      have ha1 : i - 1 < a.size := Nat.lt_of_lt_of_le (Nat.sub_one_lt_of_lt hi) Jx.hi
      refine wpS_bind (wpS_elem (a := b) hb1 fun v hv ev => ?_)
      have J2 := Jx.pushB (Nat.le_of_succ_le J1.2.2.1) ev
      refine wpS_ite (fun _ => wpS_pure ⟨S2, .inl ⟨_, rfl, J2.first⟩⟩) fun e3 => ?_
      have e3 : 2 ≤ d.2.1 - 1 := two_of (Nat.le_sub_one_of_lt J1.2.2.1) e3
      refine wpS_bind (wpS_elem (a := a) ha1 fun u hu eu => wpS_bind (wpS_gallop L (S2.kind.trans hk) (ha u hu) hb (Nat.le_trans (Nat.le_of_eq (Nat.zero_add _)) J2.hj) (Nat.sub_one_lt_of_lt e3) fun k2 hk2 => ?_))
      dsimp (zeta := false) only
      extract_lets kk2 bc i3 jp3 o3 j3
      have hjp3 : ∀ j o, JHi a b o i j → 2 ≤ j → x + 1 + 1 ≤ o.size → wpS M A E s (jp3 () j o) (Sq st (a.toList ++ b.toList) (HiJ a b) (x + 1 + 1) (x + 1 + 1)) st2 := by
        intro j o Jy hj n3
        refine wpS_bind (wpS_elem (a := a) ha1 fun u hu eu => ?_)
        have J3 := Jy.pushA hi eu
        refine wpS_ite (fun _ => wpS_pure ⟨S2, .inl ⟨_, rfl, J3.done⟩⟩) fun e4 => ?_
        have hi' := pos_of e4
        exact wpS_ite (fun _ => wpS_pure ⟨S2, .inr ⟨rfl, J3, hi', hj, le_push' n3⟩⟩) fun _ => wpS_pure ⟨rfl, S2, .inr ⟨rfl, J3, hi', hj, le_push' n3⟩⟩
      refine wpS_ite (fun _ => ?_) fun _ => hjp3 _ _ J2 e3 (le_push' n2)
      have J4 := J2.moreB hk2
      exact wpS_ite (fun _ => wpS_pure ⟨S2, .inl ⟨_, rfl, J4.first⟩⟩) fun e4 => wpS_ite (fun _ => wpS_pure ⟨S2, .inl ⟨_, rfl, J4.done⟩⟩) fun e5 => hjp3 _ _ J4 (two_of (pos_of e5) e4) (le_more (le_push' n2))
    refine wpS_ite (fun _ => ?_) fun _ => hjp2 _ _ J1.1 J1.2.1 J1.2.2.2
    have J5 := J1.1.moreA hk'
    exact wpS_ite (fun _ => wpS_pure ⟨S2, .inl ⟨_, rfl, J5.done⟩⟩) fun e4 => hjp2 _ _ J5 (pos_of e4) (le_more J1.2.2.2)
  exact wpS_ite (fun _ => hjp _) fun _ => hjp _
end
end Mine
end

noncomputable section
set_option maxRecDepth 100000
set_option linter.unusedVariables false
namespace Mine
open PySem PySem.Calls PyProof.Rows PySem.W
section
variable {M : Model} {A : Around} {s : Shared} {k₀ : SortKind} {a₀ : Array Keyed} {p : Array (Nat × Nat × Nat)} {st st' : SortSt} {E : Value → Shared → Prop}
theorem wpS_set {σ : Type} {x y : σ} {Q : PUnit → σ → Prop} (h : Q ⟨⟩ x) : wpS M A E s (set x : StateT σ Sem PUnit) Q y := by
  unfold wpS; rw [StateT.run_set]; exact wpAny_pure ⟨rfl, h⟩
theorem back_eq (sa : Nat) : ∀ (m : List Keyed) (k : Nat) (a : Array Keyed), sa + k + m.length ≤ a.size → ((m.zipIdx k).foldl (fun a (p, j) => a.setIfInBounds (sa + j) p) a).toList = a.toList.take (sa + k) ++ m ++ a.toList.drop (sa + k + m.length)
  | [], k, a, _ => by simp
  | x :: m, k, a, h => by
    rw [List.length_cons] at h
    rw [List.zipIdx_cons, List.foldl_cons]
    show (List.foldl _ (a.setIfInBounds (sa + k) x) _).toList = _
    rw [back_eq sa m (k + 1) _ (by rw [Array.size_setIfInBounds]; omega), Array.toList_setIfInBounds, List.length_cons, ← Nat.add_assoc, List.take_add_one, List.take_set_of_le (Nat.le_refl _), List.getElem?_set_self (by rw [Array.length_toList]; omega), List.drop_set_of_lt (by omega), List.append_assoc, List.append_assoc, List.append_assoc, show sa + k + 1 + m.length = sa + k + (m.length + 1) by omega]
    rfl
theorem back_perm {a : Array Keyed} {i j k : Nat} {m : Array Keyed} (h1 : i ≤ j) (h2 : j ≤ k) (h3 : k ≤ a.size) (h : m.toList.Perm ((a.extract i j).toList ++ (a.extract j k).toList)) : (m.toList.zipIdx.foldl (fun a (p, j) => a.setIfInBounds (i + j) p) a).Perm a := by
  have e : (a.extract i j).toList ++ (a.extract j k).toList = (a.toList.drop i).take (k - i) := by
    rw [Array.toList_extract, Array.toList_extract, show k - i = (j - i) + (k - j) by omega, List.take_add, List.drop_drop, Nat.add_sub_cancel' h1]
  rw [e] at h
  have l := h.length_eq
  rw [List.length_take, List.length_drop, Array.length_toList (xs := a)] at l
  rw [Array.perm_iff_toList_perm, back_eq i m.toList 0 a (by omega), Nat.add_zero]
  refine ((h.append_left _).append_right _).trans (.of_eq ?_)
  rw [List.append_assoc, show a.toList.drop (i + m.toList.length) = (a.toList.drop i).drop (k - i) by rw [List.drop_drop]; congr 1; omega, List.take_append_drop, List.take_append_drop]
theorem mem_extract {a : Array Keyed} {i j : Nat} {x : Keyed} (h : x ∈ (a.extract i j).toList) : x ∈ a.toList := by
  rw [Array.toList_extract] at h
  exact List.mem_of_mem_drop (List.mem_of_mem_take h)
theorem wpS_mergeAt {n0 n1 p0 p1 g : Nat} {xs : Array Keyed} {Q : Bool → SortSt → Prop} (L : LtOk M A s k₀ a₀) (hp : xs.Perm a₀) (h0 : 1 ≤ n0) (h1 : 1 ≤ n1) (hn : n0 + n1 = xs.size)
    (h : ∀ st', SI k₀ a₀ #[(0, n0 + n1, p0)] st' → Q true st') : wpS M A E s (mergeAt' 0) Q (SortSt.mk' k₀ xs #[(0, n0, p0), (n0, n1, p1)] g none) := by
  have mem : ∀ x ∈ xs.toList, x ∈ a₀.toList := fun x hx => (Array.perm_iff_toList_perm.mp hp).mem_iff.mp hx
  have I0 : SI k₀ a₀ #[(0, n0 + n1, p0)] (SortSt.mk' k₀ xs #[(0, n0 + n1, p0)] g none) := ⟨hp, rfl, rfl, rfl⟩
  refine wpS_bind (wpS_get ?_)
  refine wpS_bind (wpS_set ?_)
  generalize hP : Array.eraseIdxIfInBounds _ _ = P
  have hP : P = #[(0, n0 + n1, p0)] := by rw [← hP]; simp
  subst hP
  refine wpS_bind (wpS_elem (a := xs) (i := n0) (by omega) fun v hv ev => wpS_bind (wpS_gallop L rfl (mem v hv) mem (show 0 + n0 ≤ xs.size by omega) h0 fun k hk => ?_))
  refine wpS_ite (fun _ => wpS_pure (h _ I0)) fun e1 => ?_
  have e1 : 1 ≤ n0 - k := pos_of e1
  refine wpS_bind (wpS_elem (a := xs) (i := 0 + k + (n0 - k) - 1) (by omega) fun u hu eu => wpS_bind (wpS_gallop L rfl (mem u hu) mem (show n0 + n1 ≤ xs.size by omega) (Nat.sub_one_lt_of_lt h1) fun m hm => ?_))
  refine wpS_ite (fun _ => wpS_pure (h _ I0)) fun e2 => ?_
  have e2 : 1 ≤ m := pos_of e2
  have fin : ∀ (out : Array Keyed) (st' : SortSt), Same (SortSt.mk' k₀ xs #[(0, n0 + n1, p0)] g none) st' → out.toList.Perm ((xs.extract (0 + k) n0).toList ++ (xs.extract n0 (n0 + m)).toList) → SI k₀ a₀ #[(0, n0 + n1, p0)] (setArr st' (out.toList.zipIdx.foldl (fun a (p, j) => a.setIfInBounds (0 + k + j) p) (arrOf st'))) := fun out st' S P =>
    ⟨by rw [S.arr]; exact (back_perm (by omega) (by omega) (show n0 + m ≤ xs.size by omega) P).trans hp, S.kind, S.failed, S.pend⟩
  have hx1 : 1 ≤ (xs.extract (0 + k) n0).size := by rw [Array.size_extract]; omega
  have hx2 : 1 ≤ (xs.extract n0 (n0 + m)).size := by rw [Array.size_extract]; omega
  extract_lets X Y jp
  have hjp : ∀ (out : Array Keyed) (st' : SortSt), Same (SortSt.mk' k₀ xs #[(0, n0 + n1, p0)] g none) st' → out.toList.Perm ((xs.extract (0 + k) n0).toList ++ (xs.extract n0 (n0 + m)).toList) → wpS M A E s (jp out) Q st' := fun out st' S P => by
    have I := fin out st' S P
    refine wpS_bind (wpS_modify (wpS_bind (wpS_get (wpS_pure ?_))))
    show Q (failedOf (setArr st' (out.toList.zipIdx.foldl (fun a (p, j) => a.setIfInBounds (0 + k + j) p) (arrOf st')))).isNone (setArr st' (out.toList.zipIdx.foldl (fun a (p, j) => a.setIfInBounds (0 + k + j) p) (arrOf st')))
    rw [I.failed]
    exact h _ I
  exact wpS_ite (fun _ => wpS_bind (wpS_mergeLo L rfl (fun x hx => mem x (mem_extract hx)) (fun x hx => mem x (mem_extract hx)) hx1 hx2 hjp)) fun _ => wpS_bind (wpS_mergeHi L rfl (fun x hx => mem x (mem_extract hx)) (fun x hx => mem x (mem_extract hx)) hx1 hx2 hjp)
theorem SI.out (I : SI k₀ a₀ p st) : ∃ xs g, st = SortSt.mk' k₀ xs p g none ∧ xs.Perm a₀ := by
  obtain ⟨hp, hk, hf, hd⟩ := I
  cases st
  cases hk; cases hf; cases hd
  exact ⟨_, _, rfl, hp⟩
theorem minRun_ok {n : Nat} (h2 : 2 ≤ n) (h : n < 128) : minRun' n n 0 ≤ n ∧ n ≤ 2 * minRun' n n 0 := by
  obtain ⟨f, rfl⟩ : ∃ f, n = f + 2 := ⟨n - 2, by omega⟩
  rw [minRun'_succ]
  by_cases q : f + 2 < 64
  · rw [if_pos q]; omega
  · rw [if_neg q, minRun'_succ, if_pos (by omega)]; omega
noncomputable def Runs (a₀ : Array Keyed) (mr x lo : Nat) (p : Array (Nat × Nat × Nat)) : Prop :=
  (lo = 0 ∧ p = #[] ∧ x = 0) ∨ (mr ≤ lo ∧ 1 ≤ lo ∧ lo < a₀.size ∧ p = #[(0, lo, 0)] ∧ x = 1) ∨ (lo = a₀.size ∧ (p.size ≤ 1 ∨ ∃ n0 n1 pw, 1 ≤ n0 ∧ 1 ≤ n1 ∧ n0 + n1 = a₀.size ∧ p = #[(0, n0, pw), (n0, n1, 0)]))
theorem wpS_sortRunsP {Q : Unit → SortSt → Prop} (L : LtOk M A s k₀ a₀) (I : SI k₀ a₀ #[] st) (h2 : 2 ≤ a₀.size) (h128 : a₀.size < 128) (h : ∀ st', (arrOf st').Perm a₀ → failedOf st' = none → Q () st') : wpS M A E s sortRuns' Q st := by
  refine wpS_bind (wpS_get ?_)
  extract_lets size mr lo
  have hs : size = a₀.size := I.size
  have hm : mr ≤ size ∧ size ≤ 2 * mr := minRun_ok (hs ▸ h2) (hs ▸ h128)
  clear_value mr size
  subst hs
  refine wpS_bind (wpS_mono (wpS_forRange (I := fun x c st' => ∃ lo p, c = (none, lo) ∧ SI k₀ a₀ p st' ∧ Runs a₀ mr x lo p) (Q := fun c st' => ∃ p, c = (none, a₀.size) ∧ SI k₀ a₀ p st' ∧ Runs a₀ mr 2 a₀.size p) ?_ ?_ ⟨0, #[], rfl, I, .inl ⟨rfl, rfl, rfl⟩⟩) ?_)
  · rintro x c st' _ hx ⟨lo, p, rfl, I', R⟩
    refine wpS_ite (fun hl => wpS_pure ?_) fun hl => ?_
    · have hl : lo ≥ a₀.size := hl
      rcases R with ⟨rfl, _, _⟩ | ⟨_, _, q, _⟩ | ⟨rfl, q⟩
      · omega
      · omega
      · exact ⟨p, rfl, I', .inr (.inr ⟨rfl, q⟩)⟩
    have hl : ¬ lo ≥ a₀.size := hl
    refine wpS_bind (wpS_countRunP L (show lo + (a₀.size - lo) ≤ a₀.size by omega) (show 1 ≤ a₀.size - lo by omega) I' fun m st1 I1 hm1 hm2 => ?_)
    dsimp (zeta := false) only
    extract_lets n jp force n'
    have hjp : ∀ n st1, SI k₀ a₀ p st1 → 1 ≤ n → min (a₀.size - lo) mr ≤ n → n ≤ a₀.size - lo → wpS M A E s (jp () n) (fun r st' => match r with | .done c' => ∃ p, c' = (none, a₀.size) ∧ SI k₀ a₀ p st' ∧ Runs a₀ mr 2 a₀.size p | .yield c' => ∃ lo p, c' = (none, lo) ∧ SI k₀ a₀ p st' ∧ Runs a₀ mr (x + 1) lo p) st1 := by
      intro n st1 I1 hn1 hn2 hn3
      obtain ⟨xs, g, rfl, hp⟩ := I1.out
      refine wpS_bind (wpS_get ?_)
      rcases R with ⟨rfl, rfl, rfl⟩ | ⟨q1, q0, q2, rfl, rfl⟩ | ⟨rfl, q⟩
      · refine wpS_bind (wpS_modify (wpS_pure ⟨0 + n, #[(0, n, 0)], rfl, ⟨hp, rfl, rfl, rfl⟩, ?_⟩))
        by_cases e : n = a₀.size
        · exact .inr (.inr ⟨by omega, .inl (Nat.le_refl 1)⟩)
        · refine .inr (.inl ⟨by omega, by omega, by omega, by rw [Nat.zero_add], rfl⟩)
      · refine wpS_bind (wpS_forRange (I := fun _ c st'' => st'' = SortSt.mk' k₀ xs #[(0, lo, 0)] g none ∧ c = (none, ())) ?_ ?_ ⟨rfl, rfl⟩)
        · rintro y c st'' _ _ ⟨rfl, rfl⟩
          refine wpS_bind (wpS_get ?_)
          refine wpS_pure ?_
          refine wpS_bind (wpS_modify (wpS_bind (wpS_modify (wpS_pure ⟨lo + n, _, rfl, ⟨hp, rfl, rfl, rfl⟩, .inr (.inr ⟨by omega, .inr ⟨lo, n, _, q0, hn1, by omega, rfl⟩⟩)⟩))))
        · rintro c st'' ⟨rfl, rfl⟩
          refine wpS_bind (wpS_modify (wpS_bind (wpS_modify (wpS_pure ⟨lo + n, _, rfl, ⟨hp, rfl, rfl, rfl⟩, .inr (.inr ⟨by omega, .inr ⟨lo, n, _, q0, hn1, by omega, rfl⟩⟩)⟩))))
      · omega
    refine wpS_mono (wpS_ite (fun q => ?_) fun q => hjp n st1 I1 hm1 (show _ ≤ m by have q : ¬ m < mr := q; omega) hm2) fun r _ q => by cases r <;> exact q
    refine wpS_bind (wpS_lift (wpAny_rule ⟨rfl, ?_⟩))
    refine wpS_bind (wpS_binarySortP L (show lo + min (a₀.size - lo) mr ≤ a₀.size by omega) I1 fun st2 I2 => ?_)
    exact hjp _ st2 I2 (show 1 ≤ min (a₀.size - lo) mr by omega) (Nat.le_refl _) (Nat.min_le_left _ _)
  · rintro c st' ⟨lo, p, rfl, I', R⟩
    rcases R with ⟨_, _, q⟩ | ⟨_, _, _, _, q⟩ | ⟨rfl, q⟩
    · omega
    · omega
    · exact ⟨p, rfl, I', .inr (.inr ⟨rfl, q⟩)⟩
  · rintro c st' ⟨p, rfl, I', R⟩
    refine wpS_bind (wpS_forRange (I := fun _ c st'' => c = (none, ()) ∧ ∃ p, SI k₀ a₀ p st'' ∧ (p.size ≤ 1 ∨ ∃ n0 n1 pw, 1 ≤ n0 ∧ 1 ≤ n1 ∧ n0 + n1 = a₀.size ∧ p = #[(0, n0, pw), (n0, n1, 0)])) ?_ ?_ ⟨rfl, p, I', ?_⟩)
    · rintro y c st1 _ _ ⟨rfl, p, I1, q⟩
      obtain ⟨xs, g, rfl, hp⟩ := I1.out
      refine wpS_bind (wpS_get ?_)
      refine wpS_ite (fun _ => wpS_pure (wpS_pure (h _ hp rfl))) fun q' => ?_
      rcases q with q | ⟨n0, n1, pw, q0, q1, qs, rfl⟩
      · exact absurd q q'
      · exact wpS_bind (wpS_mergeAt L hp q0 q1 (qs.trans hp.size_eq.symm) fun st2 I2 => wpS_pure ⟨rfl, _, I2, .inl (Nat.le_refl 1)⟩)
    · rintro c st1 ⟨rfl, p, I1, q⟩
      exact wpS_pure (h _ I1.perm I1.failed)
    · rcases R with ⟨_, _, q⟩ | ⟨_, _, _, _, q⟩ | ⟨_, q⟩
      · cases q
      · cases q
      · exact q
end
end Mine
end

noncomputable section
set_option maxRecDepth 100000
set_option linter.unusedVariables false
namespace Mine
open PySem PySem.Calls PyProof.Rows PySem.W

theorem set_len : typeLookup (.type "set") "__len__" = pure (some (.builtin "set.__len__")) := by rw [typeLookup_type, builtinLookup_eq_fast]; kernel_rfl
section
variable {prog : Program} {w : World} {A : Around} {E : Value → Shared → Prop} {s : Shared} {S : Addr} {es : Array (Int × Value)} {L : Bool}
theorem hint_set {Q : Bool → Shared → Prop} (hT : s.TypeIs (.ref S) "set") (h : Q false s) : wpAny (model prog w) A (Builtin.List.listLengthHint (.ref S)) Q E s := by
  unfold Builtin.List.listLengthHint
  refine wpAny_bind (wpAny_specialOf hT set_len ?_)
  wp_delta
  refine wpAny_bind (wpAny_isInstance hT sub_set_self ?_)
  show wpAny _ A (typeOf (Value.ref S) >>= _) _ _ _
  exact wpAny_bind (wpAny_typeOf hT (wpAny_pure h))
theorem collect_set {Q : List Value → Shared → Prop} (hh : A.handled = none) (hL : L = !w.params.followText "set-order") (T : TS s.heap S es L)
    (h : ∀ (out : List Value) h' d tk, out.Perm (es.toList.map (·.2)) → Keeps s.heap h' → Q out { s with heap := h', drawn := d, toks := tk }) : wpAny (model prog w) A (collect (.ref S)) Q E s := by
  have hn : es.size ≤ sizeLine := by
    obtain ⟨o, ep, t, ho, hex, hd, T, hr, hl, hp⟩ := T
    refine Nat.le_trans (show es.size ≤ 511 from ?_) (by decide)
    rcases T.msk with q | q | q | q <;> omega
  have T0 := T
  obtain ⟨o, ep, t, ho, hex, hd, _⟩ := T
  have hT : ∀ s' : Shared, s'.heap.get? S = some o → s'.TypeIs (.ref S) "set" := fun s' e => ⟨o, e, hex.1⟩
  have hSI : s.heap.objs.size ≠ S := (ne_size ho).symm
  unfold collect
  refine wpAny_bind (wpAny_runValue (codeAny_builtin PySem.F.entry_proto_collect ?_))
  rw [Around.under_plainId PySem.F.plain_proto_collect _]
  show wpAny _ A.in1 (newList [] >>= fun l => again (.builtin "list.__iadd__" ⟨[l, .ref S], []⟩)) _ _ s
  refine wpAny_bind (wpAny_newObj_type ?_)
  refine wpAny_pure ⟨plainId_quiet PySem.F.plain_list_iadd _, codeAny_builtin PySem.F.entry_list_iadd ?_⟩
  rw [Around.under_plainId PySem.F.plain_list_iadd _]
  show wpAny _ A.in1 (Builtin.List.listExtendWith (.ref s.heap.objs.size) (.ref S) (.ref s.heap.objs.size)) _ _ _
  have k1 := keeps_push s.heap { cls := .type "list", data := .seq ([] : List Value).toArray }
  refine extend_any (R := wants _ E) (C := fun out => out.Perm (es.toList.map (·.2))) (s := { s with heap := s.heap.push { cls := .type "list", data := .seq ([] : List Value).toArray } }) hh (Heap.get?_push_size _ rfl) hSI (.inl rfl) (hT _ (k1 _ _ ho)) (fun s' Q E k hq => hint_set (hT _ (k _ _ (k1 _ _ ho))) hq) (fun Q E hQ => ?_) fun out h' d tk c' hC k hD => ?_
  · refine iter_set hL (s := { s with heap := s.heap.push { cls := .type "list", data := .seq ([] : List Value).toArray } }) (show TS _ S es L from ?_) fun ord I fp wr St h' d py k2 hw hf W hst => ?_
    · obtain ⟨o, ep, t, ho, q⟩ := T0; exact ⟨o, ep, t, k1 _ _ ho, q⟩
    have hl : ord.length = es.size := by rw [py.length_eq, List.length_map, Array.length_toList]
    exact hQ ord I fp wr St h' d py (hl ▸ hn) k2 hw (fun q => (hf _ q).elim (fun e => by rw [Heap.get?_push_size _ rfl] at e; cases e) hSI) (hl ▸ W A.in1 hh) hst
  · show wpAny _ A (load s.heap.objs.size >>= _) _ _ _
    refine wpAny_bind (wpAny_load hD ?_)
    exact wpAny_pure (h out h' d tk hC fun b ob e => k b ob (ne_size e) (k1 _ _ e))
end
end Mine
end

noncomputable section
set_option maxRecDepth 100000
set_option linter.unusedVariables false
namespace Mine
open PySem PySem.Calls PyProof.Rows PySem.W

noncomputable abbrev tuples' : Bool → SortKind := sortPriv% PySem.Builtin.KeyKind.tuples
section
variable {prog : Program} {w : World} {A : Around} {E : Value → Shared → Prop} {s : Shared}
theorem one_lt {b : Bool} {p q : Value} {k m : Sc} {Q : Bool → Shared → Prop} (hp : scIs k p = true) (hq : scIs m q = true) (hk : (k.isLeft == m.isLeft) = true) (h : ∀ r, Q r s) : wpAny (model prog w) A (oneLt' b p q) Q E s :=
  scIs_elim (C := fun k p => (k.isLeft == m.isLeft) = true → wpAny (model prog w) A (oneLt' b p q) Q E s) hp
    (fun i t hk => scIs_elim (C := fun m q => (true == m.isLeft) = true → wpAny (model prog w) A (oneLt' b (.int i t) q) Q E s) hq (fun j u _ => by
        cases b
        · rw [oneLt'_eq]; exact wpAny_bind (P.lt_int (wpAny_truthy_bool (h _)))
        · exact oneLt_int (h _)) (fun _ _ hk => nomatch hk) hk)
    (fun x t hk => scIs_elim (C := fun m q => (false == m.isLeft) = true → wpAny (model prog w) A (oneLt' b (.str x t) q) Q E s) hq (fun _ _ hk => nomatch hk) (fun y u _ => by
        cases b
        · rw [oneLt'_eq]; exact wpAny_bind (lt_str (wpAny_truthy_bool (h _)))
        · exact oneLt_str (h _)) hk) hk
theorem key_lt {b : Bool} {ks ms : List Sc} {c c' : Addr} {Q : Bool → Shared → Prop} (hc : IsTupleKey (scKind prog w) s.heap ks c) (hc' : IsTupleKey (scKind prog w) s.heap ms c') (hk : ltK ks ms = true) (h : ∀ r, Q r s) : wpAny (model prog w) A (keyLt' (tuples' b) (.ref c) (.ref c')) Q E s := by
  obtain ⟨o, items, n, ho, _, hd, hi⟩ := hc
  obtain ⟨o', items', n', ho', _, hd', hi'⟩ := hc'
  refine wpAny_bind (listItems_at ho hd ?_)
  refine wpAny_bind (listItems_at ho' hd' ?_)
  refine wpAny_bind (wpAny_forIn_list _ (fun rest r s' => r.1 = none ∧ s' = s ∧ ∃ ks ms vs us j, rest = (vs.zip us).zipIdx j ∧ ItemsAre (scKind prog w) ks vs ∧ ItemsAre (scKind prog w) ms us ∧ ltK ks ms = true) _ ?_ ?_ _ _ ⟨rfl, rfl, ks, ms, items.toList, items'.toList, 0, rfl, hi, hi', hk⟩)
  · rintro v rest r s' ⟨hr, rfl, ks, ms, vs, us, j, e, hv, hu, hk⟩
    cases hv with
    | nil => cases e
    | cons h1 hv =>
      cases hu with
      | nil => cases e
      | cons h2 hu =>
        cases e
        refine wpAny_bind ((scKind prog w).eqBool h1 h2 ?_)
        rename_i k p ks vs m q ms us
        unfold ltK at hk
        by_cases e : k = m
        · rw [decide_eq_true e]
          rw [if_pos e] at hk
          exact wpAny_pure ⟨rfl, rfl, ks, ms, vs, us, j + 1, rfl, hv, hu, hk⟩
        · rw [decide_eq_false e]
          rw [if_neg e] at hk
          exact wpAny_bind (one_lt h1 h2 hk fun r => wpAny_pure (wpAny_pure (h _)))
  · rintro ⟨r1, r2⟩ s' ⟨hr, rfl, _⟩
    cases hr
    exact wpAny_pure (h _)
theorem mapM_ok {α β : Type} {M : Model} {f : α → Sem β} {C : β → Prop} : ∀ {l : List α} {Q : List β → Shared → Prop}, (∀ a ∈ l, ∀ Q : β → Shared → Prop, (∀ b, C b → Q b s) → wpAny M A (f a) Q E s) → (∀ bs, (∀ b ∈ bs, C b) → Q bs s) → wpAny M A (l.mapM f) Q E s
  | [], Q, _, h => by rw [List.mapM_nil]; exact wpAny_pure (h [] fun _ q => nomatch q)
  | a :: l, Q, hf, h => by
    rw [List.mapM_cons]
    refine wpAny_bind (hf a (.head _) _ fun b hb => wpAny_bind (mapM_ok (fun a q => hf a (.tail _ q)) fun bs hbs => wpAny_pure (h _ fun b' q => ?_)))
    rcases List.mem_cons.mp q with rfl | q
    · exact hb
    · exact hbs _ q
theorem arr_mapM {α β : Type} {M : Model} {f : α → Sem β} {C : β → Prop} {xs : Array α} {Q : Array β → Shared → Prop} (hf : ∀ a ∈ xs.toList, ∀ Q : β → Shared → Prop, (∀ b, C b → Q b s) → wpAny M A (f a) Q E s) (h : ∀ bs, (∀ b ∈ bs.toList, C b) → Q bs s) : wpAny M A (xs.mapM f) Q E s := by
  rw [Array.mapM_eq_mapM_toList]
  exact wpAny_bind (mapM_ok hf fun bs hb => wpAny_pure (h _ hb))
theorem key_kind {vs : Array Value} {Q : SortKind → Shared → Prop} (hv : ∀ v ∈ vs.toList, ∃ c x ks, v = .ref c ∧ IsTupleKey (scKind prog w) s.heap (.inr x :: ks) c) (h : ∀ b, Q (tuples' b) s) : wpAny (model prog w) A (keyKind' vs) Q E s := by
  refine wpAny_bind (arr_mapM (C := fun r => ∃ x t, r = some (.str x t)) (fun v m Q hQ => ?_) fun fs hfs => ?_)
  · obtain ⟨c, x, ks, rfl, k⟩ := hv v m
    have hT := k.typeIs
    obtain ⟨o, items, n, ho, _, hd, hi⟩ := k
    refine wpAny_bind (wpAny_typeOf hT ?_)
    refine wpAny_bind (listItems_at ho hd (wpAny_pure (hQ _ ?_)))
    obtain ⟨l⟩ := items
    cases hi with
    | cons hx _ => obtain ⟨t, rfl⟩ := Value.isStrOf_shape hx; exact ⟨x, t, rfl⟩
  · have ha : fs.all (·.isSome) = true := by
      rw [← Array.all_toList, List.all_eq_true]; intro f m; obtain ⟨x, t, rfl⟩ := hfs f m; rfl
    rw [if_pos ha]
    refine wpAny_bind (wpAny_rule ?_)
    refine wpAny_bind (wpAny_bind (arr_mapM (C := fun _ => True) (fun v m Q hQ => ?_) fun ts _ => ?_))
    · rw [Array.toList_filterMap] at m
      obtain ⟨f, mf, e⟩ := List.mem_filterMap.mp m
      obtain ⟨x, t, rfl⟩ := hfs f mf
      cases e
      exact wpAny_typeOf (typeIs_str s x t) (hQ _ trivial)
    · split
      · exact wpAny_pure (wpAny_pure (h _))
      · exact wpAny_pure (wpAny_pure (h _))
end
end Mine
end

noncomputable section
set_option maxRecDepth 100000
set_option linter.unusedVariables false
namespace Mine
open PySem PySem.Calls PyProof.Rows PySem.W

section
variable {prog : Program} {w : World} {A : Around} {E : Value → Shared → Prop} {s : Shared}
structure Ordered (prog : Program) (w : World) (h : Heap) (vs : List Value) : Prop where
  keys : ∀ v ∈ vs, ∃ c x ks, v = .ref c ∧ IsTupleKey (scKind prog w) h (.inr x :: ks) c
  lt : ∀ c c' ks ms, .ref c ∈ vs → .ref c' ∈ vs → IsTupleKey (scKind prog w) h ks c → IsTupleKey (scKind prog w) h ms c' → ltK ks ms = true
theorem Ordered.move {h h' : Heap} {vs ws : List Value} (O : Ordered prog w h vs) (p : ws.Perm vs) (k : ∀ ks c, IsTupleKey (scKind prog w) h ks c → IsTupleKey (scKind prog w) h' ks c) : Ordered prog w h' ws where
  keys := fun v m => let ⟨c, x, ks, e, q⟩ := O.keys v (p.mem_iff.mp m); ⟨c, x, ks, e, k _ _ q⟩
  lt := fun c c' ks ms m m' q q' => by
    obtain ⟨_, x, ks', e, z⟩ := O.keys _ (p.mem_iff.mp m)
    obtain ⟨_, x', ks'', e', z'⟩ := O.keys _ (p.mem_iff.mp m')
    cases e; cases e'
    rw [q.inj (k _ _ z), q'.inj (k _ _ z')]
    exact O.lt c c' _ _ (p.mem_iff.mp m) (p.mem_iff.mp m') z z'
theorem pairs_snd {vs : List Value} {a : Array Keyed} (p : a.Perm (pairsOf vs)) : (a.map (·.2)).toList.Perm vs := by
  rw [Array.toList_map]
  refine ((Array.perm_iff_toList_perm.mp p).map _).trans (.of_eq ?_)
  rw [pairsOf_toList, List.map_snd_zip (Nat.le_refl _)]
theorem lt_ways {vs : List Value} {b : Bool} (O : Ordered prog w s.heap vs) : LtOk (model prog w) A s (tuples' b) (pairsOf vs) := fun x y hx hy E Q h => by
  rw [pairsOf_toList] at hx hy
  have mx := (mem_zip_self hx).2
  have my := (mem_zip_self hy).2
  obtain ⟨c, t, ks, e, k⟩ := O.keys _ mx
  obtain ⟨c', t', ks', e', k'⟩ := O.keys _ my
  rw [e] at mx ⊢
  rw [e'] at my ⊢
  exact key_lt k k' (O.lt _ _ _ _ mx my k k') h
theorem sort_ways {a : Addr} {vs : List Value} {n : Nat} {P : Fin → Shared → Prop} (ho : s.heap.get? a = some (seqObj "list" vs.toArray n)) (O : Ordered prog w s.heap vs) (hz : vs.length < 128)
    (h : ∀ out : Array Value, out.toList.Perm vs → P (.done (.ret .none)) { s with heap := sortedHeap s.heap a vs out }) : wpAny (model prog w) A (Builtin.«list.sort» ⟨[.ref a], []⟩) P E s := by
  rw [list_sort_plain]
  have ha : a < s.heap.objs.size := Heap.lt_size ho
  have zl : vs.length ≤ sizeLine := Nat.le_trans (Nat.le_of_lt hz) (by decide)
  refine wpAny_bind (listItems_at ho rfl ?_)
  refine wpAny_bind (listUpdate_at ho rfl ?_ (by rw [List.size_toArray]; exact zl))
  obtain ⟨e1, ho1⟩ : ∃ e1, (s.heap.update a (Obj.mapSeq fun _ => #[])).get? a = some (seqObj "list" #[] e1) := ⟨_, get?_update_seq ho (fun _ => #[])⟩
  refine wpAny_bind (seqEpoch_at ho1 rfl ?_)
  refine wpAny_bind (wpAny_newTuple ?_ zl)
  refine wpAny_bind (wpAny_newList ?_)
  refine wpAny_holding ?_
  have oth : ∀ b o, b ≠ a → s.heap.get? b = some o → (((s.heap.update a (Obj.mapSeq fun _ => #[])).push (seqObj "tuple" vs.toArray 0)).push (seqObj "list" #[] 0)).get? b = some o := fun b o q e => Heap.get?_push_of_some _ (Heap.get?_push_of_some _ ((Heap.get?_update_other _ _ (Ne.symm q)).trans e))
  have ho6 : (((s.heap.update a (Obj.mapSeq fun _ => #[])).push (seqObj "tuple" vs.toArray 0)).push (seqObj "list" #[] 0)).get? a = some (seqObj "list" #[] e1) := Heap.get?_push_of_some _ (Heap.get?_push_of_some _ ho1)
  have O6 := O.move (.refl _) fun ks c k => show IsTupleKey (scKind prog w) (((s.heap.update a (Obj.mapSeq fun _ => #[])).push (seqObj "tuple" vs.toArray 0)).push (seqObj "list" #[] 0)) ks c by
    obtain ⟨o, it, n', hc, hcl, r⟩ := k
    exact ⟨o, it, n', oth c o (fun q => by subst q; rw [ho] at hc; cases hc; exact absurd (Value.type.inj hcl) (by decide)) hc, hcl, r⟩
  show wpAny (model prog w) A _ P E { s with heap := ((s.heap.update a (Obj.mapSeq fun _ => #[])).push (seqObj "tuple" vs.toArray 0)).push (seqObj "list" #[] 0) }
  dsimp only
  have fin : ∀ st' : SortSt, (arrOf st').Perm (pairsOf vs) → failedOf st' = none → wpAny (model prog w) A (do
      let touched := (← seqEpoch a) != e1
      Builtin.List.listUpdate (.ref a) fun _ => (arrOf st').map (·.2)
      if let some e := failedOf st' then rule "list.sort.comparison-raised"; throw e
      if touched then rule "list.sort.modified"; raiseError "ValueError" "list modified during sort"
      ret .none) P E { s with heap := ((s.heap.update a (Obj.mapSeq fun _ => #[])).push (seqObj "tuple" vs.toArray 0)).push (seqObj "list" #[] 0) } := fun st' hp hf => by
    refine wpAny_bind (seqEpoch_at ho6 rfl ?_)
    refine wpAny_bind (listUpdate_at ho6 rfl ?_ (hsz2 := Nat.le_succ_of_le (by refine Nat.le_trans (Nat.le_of_eq ?_) zl; rw [Array.size_map, hp.size_eq, pairsOf_size])))
    rw [hf]
    simp only [bne_self_eq_false, Bool.false_eq_true, if_false]
    exact wpAny_pure (h _ (pairs_snd hp))
  by_cases h2 : vs.toArray.size < 2
  · rw [if_pos h2, if_pos h2]
    refine wpAny_bind (wpAny_pure ?_)
    rw [StateT.run_pure]
    refine wpAny_bind (wpAny_pure ?_)
    exact fin (SortSt.mk' general' (vs.toArray.zip vs.toArray) #[] 7 none) (Array.Perm.refl _) rfl
  · rw [if_neg h2, if_neg h2]
    refine wpAny_bind (key_kind (fun v m => O6.keys v m) fun b => ?_)
    refine wpAny_bind (wpAny_mono (wpS_sortRunsP (k₀ := tuples' b) (a₀ := pairsOf vs) (st := SortSt.mk' (tuples' b) (vs.toArray.zip vs.toArray) #[] 7 none) (Q := fun _ st' => (arrOf st').Perm (pairsOf vs) ∧ failedOf st' = none) (lt_ways O6) ⟨Array.Perm.refl _, rfl, rfl, rfl⟩ (by rw [pairsOf_size]; simpa using h2) (by rw [pairsOf_size]; exact hz) fun st' a1 a2 => ⟨a1, a2⟩) ?_ fun _ _ e => e)
    rintro ⟨⟨⟩, st'⟩ s' ⟨rfl, hp, hf⟩
    exact fin st' hp hf
end
end Mine
end

noncomputable section
set_option maxRecDepth 100000
set_option linter.unusedVariables false
namespace Mine
open PySem PySem.Calls PyProof.Rows PySem.W

section
variable {prog : Program} {w : World} {A : Around} {E : Value → Shared → Prop} {s : Shared} {S : Addr} {es : Array (Int × Value)} {L : Bool}
theorem sorted_set {Q : Value → Shared → Prop} (hh : A.handled = none) (hL : L = !w.params.followText "set-order") (T : TS s.heap S es L) (O : Ordered prog w s.heap (es.toList.map (·.2))) (hz : es.size < 128)
    (h : ∀ (out : Array Value) h' d tk b e, out.toList.Perm (es.toList.map (·.2)) → Keeps s.heap h' → s.heap.get? b = none → h'.get? b = some (seqObj "list" out e) → Q (.ref b) { s with heap := h', drawn := d, toks := tk }) : wpAny (model prog w) A (call (.builtin "sorted") [.ref S]) Q E s := by
  refine Calls.call_function_entry kind_sorted plain_sorted entry_sorted (args_sorted1 _) ?_
  unfold Builtin.«sorted»
  refine wpAny_bind (m := checkCount "sorted" 1 1 _) (wpAny_pure ?_)
  refine wpAny_bind (collect_set hh hL T fun vs h1 d tk p k => ?_)
  have vl : vs.length < 128 := by rw [p.length_eq, List.length_map, Array.length_toList]; exact hz
  refine wpAny_bind (wpAny_newList ?_ (Nat.le_trans (Nat.le_of_lt vl) (by decide)))
  have k2 : Keeps s.heap (h1.push (seqObj "list" vs.toArray 0)) := k.trans (keeps_push _ _)
  have hoL : (h1.push (seqObj "list" vs.toArray 0)).get? h1.objs.size = some (seqObj "list" vs.toArray 0) := Heap.get?_push_size _ rfl
  have O2 := O.move p fun ks c (q : IsTupleKey (scKind prog w) s.heap ks c) => show IsTupleKey (scKind prog w) (h1.push (seqObj "list" vs.toArray 0)) ks c from let ⟨o, vs, n, ho, r⟩ := q; ⟨o, vs, n, k2 _ _ ho, r⟩
  refine wpAny_bind (wpAny_holding (wpAny_call_entry slot_list_sort ⟨_, hoL, rfl⟩ entry_list_sort (sort_ways hoL O2 vl fun out po => ⟨_, rfl, ?_⟩) (args_list_sort _)))
  have n0 : s.heap.get? h1.objs.size = none := none_of k.live (size_none _)
  obtain ⟨e, he⟩ := sortedHeap_at (out := out) hoL
  refine wpAny_pure ⟨_, rfl, h out _ d tk _ e (po.trans p) (fun b o q => ?_) n0 he⟩
  rw [sortedHeap_old (fun q' => by subst q'; rw [n0] at q; cases q) (Heap.lt_size (k2 _ _ q))]
  exact k2 _ _ q
end
section
variable {Φ : Ct} {s : Shared} {v u : Value} {x y z : V} {d : DV}
theorem ev_nest {f : Str} {id : String} {fp pos sp spos : Pos} {e : Expr} {K : V → Prop} {dd : V → Prop} (hx : glob Φ.fx.env.scope.names f = true) (hF : bltNames.lookup f = some (.builtin id)) (hs : glob Φ.fx.env.scope.names "set" = true) (hp : plainE e = true) (h : Ev Φ (eval e Φ.fx.env) d)
    (st : ∀ s v x E, Inv Φ s → Φ.rp s.heap v x → dd x → wpAny (model Φ.fx.g.prog Φ.fx.g.w) Φ.fx.A (call (.type "set") [v]) (fun u s₁ => wpAny (model Φ.fx.g.prog Φ.fx.g.w) Φ.fx.A (call (.builtin id) [u]) (Post Φ Φ.rp s K) E s₁) E s) (hd : d dd) (I : Inv Φ s) :
    Φ.wp (eval (.Call (.Name f fp) [.Call (.Name "set" sp) [e] [] spos] [] pos) Φ.fx.env) (Post Φ Φ.rp s K) s := fun E => by
  show wpAny _ _ (eval (.Name f fp) Φ.fx.env >>= fun F => callWith pos F [] (backTo pos (starEach [.Call (.Name "set" sp) [e] [] spos] Φ.fx.env)) []) _ _ s
  refine wpAny_bind (name_blt I hx hF ?_ E)
  refine callWith_builtin rfl (Calls.evalArgs_plain ?_)
  show wpAny _ _ (eval (.Call (.Name "set" sp) [e] [] spos) Φ.fx.env >>= fun v => holding [v] (pure []) >>= fun vs => pure (v :: vs)) _ _ s
  refine wpAny_bind ?_
  show wpAny _ _ (eval (.Name "set" sp) Φ.fx.env >>= fun F => callWith spos F [] (backTo spos (starEach [e] Φ.fx.env)) []) _ _ s
  refine wpAny_bind (name_blt (v := .type "set") I hs rfl ?_ E)
  refine PySem.callWith_type (by rw [star_plain hp]; rfl) ?_
  refine args_ok (qs := [(e, d)]) (K := fun xs => okK (one xs some) dd) (fun q m => by cases List.mem_singleton.mp m; exact ⟨hp, h⟩) hd I fun vs xs s₁ I₁ k₁ hx rs => okK_elim hx fun x e hx => ?_
  refine one_elim (C := fun vs => wpAny _ _ (call (.type "set") ([] ++ vs) []) _ _ s₁) e rs fun v x' r e => ?_
  cases e
  exact wpAny_mono (st s₁ _ x E I₁ r hx) (fun u s₂ p => wpAny_bind (wpAny_holding (wpAny_pure (wpAny_pure (wpAny_mono p (fun _ _ q => q.lift k₁) fun _ _ z => z))))) fun _ _ z => z
theorem ev_sortedSet {fp pos sp spos : Pos} {e : Expr} (hx : glob Φ.fx.env.scope.names "sorted" = true) (hs : glob Φ.fx.env.scope.names "set" = true) (hp : plainE e = true) (h : Ev Φ (eval e Φ.fx.env) d) :
    Ev Φ (eval (.Call (.Name "sorted" fp) [.Call (.Name "set" sp) [e] [] spos] [] pos) Φ.fx.env) (fun K => d fun x => okK (listO x some) fun l => (l.all wayV && decide (l.length < 128)) = true ∧ (∀ x ∈ l, ∀ y ∈ l, ltK (keysOf x) (keysOf y) = true) ∧ ∀ r : List V, r.Nodup → (∀ y, y ∈ r ↔ y ∈ l) → K (.list r)) := fun K s hd I => by
  refine ev_nest hx rfl hs hp h (fun s v x E I r hx => ?_) hd I
  refine okK_elim hx fun l e ⟨q, hlt, hK⟩ => ?_
  refine listO_elim (C := fun x => Φ.rp s.heap v x → wpAny _ _ (call (.type "set") [v]) _ E s) e (fun l' e r => ?_) r
  cases e
  have q := (Bool.and_eq_true _ _).mp q
  have hw : ∀ x ∈ l, wayV x = true := List.all_eq_true.mp q.1
  have hz : l.length < 128 := of_decide_eq_true q.2
  refine r.list_elim fun a o vs n _ ha hc hd hl => ?_
  have hu := I.room
  have hsz := all_size hl
  refine call_set (T := "list") I.ok.hand hu (fun s' k => ⟨o, k _ _ ha, hc.1⟩) PySem.F.sub_list_set PySem.F.sub_list_frozenset (by decide) (goes_list ⟨o, ha, hc.1, n, hd⟩) (fills_ways hl hw (Nat.le_trans (Nat.le_of_lt hz) (by decide))) fun h' tk hZ k => ?_
  obtain ⟨es, r, T, he, hr, hnd, hm, hlen⟩ := hZ
  rw [hsz, List.take_length] at hm
  have O : Ordered Φ.fx.g.prog Φ.fx.g.w h' (es.toList.map (·.2)) := by
    have kk : ∀ y ∈ r, ∀ v, Φ.rp s.heap v y → ∃ c x ks, v = .ref c ∧ keysOf y = .inr x :: ks ∧ IsTupleKey (scKind Φ.fx.g.prog Φ.fx.g.w) h' (.inr x :: ks) c := fun y my v ry => by
      have hy := hw y ((hm y).mp my)
      obtain ⟨c, e, z⟩ := way_key hy ry
      obtain ⟨x, ks, eh⟩ := keys_head hy
      exact ⟨c, x, ks, e, eh, eh ▸ key_keep k z⟩
    refine ⟨fun v m => ?_, fun c c' ks ms m m' q q' => ?_⟩
    · obtain ⟨y, my, ry⟩ := hr.of_mem m
      obtain ⟨c, x, ks, e, _, z⟩ := kk y my v ry
      exact ⟨c, x, ks, e, z⟩
    · obtain ⟨y, my, ry⟩ := hr.of_mem m
      obtain ⟨y', my', ry'⟩ := hr.of_mem m'
      obtain ⟨_, x, ks', e, eh, z⟩ := kk y my _ ry
      obtain ⟨_, x', ms', e', eh', z'⟩ := kk y' my' _ ry'
      cases e; cases e'
      rw [q.inj z, q'.inj z', ← eh, ← eh']
      exact hlt y ((hm y).mp my) y' ((hm y').mp my')
  refine sorted_set (s := { s with heap := h', toks := tk }) I.ok.hand rfl T O (by rw [rps_size hr]; omega) fun out h2 dr tk2 b e po k2 hb ho => ?_
  obtain ⟨R, pR, rR⟩ := RpAll.perm po hr
  have nb : s.heap.get? b = none := none_of k.live hb
  refine ⟨⟨I.base.stays.trans (k.trans k2), I.base.os, I.base.gens⟩, k.trans k2, .list R, hK R (pR.nodup_iff.mpr hnd) (fun y => pR.mem_iff.trans (hm y)), .list (fun q => ?_) ho ⟨rfl, rfl⟩ rfl (rR.keep (k.trans k2))⟩
  obtain ⟨o', e'⟩ := I.badLive q
  rw [nb] at e'; cases e'
theorem ev_lenSet {fp pos sp spos : Pos} {e : Expr} (hx : glob Φ.fx.env.scope.names "len" = true) (hs : glob Φ.fx.env.scope.names "set" = true) (hp : plainE e = true) (h : Ev Φ (eval e Φ.fx.env) d) :
    Ev Φ (eval (.Call (.Name "len" fp) [.Call (.Name "set" sp) [e] [] spos] [] pos) Φ.fx.env) (fun K => d fun x => okK ((setLen x).map fun n => .int n) K) := fun K s hd I => by
  refine ev_nest hx rfl hs hp h (fun s v x E I r hx => ?_) hd I
  refine okK_elim hx fun z e kz => map_elim (C := fun z => K z → _) e (fun n e kz => ?_) kz
  have fin : ∀ {Kd : Type} [DecidableEq Kd] (kd : KeyKind Φ.fx.g.prog Φ.fx.g.w Kd) (S : Kd → Bool) (h' : Heap) (tk : Nat), h'.SetOf kd s.heap.objs.size S n → Keeps s.heap h' → wpAny (model Φ.fx.g.prog Φ.fx.g.w) Φ.fx.A (call (.builtin "len") [.ref s.heap.objs.size]) (Post Φ Φ.rp s K) E { s with heap := h', toks := tk } := fun kd S h' tk hS k =>
    len_set (s := { s with heap := h', toks := tk }) hS fun t tk' => ⟨⟨I.base.stays.trans k, I.base.os, I.base.gens⟩, k, _, kz, .int _ _⟩
  cases x with
  | str t =>
    refine ifo_elim e fun q e => ?_
    cases e
    refine r.str_elim fun tk => ?_
    have nd : (t.cps.toList.map fun c => (⟨#[c]⟩ : Str)).Nodup := List.pairwise_map.mpr (q.1.imp fun h e => h (by simpa using e))
    have F := fills_nodup (knd := PySem.strKind Φ.fx.g.prog Φ.fx.g.w) (h₀ := s.heap) (S := s.heap.objs.size) (P := SignAt t) (fun i v ⟨c, u, hc, e⟩ => ⟨⟨#[c]⟩, by rw [List.getElem?_map, Array.getElem?_toList, hc]; rfl, by subst e; simp [PySem.strKind, Value.isStrOf], by subst e; rfl⟩) nd (by rw [List.length_map, Array.length_toList]; unfold scanBound; omega)
    rw [List.length_map, Array.length_toList] at F
    exact call_set (T := "str") I.ok.hand I.room (fun s' k => typeIs_str _ _ _) (by rw [isSubtype_type]; kernel_rfl) (by rw [isSubtype_type]; kernel_rfl) (by decide) goes_str F fun h' tk hZ k => fin (PySem.strKind _ _) _ h' tk hZ k
  | list l =>
    obtain ⟨is, ei, e⟩ := Option.bind_eq_some_iff.mp e
    refine ifo_elim e fun q e => ?_
    cases e
    refine r.list_elim fun a o vs n _ ha hc hd hl => ?_
    have hi := intsAre_of ei hl
    have hli : vs.size = is.length := by rw [← Array.length_toList, hi.nums.symm, List.length_map]
    have F := fills_nodup (knd := intKind Φ.fx.g.prog Φ.fx.g.w) (h₀ := s.heap) (S := s.heap.objs.size) (P := fun i v => vs[i]? = some v) (ks := is) (fun i v e => ?_) q.1 (by unfold scanBound; omega)
    · rw [← hli] at F
      exact call_set (T := "list") I.ok.hand I.room (fun s' k => ⟨o, k _ _ ha, hc.1⟩) PySem.F.sub_list_set PySem.F.sub_list_frozenset (by decide) (goes_list ⟨o, ha, hc.1, n, hd⟩) F fun h' tk hZ k => fin (intKind _ _) _ h' tk (hli ▸ hZ) k
    · obtain ⟨t, et⟩ := hi.int_at i v (Array.getElem?_toList ▸ e)
      have hlt : i < is.length := hli ▸ (Array.getElem?_eq_some_iff.mp e).1
      refine ⟨is.getD i 0, by rw [List.getElem?_eq_getElem hlt]; simp [hlt], ?_, by subst et; rfl⟩
      subst et; simp [intKind, Value.isInt]
  | _ => cases e
end
end Mine
end

noncomputable section
set_option maxRecDepth 100000
set_option linter.unusedVariables false
set_option genSizeOf false
set_option genSizeOfSpec false
set_option genInjectivity false
namespace Mine
open PySem PySem.Calls PyProof.Rows PySem.W

/-! the check that a term is a given text -/
structure Sx where
  sc : List (Str × NameKind)
  ρ : List (Str × Nat)
  nf : Nat
  ns : Nat
inductive Pz where
  | val
  | test
  | src (st : Bool) (T : Expr)
  | asg (y : Str) (py sp : Pos)
noncomputable abbrev Kid := Sx × Pz × Expr
structure Zx where
  fns : List (Str × Nat)
  cons : List (Str × V)
  flds : List Str
  meths : List (Str × Nat)
noncomputable def sxOf (fx : Fx) : Sx := ⟨fx.env.scope.names, fx.ρ, fx.nf, fx.ns⟩
noncomputable def GoodP (fx : Fx) (p : Pz) (x : Expr) (d : D) : Prop := match p with
  | .val => ∀ oa G, Ev ⟨fx, oa, G⟩ (eval x fx.env) (d G)
  | .test => ∀ oa G, EvT ⟨fx, oa, G⟩ (isTrue x fx.env (eval x fx.env)) (tst (d G))
  | .src st T => ∀ oa G, EvSrc ⟨fx, oa, G⟩ T st x (fun K => d G fun v => okK (seqV v) K)
  | .asg y py sp => ∀ k, TgtOk fx.ρ fx.env y k → ExB fx (exec (.Assign [.Name y py] x sp) fx.env) (fun G K => d G fun v => K none (G.set k (.v v)))
noncomputable def KidOk (g : Gl) (n : Nat) (t : Kid) (d : D) : Prop := ∀ fx, fx.g = g → fx.d = n → sxOf fx = t.1 → GoodP fx t.2.1 t.2.2 d
inductive Kids (g : Gl) (n : Nat) : List Kid → List D → Prop
  | nil : Kids g n [] []
  | cons {t : Kid} {ts : List Kid} {d : D} {ds : List D} : KidOk g n t d → Kids g n ts ds → Kids g n (t :: ts) (d :: ds)
section
variable {g : Gl} {n : Nat} {ds : List D} {C : List D → Prop} {t u w : Kid}
@[elab_as_elim] theorem Kids.n0 (h : Kids g n [] ds) (k : C []) : C ds := by cases h; exact k
@[elab_as_elim] theorem Kids.nc {ts : List Kid} (h : Kids g n (t :: ts) ds) (k : ∀ d ds, KidOk g n t d → Kids g n ts ds → C (d :: ds)) : C ds := by cases h with | cons a b => exact k _ _ a b
@[elab_as_elim] theorem Kids.n1 (h : Kids g n [t] ds) (k : ∀ d, KidOk g n t d → C [d]) : C ds := h.nc fun d ds a b => b.n0 (k d a)
@[elab_as_elim] theorem Kids.n2 (h : Kids g n [t, u] ds) (k : ∀ d e, KidOk g n t d → KidOk g n u e → C [d, e]) : C ds := h.nc fun d ds a b => b.n1 fun e c => k d e a c
@[elab_as_elim] theorem Kids.n3 (h : Kids g n [t, u, w] ds) (k : ∀ d e f, KidOk g n t d → KidOk g n u e → KidOk g n w f → C [d, e, f]) : C ds := h.nc fun d ds a b => b.n2 fun e f c q => k d e f a c q
theorem Kids.pairs {X : Sx} {p : Pz} {xs : List Expr} : ∀ {ds : List D}, Kids g n (xs.map fun x => (X, p, x)) ds → ∃ qs : List (Expr × D), qs.map Prod.fst = xs ∧ qs.map Prod.snd = ds ∧ ∀ q ∈ qs, KidOk g n (X, p, q.1) q.2 := by
  induction xs with
  | nil => intro ds h; exact h.n0 ⟨[], rfl, rfl, fun _ m => nomatch m⟩
  | cons x xs ih =>
    intro ds h
    refine h.nc fun d ds a b => ?_
    obtain ⟨qs, e1, e2, hq⟩ := ih b
    exact ⟨(x, d) :: qs, congrArg (x :: ·) e1, congrArg (d :: ·) e2, fun q m => by cases m with | head => exact a | tail _ m => exact hq q m⟩
end
noncomputable def plains (xs : List Expr) : Bool := xs.all plainE
section
variable {g : Gl} {n : Nat} {ds : List D} {fx : Fx} {xs : List Expr}
theorem Kids.vals (h : Kids g n (xs.map fun x => (sxOf fx, .val, x)) ds) (hg : fx.g = g) (hn : fx.d = n) : ∃ qs : Gs → List (Expr × DV), (∀ G, (qs G).map Prod.fst = xs ∧ (qs G).map Prod.snd = ds.map (· G)) ∧ ∀ oa G, ∀ q ∈ qs G, q.1 ∈ xs ∧ Good1 ⟨fx, oa, G⟩ q := by
  obtain ⟨qs, rfl, rfl, hq⟩ := h.pairs
  refine ⟨fun G => qs.map fun q => (q.1, q.2 G), fun G => ⟨by rw [List.map_map]; rfl, by rw [List.map_map, List.map_map]; rfl⟩, fun oa G q m => ?_⟩
  obtain ⟨q', m', rfl⟩ := List.mem_map.mp m
  exact ⟨List.mem_map.mpr ⟨q', m', rfl⟩, hq q' m' fx hg hn rfl oa G⟩
theorem Kids.items (h : Kids g n (xs.map fun x => (sxOf fx, .val, x)) ds) (hg : fx.g = g) (hn : fx.d = n) (hp : plains xs = true) : ∃ qs : Gs → List (Expr × DV), (∀ G, (qs G).map Prod.fst = xs ∧ (qs G).map Prod.snd = ds.map (· G)) ∧ ∀ oa G, ∀ q ∈ qs G, plainE q.1 = true ∧ Good1 ⟨fx, oa, G⟩ q := by
  obtain ⟨qs, h1, h2⟩ := h.vals hg hn
  exact ⟨qs, h1, fun oa G q m => ⟨List.all_eq_true.mp hp _ (h2 oa G q m).1, (h2 oa G q m).2⟩⟩
theorem Kids.tests (h : Kids g n (xs.map fun x => (sxOf fx, .test, x)) ds) (hg : fx.g = g) (hn : fx.d = n) : ∃ qs : Gs → List (Expr × DV), (∀ G, (qs G).map Prod.fst = xs ∧ (qs G).map Prod.snd = ds.map (· G)) ∧ ∀ oa G, ∀ q ∈ qs G, EvT ⟨fx, oa, G⟩ (isTrue q.1 fx.env (eval q.1 fx.env)) (tst q.2) := by
  obtain ⟨qs, rfl, rfl, hq⟩ := h.pairs
  refine ⟨fun G => qs.map fun q => (q.1, q.2 G), fun G => ⟨by rw [List.map_map]; rfl, by rw [List.map_map, List.map_map]; rfl⟩, fun oa G q m => ?_⟩
  obtain ⟨q', m', rfl⟩ := List.mem_map.mp m
  exact hq q' m' fx hg hn rfl oa G
theorem Kids.node {f : List Expr → Expr} {op : List V → (V → Prop) → Prop} (h : Kids g n (xs.map fun x => (sxOf fx, .val, x)) ds) (hg : fx.g = g) (hn : fx.d = n) (hp : plains xs = true)
    (k : ∀ oa G (qs : List (Expr × DV)), (∀ q ∈ qs, plainE q.1 = true ∧ Good1 ⟨fx, oa, G⟩ q) → Ev ⟨fx, oa, G⟩ (eval (f (qs.map Prod.fst)) fx.env) (fun K => manyV (qs.map Prod.snd) fun xs => op xs K)) : ∀ oa G, Ev ⟨fx, oa, G⟩ (eval (f xs) fx.env) (fun K => manyD ds G fun xs => op xs K) := fun oa G => by
  obtain ⟨qs, h1, h2⟩ := h.items hg hn hp
  have q := k oa G (qs G) (h2 oa G)
  rw [(h1 G).1, (h1 G).2] at q
  rw [manyD_eq]
  exact q
end

/-! looks at a text -/
noncomputable def vName (x : Expr) : Option (Str × Pos) := if h : x.ctorIdx = 23 then some (Expr.Name.elim (motive_1 := fun _ => Str × Pos) x h fun n p => (n, p)) else none
theorem lName {x : Expr} {f : Str × Pos → Bool} {C : Expr → Prop} (h : (vName x).any f = true) (k : ∀ n p, f (n, p) = true → C (.Name n p)) : C x :=
  if hi : x.ctorIdx = 23 then Expr.Name.elim (motive_1 := fun x => (vName x).any f = true → C x) x hi (fun n p h => k n p h) h else by
    unfold vName at h; rw [dif_neg hi] at h; cases h
noncomputable def vTup (x : Expr) : Option (List Expr × Nat × Pos) := if h : x.ctorIdx = 25 then some (Expr.Tuple.elim (motive_1 := fun _ => List Expr × Nat × Pos) x h fun xs k p => (xs, k, p)) else none
theorem lTup {x : Expr} {f : List Expr × Nat × Pos → Bool} {C : Expr → Prop} (h : (vTup x).any f = true) (k : ∀ xs k p, f (xs, k, p) = true → C (.Tuple xs k p)) : C x :=
  if hi : x.ctorIdx = 25 then Expr.Tuple.elim (motive_1 := fun x => (vTup x).any f = true → C x) x hi (fun xs j p h => k xs j p h) h else by
    unfold vTup at h; rw [dif_neg hi] at h; cases h
noncomputable def vLst (x : Expr) : Option (List Expr × Pos) := if h : x.ctorIdx = 24 then some (Expr.List.elim (motive_1 := fun _ => List Expr × Pos) x h fun xs p => (xs, p)) else none
theorem lLst {x : Expr} {f : List Expr × Pos → Bool} {C : Expr → Prop} (h : (vLst x).any f = true) (k : ∀ xs p, f (xs, p) = true → C (.List xs p)) : C x :=
  if hi : x.ctorIdx = 24 then Expr.List.elim (motive_1 := fun x => (vLst x).any f = true → C x) x hi (fun xs p h => k xs p h) h else by
    unfold vLst at h; rw [dif_neg hi] at h; cases h
noncomputable def vSub (x : Expr) : Option (Expr × Expr × Pos) := if h : x.ctorIdx = 21 then some (Expr.Subscript.elim (motive_1 := fun _ => Expr × Expr × Pos) x h fun v s p => (v, s, p)) else none
theorem lSub {x : Expr} {f : Expr × Expr × Pos → Bool} {C : Expr → Prop} (h : (vSub x).any f = true) (k : ∀ v s p, f (v, s, p) = true → C (.Subscript v s p)) : C x :=
  if hi : x.ctorIdx = 21 then Expr.Subscript.elim (motive_1 := fun x => (vSub x).any f = true → C x) x hi (fun v s p h => k v s p h) h else by
    unfold vSub at h; rw [dif_neg hi] at h; cases h
noncomputable def vSlc (x : Expr) : Option (Option Expr × Option Expr × Option Expr × Pos) := if h : x.ctorIdx = 26 then some (Expr.Slice.elim (motive_1 := fun _ => Option Expr × Option Expr × Option Expr × Pos) x h fun l u st p => (l, u, st, p)) else none
theorem lSlc {x : Expr} {f : Option Expr × Option Expr × Option Expr × Pos → Bool} {C : Expr → Prop} (h : (vSlc x).any f = true) (k : ∀ l u st p, f (l, u, st, p) = true → C (.Slice l u st p)) : C x :=
  if hi : x.ctorIdx = 26 then Expr.Slice.elim (motive_1 := fun x => (vSlc x).any f = true → C x) x hi (fun l u st p h => k l u st p h) h else by
    unfold vSlc at h; rw [dif_neg hi] at h; cases h
noncomputable def vCall (x : Expr) : Option (Expr × List Expr × List Keyword × Pos) := if h : x.ctorIdx = 16 then some (Expr.Call.elim (motive_1 := fun _ => Expr × List Expr × List Keyword × Pos) x h fun u xs ks p => (u, xs, ks, p)) else none
theorem lCall {x : Expr} {f : Expr × List Expr × List Keyword × Pos → Bool} {C : Expr → Prop} (h : (vCall x).any f = true) (k : ∀ u xs ks p, f (u, xs, ks, p) = true → C (.Call u xs ks p)) : C x :=
  if hi : x.ctorIdx = 16 then Expr.Call.elim (motive_1 := fun x => (vCall x).any f = true → C x) x hi (fun u xs ks p h => k u xs ks p h) h else by
    unfold vCall at h; rw [dif_neg hi] at h; cases h
noncomputable def vAttr (x : Expr) : Option (Expr × Str × Pos) := if h : x.ctorIdx = 20 then some (Expr.Attribute.elim (motive_1 := fun _ => Expr × Str × Pos) x h fun o n q => (o, n, q)) else none
theorem lAttr {x : Expr} {f : Expr × Str × Pos → Bool} {C : Expr → Prop} (h : (vAttr x).any f = true) (k : ∀ o n q, f (o, n, q) = true → C (.Attribute o n q)) : C x :=
  if hi : x.ctorIdx = 20 then Expr.Attribute.elim (motive_1 := fun x => (vAttr x).any f = true → C x) x hi (fun o n q h => k o n q h) h else by
    unfold vAttr at h; rw [dif_neg hi] at h; cases h
noncomputable def vDict (x : Expr) : Option (List (Option Expr) × List Expr × Pos) := if h : x.ctorIdx = 6 then some (Expr.Dict.elim (motive_1 := fun _ => List (Option Expr) × List Expr × Pos) x h fun ks vs p => (ks, vs, p)) else none
theorem lDict {x : Expr} {f : List (Option Expr) × List Expr × Pos → Bool} {C : Expr → Prop} (h : (vDict x).any f = true) (k : ∀ ks vs p, f (ks, vs, p) = true → C (.Dict ks vs p)) : C x :=
  if hi : x.ctorIdx = 6 then Expr.Dict.elim (motive_1 := fun x => (vDict x).any f = true → C x) x hi (fun ks vs p h => k ks vs p h) h else by
    unfold vDict at h; rw [dif_neg hi] at h; cases h
noncomputable def sole {α : Type} : List α → Option α
  | [y] => some y
  | _ => none
@[elab_as_elim] theorem l1 {α : Type} {xs : List α} {f : α → Bool} {C : List α → Prop} (h : (sole xs).any f = true) (k : ∀ y, f y = true → C [y]) : C xs := by
  match xs, h with
  | [], h => cases h
  | [y], h => exact k y h
  | _ :: _ :: _, h => cases h
noncomputable def two? {α : Type} : List α → Option (α × α)
  | [y, z] => some (y, z)
  | _ => none
@[elab_as_elim] theorem l2 {α : Type} {xs : List α} {f : α × α → Bool} {C : List α → Prop} (h : (two? xs).any f = true) (k : ∀ y z, f (y, z) = true → C [y, z]) : C xs := by
  match xs, h with
  | [], h => cases h
  | [y], h => cases h
  | [y, z], h => exact k y z h
  | _ :: _ :: _ :: _, h => cases h
@[elab_as_elim] theorem ln {α : Type} {xs : List α} {C : List α → Prop} (h : xs.isEmpty = true) (k : C []) : C xs := by
  cases xs with
  | nil => exact k
  | cons => cases h
theorem a2 {a b : Bool} (h : (a && b) = true) : a = true ∧ b = true := (Bool.and_eq_true _ _).mp h
theorem any_get {α : Type} {o : Option α} {f : α → Bool} (h : o.any f = true) : ∃ a, o = some a ∧ f a = true := by
  cases o with
  | none => cases h
  | some a => exact ⟨a, rfl, h⟩
end Mine
end

noncomputable section
set_option maxRecDepth 100000
set_option linter.unusedVariables false
set_option genSizeOf false
set_option genSizeOfSpec false
set_option genInjectivity false
namespace Mine
open PySem PySem.Calls PyProof.Rows PySem.W

noncomputable def litEq (x y : V) : Bool := match x with
  | .int i => (match y with | .int j => i == j | _ => false)
  | .str s => (match y with | .str t => s == t | _ => false)
  | _ => false
theorem litEq_of {x y : V} (h : litEq x y = true) : y = x := by
  cases x with
  | int i => cases y with | int j => rw [eq_of_beq h] | _ => cases h
  | str s => cases y with | str t => rw [eq_of_beq h] | _ => cases h
  | _ => cases h
noncomputable def vConst (x : Expr) : Option (Const × Nat × Pos) := if h : x.ctorIdx = 19 then some (Expr.Constant.elim (motive_1 := fun _ => Const × Nat × Pos) x h fun c k p => (c, k, p)) else none
theorem lConst {x : Expr} {f : Const × Nat × Pos → Bool} {C : Expr → Prop} (h : (vConst x).any f = true) (k : ∀ c k p, f (c, k, p) = true → C (.Constant c k p)) : C x :=
  if hi : x.ctorIdx = 19 then Expr.Constant.elim (motive_1 := fun x => (vConst x).any f = true → C x) x hi (fun c j p h => k c j p h) h else by
    unfold vConst at h; rw [dif_neg hi] at h; cases h
noncomputable def vBin (x : Expr) : Option (Expr × Operator × Expr × Pos) := if h : x.ctorIdx = 2 then some (Expr.BinOp.elim (motive_1 := fun _ => Expr × Operator × Expr × Pos) x h fun l o r p => (l, o, r, p)) else none
theorem lBin {x : Expr} {f : Expr × Operator × Expr × Pos → Bool} {C : Expr → Prop} (h : (vBin x).any f = true) (k : ∀ l o r p, f (l, o, r, p) = true → C (.BinOp l o r p)) : C x :=
  if hi : x.ctorIdx = 2 then Expr.BinOp.elim (motive_1 := fun x => (vBin x).any f = true → C x) x hi (fun l o r p h => k l o r p h) h else by
    unfold vBin at h; rw [dif_neg hi] at h; cases h
noncomputable def vCmp (x : Expr) : Option (Expr × List CmpOp × List Expr × Pos) := if h : x.ctorIdx = 15 then some (Expr.Compare.elim (motive_1 := fun _ => Expr × List CmpOp × List Expr × Pos) x h fun l o r p => (l, o, r, p)) else none
theorem lCmp {x : Expr} {f : Expr × List CmpOp × List Expr × Pos → Bool} {C : Expr → Prop} (h : (vCmp x).any f = true) (k : ∀ l o r p, f (l, o, r, p) = true → C (.Compare l o r p)) : C x :=
  if hi : x.ctorIdx = 15 then Expr.Compare.elim (motive_1 := fun x => (vCmp x).any f = true → C x) x hi (fun l o r p h => k l o r p h) h else by
    unfold vCmp at h; rw [dif_neg hi] at h; cases h
noncomputable def vBool (x : Expr) : Option (BoolOp × List Expr × Pos) := if h : x.ctorIdx = 0 then some (Expr.BoolOp.elim (motive_1 := fun _ => BoolOp × List Expr × Pos) x h fun o xs p => (o, xs, p)) else none
theorem lBool {x : Expr} {f : BoolOp × List Expr × Pos → Bool} {C : Expr → Prop} (h : (vBool x).any f = true) (k : ∀ o xs p, f (o, xs, p) = true → C (.BoolOp o xs p)) : C x :=
  if hi : x.ctorIdx = 0 then Expr.BoolOp.elim (motive_1 := fun x => (vBool x).any f = true → C x) x hi (fun o xs p h => k o xs p h) h else by
    unfold vBool at h; rw [dif_neg hi] at h; cases h
noncomputable def vUn (x : Expr) : Option (UnaryOp × Expr × Pos) := if h : x.ctorIdx = 3 then some (Expr.UnaryOp.elim (motive_1 := fun _ => UnaryOp × Expr × Pos) x h fun o y p => (o, y, p)) else none
theorem lUn {x : Expr} {f : UnaryOp × Expr × Pos → Bool} {C : Expr → Prop} (h : (vUn x).any f = true) (k : ∀ o y p, f (o, y, p) = true → C (.UnaryOp o y p)) : C x :=
  if hi : x.ctorIdx = 3 then Expr.UnaryOp.elim (motive_1 := fun x => (vUn x).any f = true → C x) x hi (fun o y p h => k o y p h) h else by
    unfold vUn at h; rw [dif_neg hi] at h; cases h
noncomputable def vIf (x : Expr) : Option (Expr × Expr × Expr × Pos) := if h : x.ctorIdx = 5 then some (Expr.IfExp.elim (motive_1 := fun _ => Expr × Expr × Expr × Pos) x h fun t y z p => (t, y, z, p)) else none
theorem lIf {x : Expr} {f : Expr × Expr × Expr × Pos → Bool} {C : Expr → Prop} (h : (vIf x).any f = true) (k : ∀ t y z p, f (t, y, z, p) = true → C (.IfExp t y z p)) : C x :=
  if hi : x.ctorIdx = 5 then Expr.IfExp.elim (motive_1 := fun x => (vIf x).any f = true → C x) x hi (fun t y z p h => k t y z p h) h else by
    unfold vIf at h; rw [dif_neg hi] at h; cases h
noncomputable def vComp (x : Expr) : Option (Expr × List Comprehension × Scope × Pos) := if h : x.ctorIdx = 8 then some (Expr.ListComp.elim (motive_1 := fun _ => Expr × List Comprehension × Scope × Pos) x h fun y gs sc p => (y, gs, sc, p)) else none
theorem lComp {x : Expr} {f : Expr × List Comprehension × Scope × Pos → Bool} {C : Expr → Prop} (h : (vComp x).any f = true) (k : ∀ y gs sc p, f (y, gs, sc, p) = true → C (.ListComp y gs sc p)) : C x :=
  if hi : x.ctorIdx = 8 then Expr.ListComp.elim (motive_1 := fun x => (vComp x).any f = true → C x) x hi (fun y gs sc p h => k y gs sc p h) h else by
    unfold vComp at h; rw [dif_neg hi] at h; cases h
@[irreducible] def nCall (X : Sx) (nm : Str) (x : Expr) (f : List Expr → Bool) : Bool := (vCall x).any fun c => (vName c.1).any fun n => n.1 == nm && (glob X.sc nm && (c.2.2.1.isEmpty && f c.2.1))
theorem lnCall {X : Sx} {nm : Str} {x : Expr} {f : List Expr → Bool} {C : Expr → Prop} (h : nCall X nm x f = true) (k : ∀ q xs p, glob X.sc nm = true → f xs = true → C (.Call (.Name nm q) xs [] p)) : C x :=
  lCall (by unfold nCall at h; exact h) fun u xs ks p h => lName (C := fun u => C (.Call u xs ks p)) h fun n q h => by
    have e : n = nm := eq_of_beq (a2 h).1
    subst e
    exact ln (C := fun ks => C (.Call (.Name n q) xs ks p)) (a2 (a2 (a2 h).2).2).1 (k q xs p (a2 (a2 h).2).1 (a2 (a2 (a2 h).2).2).2)
noncomputable def nCall1 (X : Sx) (nm : Str) (x : Expr) (f : Expr → Bool) : Bool := nCall X nm x fun xs => (sole xs).any f
theorem lnCall1 {X : Sx} {nm : Str} {x : Expr} {f : Expr → Bool} {C : Expr → Prop} (h : nCall1 X nm x f = true) (k : ∀ q y p, glob X.sc nm = true → f y = true → C (.Call (.Name nm q) [y] [] p)) : C x :=
  lnCall h fun q xs p hg h => l1 (C := fun xs => C (.Call (.Name nm q) xs [] p)) h fun y h => k q y p hg h
@[irreducible] def mCall (x : Expr) (f : Expr → Str → List Expr → Bool) : Bool := (vCall x).any fun c => (vAttr c.1).any fun a => c.2.2.1.isEmpty && (a.2.2.endLine == c.2.2.2.line && f a.1 a.2.1 c.2.1)
theorem lmCall {x : Expr} {f : Expr → Str → List Expr → Bool} {C : Expr → Prop} (h : mCall x f = true) (k : ∀ y nm q xs p, (q.endLine == p.line) = true → f y nm xs = true → C (.Call (.Attribute y nm q) xs [] p)) : C x :=
  lCall (by unfold mCall at h; exact h) fun u xs ks p h => lAttr (C := fun u => C (.Call u xs ks p)) h fun y nm q h => ln (C := fun ks => C (.Call (.Attribute y nm q) xs ks p)) (a2 h).1 (k y nm q xs p (a2 (a2 h).2).1 (a2 (a2 h).2).2)
noncomputable def mCall1 (X : Sx) (k : List Kid → Bool) (nm : Str) (x : Expr) : Bool := mCall x fun y n xs => n == nm && (simpleE y && (sole xs).any fun e => plainE e && k [(X, .val, y), (X, .val, e)])
theorem lmCall1 {X : Sx} {k : List Kid → Bool} {nm : Str} {x : Expr} {C : Expr → Prop} (h : mCall1 X k nm x = true) (f : ∀ y q e p, (q.endLine == p.line) = true → simpleE y = true → plainE e = true → k [(X, .val, y), (X, .val, e)] = true → C (.Call (.Attribute y nm q) [e] [] p)) : C x :=
  lmCall h fun y n q xs p hl h => by
    have e : n = nm := eq_of_beq (a2 h).1
    subst e
    exact l1 (C := fun xs => C (.Call (.Attribute y n q) xs [] p)) (a2 (a2 h).2).2 fun z hz => f y q z p hl (a2 (a2 h).2).1 (a2 hz).1 (a2 hz).2
noncomputable def isDef1 (k : Keyword) : Bool := k.arg == some ("default" : Str) && (vConst k.value).any fun q => q.1 == .int 1
theorem ldef1 {k : Keyword} {C : Keyword → Prop} (h : isDef1 k = true) (f : ∀ j p q, C ⟨some "default", .Constant (.int 1) j p, q⟩) : C k := by
  obtain ⟨a, v, q⟩ := k
  replace h := a2 h
  have e := h.1
  replace h := h.2
  obtain rfl := eq_of_beq e
  refine lConst (C := fun v => C ⟨some "default", v, q⟩) h fun c j p h => ?_
  obtain rfl := eq_of_beq h
  exact f j p q
noncomputable def compChk (X : Sx) (scope : Scope) (x : Str) : Bool := scope.kind == .function && (scope.names.lookup x == some .local && (scope.names.all (fun p => p.2 != .cell) && (scope.names.all (fun p => p.2 != .local || scope.names.lookup p.1 == some .local) && (scope.names.all (fun p => p.2 != .free || ((X.sc.lookup p.1 == some .cell || X.sc.lookup p.1 == some .free) && (X.ρ.lookup p.1).isSome)) && decide (X.nf + 1 ≤ X.ns)))))
noncomputable def Sx.comp (X : Sx) (scope : Scope) (x : Str) : Sx := ⟨relab X.sc scope.names, (x, X.nf) :: X.ρ.filter (fun p => scope.names.lookup p.1 == some .free), X.nf + 1, X.ns⟩
theorem sx_comp {fx : Fx} {scope : Scope} {x : Str} {C : Addr} {Y : Addr → Prop} (hk : fx.env.scope.kind = .function) : sxOf (compFx fx scope C x Y) = (sxOf fx).comp scope x := by
  unfold Sx.comp sxOf
  have : (compFx fx scope C x Y).env.scope.names = relab fx.env.scope.names scope.names := relabel_names hk
  rw [this]
  rfl
theorem compOk_of {fx : Fx} {scope : Scope} {x : Str} (ok : FxOk fx) (h : compChk (sxOf fx) scope x = true) : CompOk fx scope x := by
  replace h := a2 h
  have h1 := h.1
  replace h := h.2
  replace h := a2 h
  have h2 := h.1
  replace h := h.2
  replace h := a2 h
  have h5 := h.1
  replace h := h.2
  replace h := a2 h
  have h6 := h.1
  replace h := h.2
  obtain ⟨h7, h8⟩ := a2 h
  have h5 := List.all_eq_true.mp h5
  have h6 := List.all_eq_true.mp h6
  have h7 := List.all_eq_true.mp h7
  have fr : ∀ n, (n, NameKind.free) ∈ scope.names → (fx.env.kindOf n = some .cell ∨ fx.env.kindOf n = some .free) ∧ ∃ k, fx.ρ.lookup n = some k := fun n hn => by
    rcases (Bool.or_eq_true _ _).mp (h7 _ hn) with q | q
    · exact absurd rfl (bne_iff_ne.mp q)
    · obtain ⟨q1, q2⟩ := a2 q
      exact ⟨((Bool.or_eq_true _ _).mp q1).imp eq_of_beq eq_of_beq, Option.isSome_iff_exists.mp q2⟩
  refine ⟨eq_of_beq h1, eq_of_beq h2, fun y hy => bne_iff_ne.mp (h5 y hy), fun y hy hl => ((Bool.or_eq_true _ _).mp (h6 y hy)).elim (fun q => absurd hl (bne_iff_ne.mp q)) eq_of_beq, fun n hn => (fr n hn).1, fun n hn => ?_, of_decide_eq_true h8⟩
  obtain ⟨q, k, hk⟩ := fr n hn
  rcases ok.vis n k hk with ⟨z, _⟩ | ⟨_, c, hc, _⟩
  · rcases q with q | q <;> rw [z] at q <;> cases q
  · exact ⟨c, hc⟩
noncomputable def isVal : Pz → Bool
  | .val => true
  | _ => false

noncomputable def isComp (o : Op) : Bool := o.ctorIdx == (Op.comp 0).ctorIdx
section
variable (Z : Zx) (o : Op) (k : List Kid → Bool) (X : Sx)
noncomputable def chkV (p : Pz) (x : Expr) : Bool := match o with
  | .lit v => (vConst x).any (fun q => constIs q.1 v && k []) || (vName x).any fun m => glob X.sc m.1 && ((Z.cons.lookup m.1).any (litEq v) && k [])
  | .var j => (vName x).any fun m => X.ρ.lookup m.1 == some j && (okName m.1 && k [])
  | .bin op => (vBin x).any fun q => decide (op = q.2.1) && k [(X, .val, q.1), (X, .val, q.2.2.1)]
  | .cmp c => (vCmp x).any fun q => (sole q.2.1).any fun c' => decide (c = c') && (sole q.2.2.1).any fun r => notSet r && k [(X, .val, q.1), (X, .val, r)]
  | .chain => (vCmp x).any fun q => isVal p && (two? q.2.1).any fun c => decide (.LtE = c.1) && (decide (.Lt = c.2) && (two? q.2.2.1).any fun r => notSet r.2 && k [(X, .val, q.1), (X, .val, r.1), (X, .val, r.2)])
  | .and => (vBool x).any fun q => decide (.And = q.1) && (!q.2.1.isEmpty && k (q.2.1.map fun x => (X, p, x)))
  | .or => (vBool x).any fun q => decide (.Or = q.1) && (!q.2.1.isEmpty && k (q.2.1.map fun x => (X, p, x)))
  | .not => (vUn x).any fun q => decide (.Not = q.1) && k [(X, p, q.2.1)]
  | .neg => (vUn x).any fun q => decide (.USub = q.1) && (isVal p && k [(X, .val, q.2.1)])
  | .ite => (vIf x).any fun q => k [(X, .test, q.1), (X, p, q.2.1), (X, p, q.2.2.1)]
  | .tuple => (vTup x).any fun q => plains q.1 && k (q.1.map fun x => (X, .val, x))
  | .list => (vLst x).any fun q => plains q.1 && k (q.1.map fun x => (X, .val, x))
  | .sub => (vSub x).any fun q => k [(X, .val, q.1), (X, .val, q.2.1)]
  | .slice bl bh => (vSub x).any fun v => (vSlc v.2.1).any fun q => q.2.2.1.isNone && (q.1.isSome == bl && (q.2.1.isSome == bh && k ((X, .val, v.1) :: (q.1.toList ++ q.2.1.toList).map fun x => (X, .val, x))))
  | .attr j => (vAttr x).any fun q => simpleE q.1 && (Z.flds[j]? == some q.2.1 && k [(X, .val, q.1)])
  | .comp j => (vComp x).any fun q => (sole q.2.1).any fun c => c.is_async == 0 && (vName c.target).any fun n => compChk X q.2.2.1 n.1 && (j == X.nf && (notSet c.iter && k ((X, .src false (.Name n.1 n.2), c.iter) :: (X.comp q.2.2.1 n.1, .val, q.1) :: c.ifs.map fun x => (X.comp q.2.2.1 n.1, .test, x))))
  | .isinst t => nCall X "isinstance" x fun xs => (two? xs).any fun y => plainE y.1 && (vName y.2).any fun T => glob X.sc T.1 && ((tyNames[t]?).any (fun T' => T.1 == Str.ofString T') && k [(X, .val, y.1)])
  | .len => nCall1 X "len" x fun y => plainE y && k [(X, .val, y)]
  | .lenL j => nCall1 X "len" x fun y => (vName y).any fun m => X.ρ.lookup m.1 == some j && okName m.1
  | .lenD j => nCall1 X "len" x fun y => (vName y).any fun m => X.ρ.lookup m.1 == some j && okName m.1
  | .lenSet => nCall1 X "len" x fun y => nCall1 X "set" y fun z => plainE z && k [(X, .val, z)]
  | .listOf => nCall X "list" x fun xs => plains xs && k (xs.map fun x => (X, .val, x))
  | .valsD j => nCall1 X "list" x fun y => mCall y fun v nm xs => nm == ("values" : Str) && (xs.isEmpty && (vName v).any fun m => X.ρ.lookup m.1 == some j && okName m.1)
  | .sorted => nCall1 X "sorted" x fun y => plainE y && k [(X, .val, y)]
  | .sortedSet => nCall1 X "sorted" x fun y => nCall1 X "set" y fun z => plainE z && k [(X, .val, z)]
  | .max2 => nCall X "max" x fun xs => plains xs && k (xs.map fun x => (X, .val, x))
  | .maxD => (vCall x).any fun c => (vName c.1).any fun n => n.1 == ("max" : Str) && (glob X.sc "max" && ((sole c.2.2.1).any isDef1 && (sole c.2.1).any fun y => plainE y && k [(X, .val, y)]))
  | .call f => (vCall x).any fun c => (vName c.1).any fun n => Z.fns.lookup n.1 == some f && (glob X.sc n.1 && (c.2.2.1.isEmpty && (plains c.2.1 && k (c.2.1.map fun x => (X, .val, x)))))
  | .join => mCall1 X k "join" x
  | .count => mCall1 X k "count" x
  | .getD j => mCall x fun y nm xs => nm == ("get" : Str) && (vName y).any fun m => X.ρ.lookup m.1 == some j && (okName m.1 && (two? xs).any fun q => plainE q.1 && (plainE q.2 && k [(X, .val, q.1), (X, .val, q.2)]))
  | .meth f => mCall x fun y nm xs => simpleE y && (xs.isEmpty && (Z.meths.lookup nm == some f && k [(X, .val, y)]))
  | _ => false
noncomputable def chkR (f : Str) (x : Expr) : Bool := nCall X f x fun xs => plains xs && k (xs.map fun x => (X, .val, x))
noncomputable def chkA1 (x : Expr) : Bool := notComp x && chkV Z o k X .val x || isComp o && chkV Z o k X .val x
noncomputable def chkX (p : Pz) (x : Expr) : Bool := match p with
  | .val => chkV Z o k X .val x
  | .test => chkV Z o k X .test x
  | .src st T => (match o with
    | .own j => !st && (vName x).any fun m => X.ρ.lookup m.1 == some j && (okName m.1 && k [])
    | .range => chkR k X "range" x
    | .zip => (vTup T).any fun _ => chkR k X "zip" x
    | _ => chkV Z o k X .val x)
  | .asg _ _ _ => chkA1 Z o k X x
end
noncomputable abbrev Ck := Kid → Bool
noncomputable def kidsB (cs : List Ck) : List Kid → Bool :=
  List.rec (motive := fun _ => List Kid → Bool) (fun ts => ts.isEmpty) (fun c _ ih ts => match ts with | [] => false | t :: r => c t && ih r) cs
noncomputable def chkE (Z : Zx) (e : E) : Ck :=
  E.rec (motive_1 := fun _ => Ck) (motive_2 := fun _ => List Ck) (fun o _ ih t => chkX Z o (kidsB ih) t.1 t.2.1 t.2.2) [] (fun _ _ i is => i :: is) e
structure GOk (g : Gl) (Z : Zx) : Prop where
  fns : g.fns = Z.fns
  cons : g.cons = Z.cons
  flds : g.flds = Z.flds
  keep : ∀ x f, Z.fns.lookup x = some f → keepIn g.K (.ref (g.fn f)) = true
  meths : ∀ x f, Z.meths.lookup x = some f → x ∉ g.flds ∧ findIn g.K (.ref g.C) x = some (some (.ref (g.fn f))) ∧ typeIn g.K (.ref (g.fn f)) = some (.type "function") ∧ keepIn g.K (.ref (g.fn f)) = true
section
variable {g : Gl} {n : Nat} {Z : Zx} {o : Op} {k : List Kid → Bool} {ds : List D} {fx : Fx} {x : Expr}
theorem a2e {a b : Bool} {C : Prop} (h : (a && b) = true) (k : a = true → b = true → C) : C := k (a2 h).1 (a2 h).2
theorem okK_map {α β : Type} {o : Option α} {f : α → β} {K : β → Prop} : okK (o.map f) K = okK o fun a => K (f a) := by cases o <;> rfl
theorem ev_ok {Φ : Ct} {t : Sem Value} {d : DV} (h : FxOk Φ.fx → Ev Φ t d) : Ev Φ t d := fun K s hd I => h I.ok K s hd I
theorem kids_tests {ts : List D} {ifs : List Expr} (h : Kids fx.g fx.d (ifs.map fun x => (sxOf fx, .test, x)) ts) : ∀ oa G, EvT ⟨fx, oa, G⟩ (testsT ifs fx.env) (boolsD true ts G) := fun oa G => by
  obtain ⟨qs, h1, h2⟩ := h.tests rfl rfl
  have q := tests_ok (Φ := ⟨fx, oa, G⟩) (h2 oa G)
  rw [(h1 G).1, (h1 G).2, ← boolsD_eq] at q
  exact q
theorem evalEach_map {env : Env} : ∀ xs : List Expr, evalEach xs env = xs.map fun x => eval x env
  | [] => rfl
  | x :: r => congrArg (eval x env :: ·) (evalEach_map r)
theorem bools_val {b : Bool} {xs : List Expr} {p : Pos} (hne : (!xs.isEmpty) = true) (h : Kids fx.g fx.d (xs.map fun x => (sxOf fx, .val, x)) ds) : ∀ oa G, Ev ⟨fx, oa, G⟩ (eval (.BoolOp (bop b) xs p) fx.env) (fun K => boolsD b ds G fun c => K (.bool c)) := fun oa G => by
  obtain ⟨qs, h1, h2⟩ := h.vals rfl rfl
  have q := ev_bools (Φ := ⟨fx, oa, G⟩) (b := b) (pos := p) (fun q m => (h2 oa G q m).2) fun e => by have := (h1 G).1; rw [e] at this; rw [← this] at hne; cases hne
  rw [show (qs G).map (fun q => eval q.1 fx.env) = xs.map fun x => eval x fx.env by rw [← (h1 G).1, List.map_map]; rfl, (h1 G).2, ← boolsD_eq] at q
  have e : eval (.BoolOp (bop b) xs p) fx.env = boolOp p (bop b) (xs.map fun x => eval x fx.env) := by
    rw [arm_eval_BoolOp, evalEach_map]
  rw [e]
  exact q
theorem exb_ok {t : Sem Flow} {Y : B} (h : FxOk fx → ExB fx t Y) : ExB fx t Y := fun oa G K s hd I => h I.ok oa G K s hd I
theorem bools_test {b : Bool} {xs : List Expr} {p : Pos} {w : Sem Value} (h : Kids fx.g fx.d (xs.map fun x => (sxOf fx, .test, x)) ds) : ∀ oa G, EvT ⟨fx, oa, G⟩ (isTrue (.BoolOp (bop b) xs p) fx.env w) (boolsD b ds G) := fun oa G => by
  obtain ⟨qs, h1, h2⟩ := h.tests rfl rfl
  have q := tests_of (Φ := ⟨fx, oa, G⟩) (b := b) (h2 oa G)
  rw [(h1 G).1, (h1 G).2, ← boolsD_eq] at q
  exact q
noncomputable def Vt (p : Pz) : Prop := p = .val ∨ p = .test
theorem gp {p : Pz} {d : D} (hp : Vt p) (h : GoodP fx .val x d) (e : isTrue x fx.env (eval x fx.env) = (do let v ← eval x fx.env; standAt x.pos; holding [v] (truthy v))) : GoodP fx p x d := by
  rcases hp with rfl | rfl
  · exact h
  · exact fun oa G => ev_test (h oa G) e
theorem comp_ok {j : Nat} (hk : ∀ ts, k ts = true → Kids fx.g fx.d ts ds) (h : chkV Z (.comp j) k (sxOf fx) .val x = true) : (GoodP fx .val x (evOp (callN fx.g.P fx.d) (.comp j) ds) ∧ isTrue x fx.env (eval x fx.env) = (do let v ← eval x fx.env; standAt x.pos; holding [v] (truthy v))) ∧ ∀ y py sp, GoodP fx (.asg y py sp) x (evOp (callN fx.g.P fx.d) (.comp j) ds) := by
  refine lComp (C := fun x => (GoodP fx .val x _ ∧ isTrue x fx.env (eval x fx.env) = (do let v ← eval x fx.env; standAt x.pos; holding [v] (truthy v))) ∧ ∀ y py sp, GoodP fx (.asg y py sp) x _) h fun elt gs scope p h => l1 (C := fun gs => (GoodP fx .val (.ListComp elt gs scope p) _ ∧ isTrue (.ListComp elt gs scope p) fx.env _ = _) ∧ ∀ y py sp, GoodP fx (.asg y py sp) (.ListComp elt gs scope p) _) h fun c h => ?_
  obtain ⟨T, it, ifs, asy⟩ := c
  refine a2e h fun e h => ?_
  obtain rfl : asy = 0 := eq_of_beq e
  refine lName (C := fun T => (GoodP fx .val (.ListComp elt [⟨T, it, ifs, 0⟩] scope p) _ ∧ _ = _) ∧ ∀ y py sp, GoodP fx (.asg y py sp) (.ListComp elt [⟨T, it, ifs, 0⟩] scope p) _) h fun m pm h => a2e h fun h1 h => a2e h fun e h => a2e h fun h3 hh => ?_
  obtain rfl := eq_of_beq e
  refine (hk _ hh).nc (C := fun ds => (GoodP fx .val _ (evOp _ (.comp _) ds) ∧ _ = _) ∧ ∀ y py sp, GoodP fx (.asg y py sp) _ (evOp _ (.comp _) ds)) fun ds1 dr a b => b.nc (C := fun dr => (GoodP fx .val _ (evOp _ (.comp _) (ds1 :: dr)) ∧ _ = _) ∧ ∀ y py sp, GoodP fx (.asg y py sp) _ (evOp _ (.comp _) (ds1 :: dr))) fun de ts b c => ?_
  have he : FxOk fx → ∀ C Y oa G, Ev ⟨compFx fx scope C m Y, oa, G⟩ (eval elt (compFx fx scope C m Y).env) (de G) := fun ok C Y oa G => b (compFx fx scope C m Y) rfl rfl (sx_comp ok.kind) oa G
  have ht : FxOk fx → ∀ C Y oa G, EvT ⟨compFx fx scope C m Y, oa, G⟩ (testsT ifs (compFx fx scope C m Y).env) (boolsD true ts G) := fun ok C Y oa G => kids_tests (fx := compFx fx scope C m Y) (by rw [sx_comp ok.kind]; exact c) oa G
  exact ⟨⟨fun oa G => ev_ok fun ok => ev_comp (Φ := ⟨fx, oa, G⟩) (compOk_of ok h1) h3 (a fx rfl rfl rfl oa G) (he ok) (ht ok), rfl⟩, fun y py sp k hT => exb_ok fun ok => ex_assign_comp (compOk_of ok h1) h3 (a fx rfl rfl rfl) (he ok) (ht ok) hT⟩
theorem vt_ok {p : Pz} (H : GOk fx.g Z) (hp : Vt p) (hk : ∀ ts, k ts = true → Kids fx.g fx.d ts ds) (h : chkV Z o k (sxOf fx) p x = true) : GoodP fx p x (evOp (callN fx.g.P fx.d) o ds) := by
  cases o with
  | lit v =>
    refine ((Bool.or_eq_true _ _).mp h).elim (fun h => lConst (C := fun x => GoodP fx p x _) h fun c j q h => gp hp (fun oa G => ev_lit (a2 h).1) rfl) fun h => lName (C := fun x => GoodP fx p x _) h fun m q h => a2e h fun hx h => a2e h fun e h => ?_
    obtain ⟨y, e1, e2⟩ := any_get e
    obtain rfl := litEq_of e2
    exact gp hp (fun oa G => ev_const hx (H.cons ▸ e1)) rfl
  | var j => exact lName (C := fun x => GoodP fx p x _) h fun m q h => a2e h fun e h => gp hp (fun oa G => ev_var (eq_of_beq e) (a2 h).1) rfl
  | bin op =>
    refine lBin (C := fun x => GoodP fx p x _) h fun l op' r q h => a2e h fun e hh => ?_
    obtain rfl := of_decide_eq_true e
    exact gp hp ((hk _ hh).n2 (C := fun ds => GoodP fx .val _ (evOp _ (.bin op) ds)) fun d e a b oa G => ev_bin (d1 := d G) (d2 := e G) (a fx rfl rfl rfl oa G) (b fx rfl rfl rfl oa G)) rfl
  | cmp c =>
    refine lCmp (C := fun x => GoodP fx p x _) h fun l ops rs q h => l1 (C := fun ops => GoodP fx p (.Compare l ops rs q) _) h fun c' h => a2e h fun e hh => ?_
    obtain rfl := of_decide_eq_true e
    refine l1 (C := fun rs => GoodP fx p (.Compare l _ rs q) _) hh fun r h => a2e h fun hs h => (hk _ h).n2 (C := fun ds => GoodP fx p _ (evOp _ (.cmp c) ds)) fun d e a b => ?_
    rcases hp with rfl | rfl
    · exact fun oa G => ev_cmp (d1 := d G) (d2 := e G) hs (a fx rfl rfl rfl oa G) (b fx rfl rfl rfl oa G)
    · exact fun oa G => test_cmp (d1 := d G) (d2 := e G) hs (a fx rfl rfl rfl oa G) (b fx rfl rfl rfl oa G)
  | chain =>
    refine lCmp (C := fun x => GoodP fx p x _) h fun l ops rs q h => a2e h fun e h => ?_
    rcases hp with rfl | rfl
    · refine l2 (C := fun ops => GoodP fx .val (.Compare l ops rs q) _) h fun c c' h => a2e h fun e h => a2e h fun e' hh => ?_
      obtain rfl := of_decide_eq_true e
      obtain rfl := of_decide_eq_true e'
      exact l2 (C := fun rs => GoodP fx .val (.Compare l _ rs q) _) hh fun r r' h => a2e h fun hs h => (hk _ h).n3 (C := fun ds => GoodP fx .val _ (evOp _ .chain ds)) fun d e f a b c oa G => ev_chain (d1 := d G) (d2 := e G) (d3 := f G) hs (a fx rfl rfl rfl oa G) (b fx rfl rfl rfl oa G) (c fx rfl rfl rfl oa G)
    · cases e
  | and =>
    refine lBool (C := fun x => GoodP fx p x _) h fun b xs q h => a2e h fun e h => a2e h fun hn hh => ?_
    obtain rfl := of_decide_eq_true e
    rcases hp with rfl | rfl
    · exact bools_val (b := true) hn (hk _ hh)
    · exact bools_test (b := true) (hk _ hh)
  | or =>
    refine lBool (C := fun x => GoodP fx p x _) h fun b xs q h => a2e h fun e h => a2e h fun hn hh => ?_
    obtain rfl := of_decide_eq_true e
    rcases hp with rfl | rfl
    · exact bools_val (b := false) hn (hk _ hh)
    · exact bools_test (b := false) (hk _ hh)
  | not =>
    refine lUn (C := fun x => GoodP fx p x _) h fun u y q h => a2e h fun e hh => ?_
    obtain rfl := of_decide_eq_true e
    refine (hk _ hh).n1 (C := fun ds => GoodP fx p _ (evOp _ .not ds)) fun d a => ?_
    rcases hp with rfl | rfl
    · exact fun oa G => ev_not (d := d G) (a fx rfl rfl rfl oa G)
    · exact fun oa G => test_not (d := d G) (a fx rfl rfl rfl oa G)
  | neg =>
    refine lUn (C := fun x => GoodP fx p x _) h fun u y q h => a2e h fun e h => a2e h fun i hh => ?_
    obtain rfl := of_decide_eq_true e
    rcases hp with rfl | rfl
    · exact (hk _ hh).n1 (C := fun ds => GoodP fx .val _ (evOp _ .neg ds)) fun d a oa G => ev_neg (d := d G) (a fx rfl rfl rfl oa G)
    · cases i
  | ite =>
    refine lIf (C := fun x => GoodP fx p x _) h fun c a b q h => (hk _ h).n3 (C := fun ds => GoodP fx p _ (evOp _ .ite ds)) fun d e f a b c => ?_
    rcases hp with rfl | rfl
    · exact fun oa G => ev_ite (d1 := d G) (d2 := e G) (d3 := f G) (a fx rfl rfl rfl oa G) (b fx rfl rfl rfl oa G) (c fx rfl rfl rfl oa G)
    · exact fun oa G => test_ite (d1 := d G) (d2 := e G) (d3 := f G) (a fx rfl rfl rfl oa G) (b fx rfl rfl rfl oa G) (c fx rfl rfl rfl oa G)
  | tuple => exact lTup (C := fun x => GoodP fx p x _) h fun xs j q h => a2e h fun hl h => gp hp ((hk _ h).node (f := fun xs => .Tuple xs j q) (op := fun xs K => okK (opN .tuple xs) K) rfl rfl hl fun oa G qs hq => ev_tuple hq) rfl
  | list => exact lLst (C := fun x => GoodP fx p x _) h fun xs q h => a2e h fun hl h => gp hp ((hk _ h).node (f := fun xs => .List xs q) (op := fun xs K => okK (opN .list xs) K) rfl rfl hl fun oa G qs hq => ev_list hq) rfl
  | sub => exact lSub (C := fun x => GoodP fx p x _) h fun v s q h => gp hp ((hk _ h).n2 (C := fun ds => GoodP fx .val _ (evOp _ .sub ds)) fun d e a b oa G => ev_sub (d1 := d G) (d2 := e G) (a fx rfl rfl rfl oa G) (b fx rfl rfl rfl oa G)) rfl
  | slice bl bh =>
    refine lSub (C := fun x => GoodP fx p x _) h fun v s q h => lSlc (C := fun s => GoodP fx p (.Subscript v s q) _) h fun lo hi st q' h => a2e h fun e0 h => a2e h fun e1 h => a2e h fun e2 hh => ?_
    obtain rfl := eq_of_beq e1
    obtain rfl := eq_of_beq e2
    obtain rfl : st = none := Option.isNone_iff_eq_none.mp e0
    refine gp hp ?_ rfl
    cases lo with
    | none => cases hi with
      | none => exact (hk _ hh).n1 (C := fun ds => GoodP fx .val _ (evOp _ (.slice false false) ds)) fun d a oa G => ev_slice (d1 := d G) (a fx rfl rfl rfl oa G) ev_none ev_none
      | some e' => exact (hk _ hh).n2 (C := fun ds => GoodP fx .val _ (evOp _ (.slice false true) ds)) fun d e a b oa G => ev_slice (d1 := d G) (a fx rfl rfl rfl oa G) ev_none (ev_some (d := e G) (b fx rfl rfl rfl oa G))
    | some e' => cases hi with
      | none => exact (hk _ hh).n2 (C := fun ds => GoodP fx .val _ (evOp _ (.slice true false) ds)) fun d e a b oa G => ev_slice (d1 := d G) (a fx rfl rfl rfl oa G) (ev_some (d := e G) (b fx rfl rfl rfl oa G)) ev_none
      | some e' => exact (hk _ hh).n3 (C := fun ds => GoodP fx .val _ (evOp _ (.slice true true) ds)) fun d e f a b c oa G => ev_slice (d1 := d G) (a fx rfl rfl rfl oa G) (ev_some (d := e G) (b fx rfl rfl rfl oa G)) (ev_some (d := f G) (c fx rfl rfl rfl oa G))
  | attr j => exact lAttr (C := fun x => GoodP fx p x _) h fun y nm q h => a2e h fun hs h => a2e h fun e h => gp hp ((hk _ h).n1 (C := fun ds => GoodP fx .val _ (evOp _ (.attr j) ds)) fun d a oa G => ev_attr (Φ := ⟨fx, oa, G⟩) (d := d G) hs (by rw [H.flds]; exact eq_of_beq e) (a fx rfl rfl rfl oa G)) rfl
  | comp j => exact (comp_ok (Z := Z) hk h).1.elim fun a b => gp hp a b
  | isinst t =>
    refine lnCall (C := fun x => GoodP fx p x _) h fun q xs r hx h => l2 (C := fun xs => GoodP fx p (.Call _ xs [] r) _) h fun y z h => a2e h fun hl h => lName (C := fun z => GoodP fx p (.Call _ [y, z] [] r) _) h fun T pT h => a2e h fun hT h => a2e h fun ht hh => ?_
    obtain ⟨T', e1, e2⟩ := any_get ht
    have e2 : T = Str.ofString T' := eq_of_beq e2
    subst e2
    refine gp hp ((hk _ hh).n1 (C := fun ds => GoodP fx .val _ (evOp _ (.isinst t) ds)) fun d a oa G => ?_) rfl
    have z := ev_isi (Φ := ⟨fx, oa, G⟩) (fp := q) (pos := r) (pT := pT) (q := (y, d G)) e1 hx hT hl (a fx rfl rfl rfl oa G)
    have e : (fun K => d G fun x => okK (isT x t) fun b => K (.bool b)) = evOp (callN fx.g.P fx.d) (.isinst t) [d] G := funext fun K => congrArg (d G) (funext fun x => okK_map.symm)
    exact e ▸ z
  | len => exact lnCall1 (C := fun x => GoodP fx p x _) h fun q y r hx h => gp hp ((hk _ (a2 h).2).n1 (C := fun ds => GoodP fx .val _ (evOp _ .len ds)) fun d a oa G => ev_len (q := (y, d G)) hx ⟨(a2 h).1, a fx rfl rfl rfl oa G⟩) rfl
  | lenL j => exact lnCall1 (C := fun x => GoodP fx p x _) h fun q y r hx h => gp hp (lName (C := fun z => GoodP fx .val (.Call _ [z] [] r) _) h fun m pm h oa G => ev_lenL hx (eq_of_beq (a2 h).1) (a2 h).2) rfl
  | lenD j => exact lnCall1 (C := fun x => GoodP fx p x _) h fun q y r hx h => gp hp (lName (C := fun z => GoodP fx .val (.Call _ [z] [] r) _) h fun m pm h oa G => ev_lenD hx (eq_of_beq (a2 h).1) (a2 h).2) rfl
  | lenSet => exact lnCall1 (C := fun x => GoodP fx p x _) h fun q y r hx h => gp hp (lnCall1 (C := fun y => GoodP fx .val (.Call _ [y] [] r) _) h fun p1 z p2 hs h => (hk _ (a2 h).2).n1 (C := fun ds => GoodP fx .val _ (evOp _ .lenSet ds)) fun d a oa G => ev_lenSet (d := d G) hx hs (a2 h).1 (a fx rfl rfl rfl oa G)) rfl
  | listOf => exact lnCall (C := fun x => GoodP fx p x _) h fun q xs r hx h => gp hp ((hk _ (a2 h).2).node (f := fun xs => .Call (.Name "list" q) xs [] r) (op := fun xs K => okK (opN .listOf xs) K) rfl rfl (a2 h).1 fun oa G qs hq => ev_listOf hx hq) rfl
  | valsD j =>
    refine lnCall1 (C := fun x => GoodP fx p x _) h fun q y r hx h => gp hp (lmCall (C := fun y => GoodP fx .val (.Call _ [y] [] r) _) h fun v nm pa xs pc hl h => a2e h fun e h => a2e h fun e' hh => ?_) rfl
    have e : nm = "values" := eq_of_beq e
    subst e
    exact ln (C := fun xs => GoodP fx .val (.Call _ [.Call _ xs [] pc] [] r) _) e' (lName (C := fun v => GoodP fx .val (.Call _ [.Call (.Attribute v _ pa) [] [] pc] [] r) _) hh fun m pm h oa G => ev_valsD hx (eq_of_beq (a2 h).1) (a2 h).2 hl)
  | sorted => exact lnCall1 (C := fun x => GoodP fx p x _) h fun q y r hx h => gp hp ((hk _ (a2 h).2).n1 (C := fun ds => GoodP fx .val _ (evOp _ .sorted ds)) fun d a oa G => ev_sorted (d := d G) hx (a2 h).1 (a fx rfl rfl rfl oa G)) rfl
  | sortedSet => exact lnCall1 (C := fun x => GoodP fx p x _) h fun q y r hx h => gp hp (lnCall1 (C := fun y => GoodP fx .val (.Call _ [y] [] r) _) h fun p1 z p2 hs h => (hk _ (a2 h).2).n1 (C := fun ds => GoodP fx .val _ (evOp _ .sortedSet ds)) fun d a oa G => ev_sortedSet (d := d G) hx hs (a2 h).1 (a fx rfl rfl rfl oa G)) rfl
  | max2 => exact lnCall (C := fun x => GoodP fx p x _) h fun q xs r hx h => gp hp ((hk _ (a2 h).2).node (f := fun xs => .Call (.Name "max" q) xs [] r) (op := fun xs K => okK (opN .max2 xs) K) rfl rfl (a2 h).1 fun oa G qs hq => ev_max2 hx hq) rfl
  | maxD =>
    refine lCall (C := fun x => GoodP fx p x _) h fun u xs ks r h => lName (C := fun u => GoodP fx p (.Call u xs ks r) _) h fun n q h => a2e h fun e h => a2e h fun hx h => a2e h fun e' hh => ?_
    have e : n = "max" := eq_of_beq e
    subst e
    exact l1 (C := fun ks => GoodP fx p (.Call _ xs ks r) _) e' fun kw e => ldef1 (C := fun kw => GoodP fx p (.Call _ xs [kw] r) _) e fun j p1 p2 => l1 (C := fun xs => GoodP fx p (.Call _ xs _ r) _) hh fun y h => gp hp ((hk _ (a2 h).2).n1 (C := fun ds => GoodP fx .val _ (evOp _ .maxD ds)) fun d a oa G => ev_maxD (d := d G) hx (a2 h).1 (a fx rfl rfl rfl oa G)) rfl
  | call f =>
    refine lCall (C := fun x => GoodP fx p x _) h fun u xs ks r h => lName (C := fun u => GoodP fx p (.Call u xs ks r) _) h fun n q h => a2e h fun hf h => a2e h fun hx h => a2e h fun e h => a2e h fun hl h => ?_
    have hf := eq_of_beq hf
    exact ln (C := fun ks => GoodP fx p (.Call _ xs ks r) _) e (gp hp ((hk _ h).node (f := fun xs => .Call (.Name n q) xs [] r) (op := fun xs K => callN fx.g.P fx.d f xs K) rfl rfl hl fun oa G qs hq => ev_call (Φ := ⟨fx, oa, G⟩) hx (H.fns ▸ hf) (H.keep _ _ hf) hq) rfl)
  | join => exact lmCall1 (C := fun x => GoodP fx p x _) h fun y q e r hl hs he h => gp hp ((hk _ h).n2 (C := fun ds => GoodP fx .val _ (evOp _ .join ds)) fun d e a b oa G => ev_join (d1 := d G) (d2 := e G) hs he hl (a fx rfl rfl rfl oa G) (b fx rfl rfl rfl oa G)) rfl
  | count => exact lmCall1 (C := fun x => GoodP fx p x _) h fun y q e r hl hs he h => gp hp ((hk _ h).n2 (C := fun ds => GoodP fx .val _ (evOp _ .count ds)) fun d e a b oa G => ev_count (d1 := d G) (d2 := e G) hs he hl (a fx rfl rfl rfl oa G) (b fx rfl rfl rfl oa G)) rfl
  | getD j =>
    refine lmCall (C := fun x => GoodP fx p x _) h fun y nm q xs r hl h => a2e h fun e hh => ?_
    have e : nm = "get" := eq_of_beq e
    subst e
    exact lName (C := fun y => GoodP fx p (.Call (.Attribute y _ q) xs [] r) _) hh fun m pm h => a2e h fun e h => a2e h fun ho h => l2 (C := fun xs => GoodP fx p (.Call _ xs [] r) _) h fun y z h => a2e h fun h1 h => a2e h fun h2 h => gp hp ((hk _ h).n2 (C := fun ds => GoodP fx .val _ (evOp _ (.getD j) ds)) fun d e' a b oa G => ev_getD (d1 := d G) (d2 := e' G) (eq_of_beq e) ho h1 h2 hl (a fx rfl rfl rfl oa G) (b fx rfl rfl rfl oa G)) rfl
  | meth f =>
    refine lmCall (C := fun x => GoodP fx p x _) h fun y nm q xs r hl h => a2e h fun hs h => a2e h fun e h => a2e h fun hm h => ?_
    obtain ⟨m1, m2, m3, m4⟩ := H.meths _ _ (eq_of_beq hm)
    exact ln (C := fun xs => GoodP fx p (.Call _ xs [] r) _) e (gp hp ((hk _ h).n1 (C := fun ds => GoodP fx .val _ (evOp _ (.meth f) ds)) fun d a oa G => ev_meth (Φ := ⟨fx, oa, G⟩) (d := d G) hs hl m1 m2 m3 m4 (a fx rfl rfl rfl oa G)) rfl)
  | _ => cases h
end
end Mine
end

noncomputable section
set_option maxRecDepth 100000
set_option linter.unusedVariables false
set_option genSizeOf false
set_option genSizeOfSpec false
set_option genInjectivity false
namespace Mine
open PySem PySem.Calls PyProof.Rows PySem.W

section
variable {g : Gl} {n : Nat} {Z : Zx} {o : Op} {k : List Kid → Bool} {ds : List D} {fx : Fx} {x : Expr}
theorem chkR_ok {f : Str} {st : Bool} {T : Expr} {op : List V → Option V} (h : chkR k (sxOf fx) f x = true) (hk : ∀ ts, k ts = true → Kids fx.g fx.d ts ds)
    (hs : ∀ oa G fp pos (qs : List (Expr × DV)), glob fx.env.scope.names f = true → (∀ q ∈ qs, plainE q.1 = true ∧ Good1 ⟨fx, oa, G⟩ q) → EvSrc ⟨fx, oa, G⟩ T st (.Call (.Name f fp) (qs.map Prod.fst) [] pos) (fun K => manyV (qs.map Prod.snd) fun xs => okK (op xs) fun z => okK (seqV z) K)) :
    ∀ oa G, EvSrc ⟨fx, oa, G⟩ T st x (fun K => manyD ds G fun xs => okK (op xs) fun z => okK (seqV z) K) := by
  refine lnCall (C := fun x => ∀ oa G, EvSrc ⟨fx, oa, G⟩ T st x (fun K => manyD ds G fun xs => okK (op xs) fun z => okK (seqV z) K)) h fun q xs p hg h oa G => ?_
  obtain ⟨qs, h1, h2⟩ := (hk _ (a2 h).2).items rfl rfl (a2 h).1
  have z := hs oa G q p (qs G) hg (h2 oa G)
  rw [(h1 G).1, (h1 G).2, ← manyD_eq] at z
  exact z
theorem asg_ok {y : Str} {py sp : Pos} (H : GOk fx.g Z) (hk : ∀ ts, k ts = true → Kids fx.g fx.d ts ds) (h : chkA1 Z o k (sxOf fx) x = true) : GoodP fx (.asg y py sp) x (evOp (callN fx.g.P fx.d) o ds) := by
  exact ((Bool.or_eq_true _ _).mp h).elim (fun h => a2e h fun hn h k hT => ex_assign (swaps_no hn) hT (vt_ok H (.inl rfl) hk h)) fun h => a2e h fun hc h => Op.comp.elim (motive := fun o => chkV Z o k (sxOf fx) .val x = true → GoodP fx (.asg y py sp) x (evOp (callN fx.g.P fx.d) o ds)) o (eq_of_beq hc) (fun j h => (comp_ok hk h).2 y py sp) h
theorem src_ok {st : Bool} {T : Expr} (H : GOk fx.g Z) (hk : ∀ ts, k ts = true → Kids fx.g fx.d ts ds) (h : chkX Z o k (sxOf fx) (.src st T) x = true) : GoodP fx (.src st T) x (evOp (callN fx.g.P fx.d) o ds) := by
  have go : chkV Z o k (sxOf fx) .val x = true → GoodP fx (.src st T) x (evOp (callN fx.g.P fx.d) o ds) := fun h oa G => src_e (vt_ok H (.inl rfl) hk h oa G)
  cases o with
  | own j =>
    replace h := a2 h
    have hs := h.1
    replace h := h.2
    cases st with
    | true => cases hs
    | false =>
      refine lName (C := fun x => GoodP fx (.src false T) x _) h fun m p h2 => ?_
      clear h
      have h := h2
      clear h2
      exact fun oa G => src_own (eq_of_beq (a2 h).1) (a2 (a2 h).2).1
  | range => exact chkR_ok (op := opN .range) h hk fun oa G fp pos qs hg hq => src_range hg hq
  | zip =>
    refine lTup (C := fun T => GoodP fx (.src st T) x _) h fun es j p h2 => ?_
    clear h
    have h := h2
    clear h2
    exact chkR_ok (op := opN .zip) h hk fun oa G fp pos qs hg hq => src_zip hg hq
  | _ => exact go h
theorem node_ok {t : Kid} (H : GOk g Z) (hk : ∀ ts, k ts = true → Kids g n ts ds) (h : chkX Z o k t.1 t.2.1 t.2.2 = true) : KidOk g n t (evOp (callN g.P n) o ds) := fun fx hg hn hX => by
  subst hg hn
  obtain ⟨X, p, x⟩ := t
  subst hX
  cases p with
  | val => exact vt_ok H (.inl rfl) hk h
  | test => exact vt_ok H (.inr rfl) hk h
  | src st T => exact src_ok H hk h
  | asg y py sp => exact asg_ok H hk h
noncomputable def AllOk (g : Gl) (n : Nat) (cs : List Ck) (ds : List D) : Prop := ∀ ts, kidsB cs ts = true → Kids g n ts ds
theorem AllOk.nil : AllOk g n [] [] := fun ts h => by
  cases ts with
  | nil => exact .nil
  | cons => cases h
theorem AllOk.cons {c : Ck} {d : D} {cs : List Ck} (h1 : ∀ t, c t = true → KidOk g n t d) (h2 : AllOk g n cs ds) : AllOk g n (c :: cs) (d :: ds) := fun ts h => by
  cases ts with
  | nil => cases h
  | cons t r => exact .cons (h1 t (a2 h).1) (h2 r (a2 h).2)
theorem simE (H : GOk g Z) (e : E) : ∀ t, chkE Z e t = true → KidOk g n t (ev (callN g.P n) e) :=
  E.rec (motive_1 := fun e => ∀ t, chkE Z e t = true → KidOk g n t (ev (callN g.P n) e)) (motive_2 := fun es => AllOk g n (E.rec_1 (motive_1 := fun _ => Ck) (motive_2 := fun _ => List Ck) (fun o _ ih t => chkX Z o (kidsB ih) t.1 t.2.1 t.2.2) [] (fun _ _ i is => i :: is) es) (E.rec_1 (motive_1 := fun _ => D) (motive_2 := fun _ => List D) (fun o _ ih => evOp (callN g.P n) o ih) [] (fun _ _ i is => i :: is) es))
    (fun o es ih t h => node_ok H ih h) .nil (fun e es i is => .cons i is) e
theorem simEs (H : GOk g Z) : ∀ es : List E, AllOk g n (es.map (chkE Z)) (es.map (ev (callN g.P n)))
  | [] => .nil
  | e :: r => .cons (simE H e) (simEs H r)
end

/-! statements -/
noncomputable def tgtOk (X : Sx) (m : Str) (j : Nat) : Bool := X.ρ.lookup m == some j && !(X.sc.lookup m == some .free)
theorem tgt_of {fx : Fx} {m : Str} {j : Nat} (h : tgtOk (sxOf fx) m j = true) : TgtOk fx.ρ fx.env m j :=
  ⟨eq_of_beq (a2 h).1, fun e => by
    have h := (a2 h).2
    have e : (sxOf fx).sc.lookup m = some .free := e
    rw [e] at h; cases h⟩
noncomputable def tgtsOk (X : Sx) : List Expr → List Nat → Bool
  | [], js => js.isEmpty
  | t :: r, js => (vName t).any fun m => match js with | [] => false | j :: q => tgtOk X m.1 j && tgtsOk X r q
theorem tgts_of {fx : Fx} : ∀ {es : List Expr} {js : List Nat}, tgtsOk (sxOf fx) es js = true → TgtsOk fx.ρ fx.env es js
  | [], js, h => ln (C := fun js => TgtsOk fx.ρ fx.env [] js) h .nil
  | t :: r, js, h => lName (C := fun t => TgtsOk fx.ρ fx.env (t :: r) js) h fun m p h => by
    cases js with
    | nil => cases h
    | cons j q => exact .cons (tgt_of (a2 h).1) (tgts_of (a2 h).2)
theorem swaps_none {value : Expr} {n : Nat} {env : Env} (h : notComp value = true) : swapsWith value none n env = pure false := by
  cases value <;> first | rfl | cases h
/-! looks at a statement -/
noncomputable def vAsg (x : Stmt) (f : Expr → Expr → Pos → Bool) : Bool := if h : x.ctorIdx = 5 then Stmt.Assign.elim (motive_2 := fun _ => Bool) x h fun ts v p => (sole ts).any fun t => f t v p else false
theorem lAsg {x : Stmt} {f : Expr → Expr → Pos → Bool} {C : Stmt → Prop} (h : vAsg x f = true) (k : ∀ t v p, f t v p = true → C (.Assign [t] v p)) : C x :=
  if hi : x.ctorIdx = 5 then Stmt.Assign.elim (motive_2 := fun x => vAsg x f = true → C x) x hi (fun ts v p h => l1 (C := fun ts => C (.Assign ts v p)) h fun t h => k t v p h) h else by
    unfold vAsg at h; rw [dif_neg hi] at h; cases h
noncomputable def vExS (x : Stmt) (f : Expr → Bool) : Bool := if h : x.ctorIdx = 24 then Stmt.Expr.elim (motive_2 := fun _ => Bool) x h fun e _ => f e else false
theorem lExS {x : Stmt} {f : Expr → Bool} {C : Stmt → Prop} (h : vExS x f = true) (k : ∀ e p, f e = true → C (.Expr e p)) : C x :=
  if hi : x.ctorIdx = 24 then Stmt.Expr.elim (motive_2 := fun x => vExS x f = true → C x) x hi (fun e p h => k e p h) h else by
    unfold vExS at h; rw [dif_neg hi] at h; cases h
noncomputable def vRet (x : Stmt) (f : Expr → Bool) : Bool := if h : x.ctorIdx = 3 then Stmt.Return.elim (motive_2 := fun _ => Bool) x h fun e _ => e.any f else false
theorem lRet {x : Stmt} {f : Expr → Bool} {C : Stmt → Prop} (h : vRet x f = true) (k : ∀ e p, f e = true → C (.Return (some e) p)) : C x :=
  if hi : x.ctorIdx = 3 then Stmt.Return.elim (motive_2 := fun x => vRet x f = true → C x) x hi (fun e p h => by
    cases e with
    | none => cases h
    | some e => exact k e p h) h else by
    unfold vRet at h; rw [dif_neg hi] at h; cases h
noncomputable def vIfS (x : Stmt) (f : Expr → List Stmt → List Stmt → Bool) : Bool := if h : x.ctorIdx = 12 then Stmt.If.elim (motive_2 := fun _ => Bool) x h fun c a b _ => f c a b else false
theorem lIfS {x : Stmt} {f : Expr → List Stmt → List Stmt → Bool} {C : Stmt → Prop} (h : vIfS x f = true) (k : ∀ c a b p, f c a b = true → C (.If c a b p)) : C x :=
  if hi : x.ctorIdx = 12 then Stmt.If.elim (motive_2 := fun x => vIfS x f = true → C x) x hi (fun c a b p h => k c a b p h) h else by
    unfold vIfS at h; rw [dif_neg hi] at h; cases h
noncomputable def vFor (x : Stmt) (f : Expr → Expr → List Stmt → Bool) : Bool := if h : x.ctorIdx = 9 then Stmt.For.elim (motive_2 := fun _ => Bool) x h fun T it body el _ => el.isEmpty && f T it body else false
theorem lFor {x : Stmt} {f : Expr → Expr → List Stmt → Bool} {C : Stmt → Prop} (h : vFor x f = true) (k : ∀ T it body p, f T it body = true → C (.For T it body [] p)) : C x :=
  if hi : x.ctorIdx = 9 then Stmt.For.elim (motive_2 := fun x => vFor x f = true → C x) x hi (fun T it body el p h => ln (C := fun el => C (.For T it body el p)) (a2 h).1 (k T it body p (a2 h).2)) h else by
    unfold vFor at h; rw [dif_neg hi] at h; cases h
noncomputable abbrev CkS := Sx → List Stmt → Bool
section
variable (Z : Zx) (o : SOp) (k : List Kid → Bool) (ca cb : CkS) (X : Sx)
noncomputable def chkX1 (x : Stmt) : Bool := match o with
  | .assign j => vAsg x fun t v p => (vName t).any fun m => tgtOk X m.1 j && k [(X, .asg m.1 m.2 p, v)]
  | .assignM js => vAsg x fun t v p => (vTup t).any fun q => tgtsOk X q.1 js && (noSwap v && k [(X, .val, v)])
  | .ownL j => vAsg x fun t v p => (vName t).any fun m => tgtOk X m.1 j && (vLst v).any fun q => plains q.1 && k (q.1.map fun x => (X, .val, x))
  | .ownD j => vAsg x fun t v p => (vName t).any fun m => tgtOk X m.1 j && (vDict v).any fun q => q.1.isEmpty && q.2.1.isEmpty
  | .setD j => vAsg x fun t v p => (vSub t).any fun u => (vName u.1).any fun m => X.ρ.lookup m.1 == some j && (okName m.1 && (notComp v && k [(X, .val, v), (X, .val, u.2.1)]))
  | .setAttr i j => vAsg x fun t v p => (vAttr t).any fun u => (vName u.1).any fun m => X.ρ.lookup m.1 == some i && (okName m.1 && (Z.flds[j]? == some u.2.1 && (notComp v && k [(X, .val, v)])))
  | .call => vExS x fun e => notComp e && k [(X, .val, e)]
  | .append j => vExS x fun e => mCall e fun y nm xs => nm == ("append" : Str) && ((sole xs).any (fun e => plainE e && k [(X, .val, e)]) && (vName y).any fun m => X.ρ.lookup m.1 == some j && okName m.1)
  | .ret => vRet x fun e => k [(X, .val, e)]
  | .ite => vIfS x fun c a b => k [(X, .test, c)] && (ca X a && cb X b)
  | .forS j => vFor x fun T it body => notSet it && (ca X body && (vName T).any fun m => tgtOk X m.1 j && k [(X, .src true (.Name m.1 m.2), it)])
  | .forM js => vFor x fun T it body => notSet it && (ca X body && (vTup T).any fun q => tgtsOk X q.1 js && k [(X, .src true (.Tuple q.1 q.2.1 q.2.2), it)])
  | .freeze _ => false
  | .raise => true
end
noncomputable def isFreeze : S → Bool
  | .mk (.freeze _) _ _ _ => true
  | _ => false
noncomputable def seqC (s : S) (i : Sx → Stmt → Bool) (is : CkS) : CkS := fun X sts => if isFreeze s = true then is X sts else match sts with | [] => false | x :: r => i X x && is X r
noncomputable def chkS (Z : Zx) (s : S) : Sx → Stmt → Bool :=
  S.rec (motive_1 := fun _ => Sx → Stmt → Bool) (motive_2 := fun _ => CkS) (fun o es _ _ a b X x => chkX1 Z o (kidsB (es.map (chkE Z))) a b X x) (fun _ sts => sts.isEmpty) (fun s _ i is => seqC s i is) s
noncomputable def chkSs (Z : Zx) (l : List S) : CkS := List.rec (motive := fun _ => CkS) (fun _ sts => sts.isEmpty) (fun s _ is => seqC s (chkS Z s) is) l
section
variable {g : Gl} {n : Nat} {Z : Zx} {o : SOp} {k : List Kid → Bool} {ds : List D} {fx : Fx} {ca cb : CkS} {YA YB : B}
noncomputable def SOk (g : Gl) (n : Nat) (c : CkS) (Y : B) : Prop := ∀ fx sts, fx.g = g → fx.d = n → c (sxOf fx) sts = true → ExB fx (execs sts fx.env) Y
theorem stmt_ok {x : Stmt} (H : GOk fx.g Z) (hk : ∀ ts, k ts = true → Kids fx.g fx.d ts ds) (ha : SOk fx.g fx.d ca YA) (hb : SOk fx.g fx.d cb YB) (h : chkX1 Z o k ca cb (sxOf fx) x = true) : ExB fx (exec x fx.env) (exOp (callN fx.g.P fx.d) o ds YA YB) := by
  cases o with
  | assign j => exact lAsg (C := fun x => ExB fx (exec x fx.env) _) h fun t v p h => lName (C := fun t => ExB fx (exec (.Assign [t] v p) fx.env) _) h fun m q h => (hk _ (a2 h).2).n1 (C := fun ds => ExB fx _ (exOp _ (.assign j) ds YA YB)) fun d a => a fx rfl rfl rfl j (tgt_of (a2 h).1)
  | assignM js => exact lAsg (C := fun x => ExB fx (exec x fx.env) _) h fun t v p h => lTup (C := fun t => ExB fx (exec (.Assign [t] v p) fx.env) _) h fun es j q h => a2e h fun h1 h => (hk _ (a2 h).2).n1 (C := fun ds => ExB fx _ (exOp _ (.assignM js) ds YA YB)) fun d a => ex_assignM (a2 h).1 (tgts_of h1) (a fx rfl rfl rfl)
  | ownL j =>
    refine lAsg (C := fun x => ExB fx (exec x fx.env) _) h fun t v p h => lName (C := fun t => ExB fx (exec (.Assign [t] v p) fx.env) _) h fun m q h => a2e h fun h1 h => lLst (C := fun v => ExB fx (exec (.Assign [_] v p) fx.env) _) h fun xs q' h => ?_
    obtain ⟨qs, e1, e2⟩ := (hk _ (a2 h).2).items rfl rfl (a2 h).1
    have z := ex_ownL (py := q) (spos := p) (pos := q') (tgt_of h1) (fun G => (e1 G).1) e2
    rw [show (fun (G : Gs) (K : Option V → Gs → Prop) => manyV ((qs G).map Prod.snd) fun xs => xs.length ≤ szLine ∧ K none (G.set j (.ownL xs))) = fun G K => manyD ds G fun xs => xs.length ≤ szLine ∧ K none (G.set j (.ownL xs)) from funext fun G => funext fun K => by rw [(e1 G).2, manyD_eq]] at z
    exact z
  | ownD j => exact lAsg (C := fun x => ExB fx (exec x fx.env) _) h fun t v p h => lName (C := fun t => ExB fx (exec (.Assign [t] v p) fx.env) _) h fun m q h => a2e h fun h1 h => lDict (C := fun v => ExB fx (exec (.Assign [_] v p) fx.env) _) h fun ks vs q' h => ln (C := fun ks => ExB fx (exec (.Assign [_] (.Dict ks vs q') p) fx.env) _) (a2 h).1 (ln (C := fun vs => ExB fx (exec (.Assign [_] (.Dict [] vs q') p) fx.env) _) (a2 h).2 (ex_ownD (tgt_of h1)))
  | setD j => exact lAsg (C := fun x => ExB fx (exec x fx.env) _) h fun t v p h => lSub (C := fun t => ExB fx (exec (.Assign [t] v p) fx.env) _) h fun u i q h => lName (C := fun u => ExB fx (exec (.Assign [.Subscript u i q] v p) fx.env) _) h fun m q' h => a2e h fun h1 h => a2e h fun h2 h => a2e h fun h3 h => (hk _ h).n2 (C := fun ds => ExB fx _ (exOp _ (.setD j) ds YA YB)) fun d e a b => ex_setD (eq_of_beq h1) h2 h3 (a fx rfl rfl rfl) (b fx rfl rfl rfl)
  | setAttr i j => exact lAsg (C := fun x => ExB fx (exec x fx.env) _) h fun t v p h => lAttr (C := fun t => ExB fx (exec (.Assign [t] v p) fx.env) _) h fun u nm q h => lName (C := fun u => ExB fx (exec (.Assign [.Attribute u nm q] v p) fx.env) _) h fun m q' h => a2e h fun h1 h => a2e h fun h2 h => a2e h fun h3 h => a2e h fun h4 h => (hk _ h).n1 (C := fun ds => ExB fx _ (exOp _ (.setAttr i j) ds YA YB)) fun d a => ex_setAttr (eq_of_beq h1) h2 (by rw [H.flds]; exact eq_of_beq h3) h4 (a fx rfl rfl rfl)
  | call => exact lExS (C := fun x => ExB fx (exec x fx.env) _) h fun e p h => (hk _ (a2 h).2).n1 (C := fun ds => ExB fx _ (exOp _ .call ds YA YB)) fun d a => ex_expr (fun _ => swaps_none (a2 h).1) (a fx rfl rfl rfl)
  | append j =>
    refine lExS (C := fun x => ExB fx (exec x fx.env) _) h fun e p h => lmCall (C := fun e => ExB fx (exec (.Expr e p) fx.env) _) h fun y nm q xs r hl h => a2e h fun e h => a2e h fun h1 hh => ?_
    have e : nm = "append" := eq_of_beq e
    subst e
    exact lName (C := fun y => ExB fx (exec (.Expr (.Call (.Attribute y _ q) xs [] r) p) fx.env) _) hh fun m pm h2 => l1 (C := fun xs => ExB fx (exec (.Expr (.Call _ xs [] r) p) fx.env) _) h1 fun y h => (hk _ (a2 h).2).n1 (C := fun ds => ExB fx _ (exOp _ (.append j) ds YA YB)) fun d a => ex_append (eq_of_beq (a2 h2).1) (a2 h2).2 (a2 h).1 hl (a fx rfl rfl rfl)
  | ret => exact lRet (C := fun x => ExB fx (exec x fx.env) _) h fun e p h => (hk _ h).n1 (C := fun ds => ExB fx _ (exOp _ .ret ds YA YB)) fun d a => ex_ret (a fx rfl rfl rfl)
  | ite => exact lIfS (C := fun x => ExB fx (exec x fx.env) _) h fun c a b p h => a2e h fun h1 h => (hk _ h1).n1 (C := fun ds => ExB fx _ (exOp _ .ite ds YA YB)) fun d q => ex_if (q fx rfl rfl rfl) (ha fx _ rfl rfl (a2 h).1) (hb fx _ rfl rfl (a2 h).2)
  | forS j => exact lFor (C := fun x => ExB fx (exec x fx.env) _) h fun T it body p h => a2e h fun h2 h => a2e h fun h3 h => lName (C := fun T => ExB fx (exec (.For T it body [] p) fx.env) _) h fun m q h => (hk _ (a2 h).2).n1 (C := fun ds => ExB fx _ (exOp _ (.forS j) ds YA YB)) fun d a => ex_for h2 (sim_tgt1 (tgt_of (a2 h).1)) (a fx rfl rfl rfl) fun X => ha (fx.mo X) _ rfl rfl h3
  | forM js => exact lFor (C := fun x => ExB fx (exec x fx.env) _) h fun T it body p h => a2e h fun h2 h => a2e h fun h3 h => lTup (C := fun T => ExB fx (exec (.For T it body [] p) fx.env) _) h fun es j q h => (hk _ (a2 h).2).n1 (C := fun ds => ExB fx _ (exOp _ (.forM js) ds YA YB)) fun d a => ex_for h2 (sim_tgtM (tgts_of (a2 h).1)) (a fx rfl rfl rfl) fun X => ha (fx.mo X) _ rfl rfl h3
  | freeze j => cases h
  | raise => exact ex_raise
theorem nil_ok : SOk g n (fun _ sts => sts.isEmpty) (fun G K => K none G) := fun fx sts _ _ h => ln (C := fun sts => ExB fx (execs sts fx.env) _) h ex_nil
theorem seq_ok {s : S} {Y : B} {i : Sx → Stmt → Bool} {is : CkS} (h1 : ∀ fx x, fx.g = g → fx.d = n → i (sxOf fx) x = true → ExB fx (exec x fx.env) (ex (callN g.P n) s)) (h2 : SOk g n is Y) :
    SOk g n (seqC s i is) (fun G K => ex (callN g.P n) s G fun fl G' => match fl with | none => Y G' K | some x => K (some x) G') := fun fx sts hg hn h => by
  by_cases hf : isFreeze s = true
  · unfold seqC at h
    rw [if_pos hf] at h
    obtain ⟨o, es, a, b⟩ := s
    cases o with
    | freeze j => exact ex_freeze (h2 fx sts hg hn h)
    | _ => cases hf
  · unfold seqC at h
    rw [if_neg hf] at h
    cases sts with
    | nil => cases h
    | cons x r => exact ex_cons (h1 fx x hg hn (a2 h).1) (h2 fx r hg hn (a2 h).2)
theorem simS (H : GOk g Z) (s : S) : ∀ fx x, fx.g = g → fx.d = n → chkS Z s (sxOf fx) x = true → ExB fx (exec x fx.env) (ex (callN g.P n) s) :=
  S.rec (motive_1 := fun s => ∀ fx x, fx.g = g → fx.d = n → chkS Z s (sxOf fx) x = true → ExB fx (exec x fx.env) (ex (callN g.P n) s))
    (motive_2 := fun l => SOk g n (S.rec_1 (motive_1 := fun _ => Sx → Stmt → Bool) (motive_2 := fun _ => CkS) (fun o es _ _ a b X x => chkX1 Z o (kidsB (es.map (chkE Z))) a b X x) (fun _ sts => sts.isEmpty) (fun s _ i is => seqC s i is) l)
      (S.rec_1 (motive_1 := fun _ => B) (motive_2 := fun _ => B) (fun o es _ _ x y => exOp (callN g.P n) o (es.map (ev (callN g.P n))) x y) (fun G K => K none G) (fun _ _ i is G K => i G fun fl G' => match fl with | none => is G' K | some x => K (some x) G') l))
    (fun o es a b ha hb fx x hg hn h => by subst hg hn; exact stmt_ok H (simEs H es) ha hb h) nil_ok (fun s l i is => seq_ok i is) s
theorem simSs (H : GOk g Z) : ∀ l : List S, SOk g n (chkSs Z l) (exs (callN g.P n) l)
  | [] => nil_ok
  | s :: r => seq_ok (simS H s) (simSs H r)
end
end Mine
end

noncomputable section
set_option maxRecDepth 100000
set_option linter.unusedVariables false
namespace Mine
open PySem PySem.Calls PyProof.Rows PySem.W

/-! names and places -/
theorem cells_have : ∀ (names : List (Str × NameKind)) (n : Nat) (acc : List (Str × Addr)) (x : Str), ((x, NameKind.cell) ∈ names ∨ (acc.lookup x).isSome = true) → ((cellsFrom n names acc).lookup x).isSome = true
  | [], _, _, _, h => by
    rcases h with h | h
    · cases h
    · exact h
  | (y, k) :: r, n, acc, x, h => by
    unfold cellsFrom
    have more : ∀ q : Str × Addr, (acc.lookup x).isSome = true → ((q :: acc).lookup x).isSome = true := fun q e => by
      rw [List.lookup_cons]; split
      · rfl
      · exact e
    split
    · refine cells_have r _ _ x ?_
      rcases h with h | h
      · rcases List.mem_cons.mp h with e | e
        · cases e; right; rw [List.lookup_cons]; simp
        · exact .inl e
      · exact .inr (more _ h)
    · rename_i hk
      refine cells_have r _ _ x ?_
      rcases h with h | h
      · rcases List.mem_cons.mp h with e | e
        · cases e; exact absurd rfl hk
        · exact .inl e
      · exact .inr h
theorem bindL_get {kindOf : Str → Option NameKind} {x : Str} (hx : kindOf x = some .local) : ∀ (ps : List Str) (vs : List Value) (m : Str → Option Value), ps.Nodup → ps.length = vs.length →
    (∀ i : Nat, ps[i]? = some x → bindL kindOf (ps.zip vs) m x = vs[i]?) ∧ (x ∉ ps → bindL kindOf (ps.zip vs) m x = m x)
  | [], _, m, _, _ => ⟨fun i e => by simp at e, fun _ => by simp [bindL]⟩
  | p :: ps, [], m, _, e => by simp at e
  | p :: ps, v :: vs, m, hn, e => by
    obtain ⟨hp, hn'⟩ := List.nodup_cons.mp hn
    have ih := fun m => bindL_get hx ps vs m hn' (Nat.succ.inj e)
    refine ⟨fun i ei => ?_, fun nx => ?_⟩
    · show bindL kindOf (ps.zip vs) _ x = _
      cases i with
      | zero =>
        cases ei
        rw [(ih _).2 hp, if_pos hx]; exact if_pos rfl
      | succ i => exact (ih _).1 i ei
    · show bindL kindOf (ps.zip vs) _ x = _
      rw [(ih _).2 fun q => nx (.tail _ q)]
      split
      · exact if_neg fun q : x = p => nx (q ▸ .head _)
      · rfl
theorem bindC_get {kindOf : Str → Option NameKind} {x : Str} (hx : kindOf x ≠ some .local) : ∀ (ps : List Str) (vs : List Value) (m : Str → Option Value), ps.Nodup → ps.length = vs.length →
    (∀ i : Nat, ps[i]? = some x → bindC kindOf (ps.zip vs) m x = vs[i]?) ∧ (x ∉ ps → bindC kindOf (ps.zip vs) m x = m x)
  | [], _, m, _, _ => ⟨fun i e => by simp at e, fun _ => by simp [bindC]⟩
  | p :: ps, [], m, _, e => by simp at e
  | p :: ps, v :: vs, m, hn, e => by
    obtain ⟨hp, hn'⟩ := List.nodup_cons.mp hn
    have ih := fun m => bindC_get hx ps vs m hn' (Nat.succ.inj e)
    refine ⟨fun i ei => ?_, fun nx => ?_⟩
    · show bindC kindOf (ps.zip vs) _ x = _
      cases i with
      | zero =>
        cases ei
        rw [(ih _).2 hp, if_neg hx]; exact if_pos rfl
      | succ i => exact (ih _).1 i ei
    · show bindC kindOf (ps.zip vs) _ x = _
      rw [(ih _).2 fun q => nx (.tail _ q)]
      split
      · rfl
      · exact if_neg fun q : x = p => nx (q ▸ .head _)
theorem zipIdx_lookup : ∀ (l : List Str) (n : Nat) (x : Str) (k : Nat), (l.zipIdx n).lookup x = some k → ∃ j, k = n + j ∧ l[j]? = some x
  | [], _, _, _, e => nomatch e
  | y :: r, n, x, k, e => by
    rw [List.zipIdx_cons, List.lookup_cons] at e
    cases hb : x == y with
    | true => rw [hb] at e; cases e; rw [beq_iff_eq.mp hb]; exact ⟨0, rfl, rfl⟩
    | false =>
      rw [hb] at e
      obtain ⟨j, h1, h2⟩ := zipIdx_lookup r (n + 1) x k e
      exact ⟨j + 1, by rw [h1, Nat.add_assoc, Nat.add_comm 1], h2⟩
structure FnAt (g : Gl) (Z : Zx) (a : Addr) (fn : Fn) (fd : FuncData) (body : List Stmt) (nms : List Str) : Prop where
  at' : ∃ o : Obj, g.h0.get? a = some o ∧ o.data = .func fd
  bd : fd.body = .stmts body
  code : g.h0.CodeRec fd.code fd.qualname
  glo : fd.globals = mainGlobals
  blt : fd.builtins = builtinsNs
  clo : fd.closure = []
  co : fd.scope.isCoroutine = false
  gen : fd.scope.isGenerator = false
  kind : fd.scope.kind = .function
  bind : ∀ vals : List Value, vals.length = fn.npar → bindArgs fd ⟨vals, []⟩ = pure ((nms.take fn.npar).zip vals)
  nodup : nms.Nodup
  npar : fn.npar ≤ nms.length
  nslots : nms.length ≤ fn.nslots
  kinds : ∀ x ∈ nms, fd.scope.names.lookup x = some .local ∨ fd.scope.names.lookup x = some .cell
  chk : chkSs Z fn.body ⟨fd.scope.names, nms.zipIdx, nms.length, fn.nslots⟩ body = true
noncomputable def plOf (nms : List Str) (sc : List (Str × NameKind)) (L : Addr) (cs : List (Str × Addr)) (k : Nat) : Pl := match nms[k]? with
  | none => .off
  | some x => if sc.lookup x = some .local then .ns L x else match cs.lookup x with | some c => .cell c | none => .off

section
variable {g : Gl} {Z : Zx} {a : Addr} {fn : Fn} {fd : FuncData} {body : List Stmt} {nms : List Str}
theorem pl_cases (F : FnAt g Z a fn fd body nms) (L n : Nat) (k : Nat) : (nms[k]? = none ∧ plOf nms fd.scope.names L (cellsFrom n fd.scope.names []) k = .off) ∨ ∃ x, nms[k]? = some x ∧ ((fd.scope.names.lookup x = some .local ∧ plOf nms fd.scope.names L (cellsFrom n fd.scope.names []) k = .ns L x) ∨
    (fd.scope.names.lookup x = some .cell ∧ ∃ c, (cellsFrom n fd.scope.names []).lookup x = some c ∧ plOf nms fd.scope.names L (cellsFrom n fd.scope.names []) k = .cell c)) := by
  unfold plOf
  cases hk : nms[k]? with
  | none => exact .inl ⟨rfl, rfl⟩
  | some x =>
    refine .inr ⟨x, rfl, (F.kinds x (List.mem_of_getElem? hk)).imp (fun h => ⟨h, if_pos h⟩) fun h => ⟨h, ?_⟩⟩
    obtain ⟨c, hc⟩ := Option.isSome_iff_exists.mp (cells_have fd.scope.names n [] x (.inl (mem_of_lookup h)))
    refine ⟨c, hc, (if_neg fun q => ?_).trans ?_⟩
    · rw [h] at q; cases q
    · rw [hc]
theorem fx_ok {d : Nat} {A : Around} {L : Addr} {bad : Addr → Prop} (F : FnAt g Z a fn fd body nms) (gr : Ground g) (ih : CallOk g (callN g.P d) d) (hand : A.handled = none) (hroom : A.depth + (1 + 2 * d) < 990) (hunits : A.units + (3 + 4 * d) + 100 < cLine)
    (above : ∀ x c, (cellsFrom (L + 1) fd.scope.names []).lookup x = some c → L < c) (apart : (cellsFrom (L + 1) fd.scope.names []).Pairwise fun x y => x.2 ≠ y.2) :
    FxOk { g := g, A := A.deeper (callEnvC fd L a), env := callEnvC fd L a, ρ := nms.zipIdx, pl := plOf nms fd.scope.names L (cellsFrom (L + 1) fd.scope.names []), Mo := bad, nf := nms.length, ns := fn.nslots, d := d } where
  gr := gr
  hand := hand
  kind := F.kind
  globals := F.glo
  builtins := F.blt
  vis := fun x k hx => by
    obtain ⟨j, rfl, hj⟩ := zipIdx_lookup nms 0 x k hx
    rw [Nat.zero_add]
    rcases pl_cases F L (L + 1) j with ⟨q, _⟩ | ⟨y, q, z⟩ <;> rw [hj] at q <;> cases q
    exact z.imp (fun z => ⟨z.1, z.2⟩) fun ⟨z, c, hc, zp⟩ => ⟨.inl z, c, hc, zp⟩
  inj := fun k j e hne => by
    rcases pl_cases F L (L + 1) k with ⟨_, q⟩ | ⟨x, qk, zk⟩
    · exact absurd q hne
    rcases pl_cases F L (L + 1) j with ⟨_, q⟩ | ⟨y, qj, zj⟩
    · exact absurd (e.trans q) hne
    have e : plOf nms fd.scope.names L (cellsFrom (L + 1) fd.scope.names []) k = plOf nms fd.scope.names L (cellsFrom (L + 1) fd.scope.names []) j := e
    have : x = y := by
      rcases zk with ⟨_, q⟩ | ⟨_, c, q1, q⟩ <;> rcases zj with ⟨_, q'⟩ | ⟨_, c', q1', q'⟩ <;> rw [q, q'] at e <;> cases e
      · rfl
      · exact name_of_addr apart (mem_of_lookup q1) (mem_of_lookup q1')
    subst this
    exact (List.getElem?_inj (List.getElem?_eq_some_iff.mp qk).1 F.nodup).mp (qk.trans qj.symm)
  apart := fun k j b x c e1 e2 => by
    have e1 : plOf nms fd.scope.names L (cellsFrom (L + 1) fd.scope.names []) k = .ns b x := e1
    have e2 : plOf nms fd.scope.names L (cellsFrom (L + 1) fd.scope.names []) j = .cell c := e2
    rcases pl_cases F L (L + 1) k with ⟨_, q⟩ | ⟨y, _, ⟨_, q⟩ | ⟨_, _, _, q⟩⟩ <;> rw [q] at e1 <;> cases e1
    rcases pl_cases F L (L + 1) j with ⟨_, q⟩ | ⟨y, _, ⟨_, q⟩ | ⟨_, c', q1, q⟩⟩ <;> rw [q] at e2 <;> cases e2
    exact Nat.ne_of_lt (above y _ q1)
  offs := fun k hk => by
    rcases pl_cases F L (L + 1) k with ⟨_, q⟩ | ⟨y, q, _⟩
    · exact q
    · exact absurd (List.getElem?_eq_some_iff.mp q).1 (Nat.not_lt.mpr hk)
  nfs := F.nslots
  room := by show A.depth + 1 + 2 * d < 990; omega
  units := by show A.units + 3 + 4 * d + 100 < cLine; omega
  call := ih
theorem run_fn {d : Nat} {A : Around} {s : Shared} {bad : Addr → Prop} {vals : List Value} {G0 : Gs} {oa0 : Nat → Option Addr} {K : Option V → Gs → Prop} {R : Result → Shared → Prop} (H : GOk g Z) (F : FnAt g Z a fn fd body nms) (gr : Ground g) (ih : CallOk g (callN g.P d) d)
    (hand : A.handled = none) (hroom : A.depth + (1 + 2 * d) < 990) (hunits : A.units + (3 + 4 * d) + 100 < cLine) (B : Base g s) (hbad : ∀ b, bad b → Live s.heap b) (hlen : vals.length = fn.npar) (hG : G0.length = fn.nslots)
    (hoa : ∀ k b, oa0 k = some b → k = 0 ∧ Live s.heap b ∧ g.h0.get? b = none ∧ ¬ bad b)
    (hsl : ∀ k, k < fn.npar → SlotOk g (fun b => bad b ∨ ∃ k, oa0 k = some b) s.heap (oa0 k) vals[k]? (getSlot G0 k)) (hun : ∀ k, ¬ k < fn.npar → getSlot G0 k = .unset ∧ oa0 k = none) (hb : exs (callN g.P d) fn.body G0 K)
    (hR : ∀ s' (Φ' : Ct) f fl, Inv Φ' s' → Φ'.fx.g = g → Φ'.fx.Mo = bad → (∀ b o, s.heap.get? b = some o → (∀ k, oa0 k ≠ some b) → s'.heap.get? b = some o) → (∀ k b, Φ'.oa k = some b → isI (getSlot Φ'.G k) → oa0 k = some b) → FlOk Φ' s'.heap f fl → K fl Φ'.G →
      R (.ok (.ret (match f with | .ret v => v | _ => .none))) s') : codeAny (model g.prog g.w) A (.call (.ref a) ⟨vals, []⟩) R s := by
  obtain ⟨o, ho, hd⟩ := F.at'
  have dead : ∀ a, s.heap.objs.size ≤ a → s.heap.get? a = none := fun a ha => by
    cases e : s.heap.get? a with
    | none => rfl
    | some o => exact absurd (Heap.lt_size e) (Nat.not_lt.mpr ha)
  have cok := cellsFrom_ok fd.scope.names (s.heap.push { cls := .type "frame", data := .dict #[] }) (s.heap.objs.size + 1) [] ⟨fun _ _ hm => (nomatch hm), List.Pairwise.nil⟩ (by rw [Heap.size_push]; exact Nat.le_refl _)
  rw [Heap.size_push] at cok
  have above : ∀ x c, (cellsFrom (s.heap.objs.size + 1) fd.scope.names []).lookup x = some c → s.heap.objs.size < c := fun x c hx => (cok.empty x c (mem_of_lookup hx)).2
  have ok := fx_ok (bad := bad) F gr ih hand hroom hunits above cok.apart
  have hkc : ∀ x ∈ nms, fd.scope.names.lookup x = some .local ∨ (fd.scope.names.lookup x = some .cell ∧ ((cellsFrom (s.heap.objs.size + 1) fd.scope.names []).lookup x).isSome = true) := fun x hx => (F.kinds x hx).imp id fun h => ⟨h, cells_have _ _ _ _ (.inl (mem_of_lookup h))⟩
  refine codeAny_call_cells (o := o) (fd := fd) (body := body) (binds := (nms.take fn.npar).zip vals) (by show A.depth < 1000; omega) (B.stays _ _ ho) hd (gr.nolim.keeps fun b o e => B.stays b o e) (F.code.keeps fun b o e => B.stays b o e) F.bd (F.bind vals hlen) F.clo
    (fun x hx => hkc x.1 (List.mem_of_mem_take (List.of_mem_zip hx).1)) (fun s₁ ic => ?_) F.co F.gen F.kind
  let fx : Fx := { g := g, A := A.deeper (callEnvC fd s.heap.objs.size a), env := callEnvC fd s.heap.objs.size a, ρ := nms.zipIdx, pl := plOf nms fd.scope.names s.heap.objs.size (cellsFrom (s.heap.objs.size + 1) fd.scope.names []), Mo := bad, nf := nms.length, ns := fn.nslots, d := d }
  have sim : ExB fx (execs body fx.env) (exs (callN g.P d) fn.body) := simSs (n := d) H fn.body fx body rfl rfl F.chk
  have plDead : ∀ k b, (fx.pl k).addr = some b → s.heap.get? b = none := fun k b e => by
    have e : (plOf nms fd.scope.names s.heap.objs.size (cellsFrom (s.heap.objs.size + 1) fd.scope.names []) k).addr = some b := e
    rcases pl_cases F s.heap.objs.size (s.heap.objs.size + 1) k with ⟨_, q⟩ | ⟨y, _, ⟨_, q⟩ | ⟨_, c, q1, q⟩⟩ <;> rw [q] at e <;> cases e
    · exact dead _ (Nat.le_refl _)
    · exact dead _ (Nat.le_of_lt (above y _ q1))
  have kp : Keeps s.heap s₁.heap := ic.toInCall.keep
  obtain ⟨hs₁, tk₁, es₁⟩ := ic.toInCall.same
  have notOwn : ∀ b, Live s.heap b → (∀ k, oa0 k ≠ some b) → ¬ (Ct.mk fx oa0 G0).own b := fun b l n q => by
    rcases q with ⟨k, q⟩ | ⟨k, q⟩
    · obtain ⟨o, e⟩ := l; rw [plDead k b q] at e; cases e
    · exact n k q
  have mk : MapK (fun b => bad b ∨ ∃ k, oa0 k = some b) (Ct.mk fx oa0 G0).bad s.heap s₁.heap := fun b o e n => ⟨fun q => q.elim (fun q => n (.inl q)) (notOwn b ⟨o, e⟩ fun k q => n (.inr ⟨k, q⟩)), kp b o e⟩
  have hpar : (nms.take fn.npar).length = vals.length := by rw [List.length_take, hlen]; exact Nat.min_eq_left F.npar
  have hpnd : (nms.take fn.npar).Nodup := F.nodup.sublist (List.take_sublist _ _)
  have inPar : ∀ k x, nms[k]? = some x → k < fn.npar → (nms.take fn.npar)[k]? = some x := fun k x hk hlt => by rw [List.getElem?_take_of_lt hlt]; exact hk
  have notPar : ∀ k x, nms[k]? = some x → ¬ k < fn.npar → x ∉ nms.take fn.npar := fun k x hk hge hm => by
    obtain ⟨j, hj⟩ := List.getElem?_of_mem hm
    have hjl : j < fn.npar := Nat.lt_of_lt_of_le (List.getElem?_eq_some_iff.mp hj).1 (List.length_take_le _ _)
    rw [List.getElem?_take_of_lt hjl] at hj
    exact hge ((List.getElem?_inj (List.getElem?_eq_some_iff.mp hj).1 F.nodup).mp (hj.trans hk.symm) ▸ hjl)
  have slot : ∀ k, ∃ v, PlRead s₁.heap (fx.pl k) v ∧ (k < fn.npar → v = vals[k]?) ∧ (¬ k < fn.npar → v = none) := fun k => by
    rcases pl_cases F s.heap.objs.size (s.heap.objs.size + 1) k with ⟨e, q⟩ | ⟨x, hk, ⟨h1, q⟩ | ⟨h1, c, h2, q⟩⟩
    · exact ⟨none, by show PlRead _ (plOf _ _ _ _ _) _; rw [q]; rfl, fun hlt => absurd hlt (Nat.not_lt.mpr (Nat.le_trans F.npar (List.getElem?_eq_none_iff.mp e))), fun _ => rfl⟩
    · have bl := bindL_get (kindOf := (callEnvC fd s.heap.objs.size a).kindOf) (x := x) h1 (nms.take fn.npar) vals (fun _ => none) hpnd hpar
      exact ⟨_, by show PlRead _ (plOf _ _ _ _ _) _; rw [q]; exact ⟨_, ic.toInCall.ns, rfl⟩, fun hlt => bl.1 k (inPar k x hk hlt), fun hge => bl.2 (notPar k x hk hge)⟩
    · have bc := bindC_get (kindOf := (callEnvC fd s.heap.objs.size a).kindOf) (x := x) (fun z => by have z : fd.scope.names.lookup x = some .local := z; rw [h1] at z; cases z) (nms.take fn.npar) vals (fun _ => none) hpnd hpar
      exact ⟨_, by show PlRead _ (plOf _ _ _ _ _) _; rw [q]; exact ic.cell x c h2, fun hlt => bc.1 k (inPar k x hk hlt), fun hge => bc.2 (notPar k x hk hge)⟩
  have I₁ : Inv ⟨fx, oa0, G0⟩ s₁ := by
    refine ⟨ok, ⟨fun b o e => kp b o (B.stays b o e), by rw [es₁]; exact B.os, by rw [es₁]; exact B.gens⟩, fun k => ?_, fun b q => ?_, fun k j b e1 e2 => (hoa k b e1).1.trans (hoa j b e2).1.symm, fun k b e j q => ?_, hG, fun b q => kp.live (hbad b q)⟩
    · obtain ⟨v, r, h1, h2⟩ := slot k
      refine ⟨v, r, ?_⟩
      by_cases hlt : k < fn.npar
      · rw [h1 hlt]; exact (hsl k hlt).map mk fun b _ o e => kp b o e
      · rw [h2 hlt, (hun k hlt).1]; exact ⟨(hun k hlt).2, rfl⟩
    · rcases q with ⟨k, q⟩ | ⟨k, q⟩
      · have hn := plDead k b q
        refine ⟨?_, none_of (fun l => B.stays.live l) hn, fun z => by obtain ⟨o, e⟩ := hbad b z; rw [hn] at e; cases e⟩
        obtain ⟨v, r, _⟩ := slot k
        have q : (fx.pl k).addr = some b := q
        generalize fx.pl k = pl at r q
        cases pl with
        | ns a' x => cases q; obtain ⟨m, ⟨o', _, _, ho', _⟩, _⟩ := r; exact ⟨o', ho'⟩
        | cell c => cases q; obtain ⟨o', ho', _⟩ := r; exact ⟨o', ho'⟩
        | off => cases q
      · obtain ⟨_, l, h0, nb⟩ := hoa k b q
        exact ⟨kp.live l, h0, nb⟩
    · obtain ⟨o, e⟩ := (hoa k b e).2.1
      rw [plDead j b q] at e; cases e
  refine wpAny_mono (sim oa0 G0 K s₁ hb I₁ _) (fun f s' ⟨oa', G', fl, I', t, hf, hk⟩ => hR s' ⟨fx, oa', G'⟩ f fl I' rfl rfl (fun b o e n => t.keep b o (kp b o e) (notOwn b ⟨o, e⟩ n)) (fun k b e q => (t.inst k b e q).1) hf hk) fun _ _ z => z
theorem getD_app {α : Type} {l r : List α} {k : Nat} {x : α} (h : l[k]? = some x) (d : α) : (l ++ r).getD k d = x := by
  rw [List.getD_eq_getElem?_getD, List.getElem?_append_left (List.getElem?_eq_some_iff.mp h).1, h]; rfl
theorem getD_rep {α : Type} {l : List α} {k n : Nat} {d : α} (h : l.length ≤ k) : (l ++ List.replicate n d).getD k d = d := by
  rw [List.getD_eq_getElem?_getD, List.getElem?_append_right h, List.getElem?_replicate]; split <;> rfl
structure InitAt (g : Gl) (Z : Zx) (fn : Fn) : Prop where
  it : ∃ fI fd body nms, findIn g.K (.ref g.C) "__init__" = some (some (.ref fI)) ∧ typeIn g.K (.ref fI) = some (.type "function") ∧ FnAt g Z fI fn fd body nms
theorem callOk_step {d : Nat} (H : GOk g Z) (gr : Ground g) (hfn : ∀ f fn, g.P[f]? = some fn → fn.init = false → ∃ fd body nms, FnAt g Z (g.fn f) fn fd body nms) (hin : ∀ f fn, g.P[f]? = some fn → fn.init = true → g.fn f = g.C ∧ InitAt g Z fn) (ih : CallOk g (callN g.P d) d) :
    CallOk g (callN g.P (d + 1)) (d + 1) := fun f args K A s bad vals E hc hand hroom hunits B hbad hvals => by
  refine okK_elim hc fun fn hf ⟨hlen, hb⟩ => ?_
  have hva := hvals.length
  cases hi : fn.init with
  | false =>
    rw [hi, if_neg Bool.false_ne_true, Nat.add_zero] at hlen
    obtain ⟨fd, body, nms, F⟩ := hfn f fn hf hi
    have e0 : frame0 fn args = args.map .v ++ List.replicate (fn.nslots - fn.npar) .unset := by unfold frame0; rw [hi]; rfl
    have hml : (args.map Slot.v).length = fn.npar := by rw [List.length_map, hlen]
    refine wpAny_call (run_fn (oa0 := fun _ => none) H F gr ih hand (by omega) (by omega) B hbad (hva.trans hlen) ?_ (fun k b e => nomatch e) (fun k hk => ?_) (fun k hk => ⟨?_, rfl⟩) hb fun s' Φ' f' fl I' hg hm kk ki hfl hk => ?_)
    · rw [e0, List.length_append, hml, List.length_replicate]; exact Nat.add_sub_cancel' (Nat.le_trans F.npar F.nslots)
    · have hka : k < args.length := hlen ▸ hk
      obtain ⟨v, hv, rv⟩ := hvals.get (List.getElem?_eq_getElem hka)
      rw [show getSlot (frame0 fn args) k = .v args[k] by rw [e0]; exact getD_app (by rw [List.getElem?_map, List.getElem?_eq_getElem hka]; rfl) _, hv]
      exact ⟨rfl, v, rfl, rv.map fun b o e n => ⟨fun q => q.elim n fun ⟨_, q⟩ => (nomatch q), e⟩⟩
    · rw [e0]; exact getD_rep (hml ▸ Nat.not_lt.mp hk)
    · rw [hi, if_neg Bool.false_ne_true] at hk
      refine ⟨hg ▸ I'.base, fun b o e => kk b o e fun k q => (nomatch q), _, hk, ?_⟩
      cases fl with
      | none => cases hfl; exact .none
      | some y => obtain ⟨v, rfl, r⟩ := hfl; subst hg; exact r.map fun b o e n => ⟨fun q => n (.inl (hm ▸ q)), e⟩
  | true =>
    rw [hi, if_pos rfl] at hlen
    obtain ⟨hC, ⟨fI, fd, body, nms, h1, h2, F⟩⟩ := hin f fn hf hi
    rw [hC]
    have X := gr.frag.keeps B.stays
    have e0 : frame0 fn args = (.ownI [] :: args.map .v) ++ List.replicate (fn.nslots - fn.npar) .unset := by unfold frame0; rw [hi]; rfl
    have hml : (Slot.ownI [] :: args.map Slot.v).length = fn.npar := by rw [List.length_cons, List.length_map, hlen]
    obtain ⟨hh, gs, dr, tk, os⟩ := s
    have kp : Keeps hh ((hh.push emptyDict).push (instObj g.C hh.objs.size)) := (keeps_push _ _).trans (keeps_push _ _)
    have hD : ((hh.push emptyDict).push (instObj g.C hh.objs.size)).get? hh.objs.size = some emptyDict := Heap.get?_push_of_some _ (Heap.get?_push_size _ rfl)
    have hX : ((hh.push emptyDict).push (instObj g.C hh.objs.size)).get? (hh.objs.size + 1) = some (instObj g.C hh.objs.size) := by rw [← Heap.size_push hh emptyDict]; exact Heap.get?_push_size _ rfl
    have nb : ∀ b, bad b → b < hh.objs.size := fun b q => (hbad b q).elim fun o e => Heap.lt_size e
    have nd : ¬ bad hh.objs.size := fun q => Nat.lt_irrefl _ (nb _ q)
    have nx : ¬ bad (hh.objs.size + 1) := fun q => Nat.not_lt.mpr (Nat.le_succ _) (nb _ q)
    have u1 : (A.under (.builtin "type.__call__" ⟨.ref g.C :: vals, []⟩)).depth = A.depth + 1 := rfl
    have u2 : (A.under (.builtin "type.__call__" ⟨.ref g.C :: vals, []⟩)).units = A.units + 1 := rfl
    refine wpAny_call (make_core (makes_of X gr.cls.makes) (looks_findIn X h1) (fun self => bind_fn X self h2) (.inl rfl) ?_)
    refine run_fn (oa0 := fun k => if k = 0 then some hh.objs.size else none) H F gr ih hand (by rw [u1]; omega) (by rw [u2]; omega) ⟨B.stays.trans kp, B.os, B.gens⟩ (fun b q => kp.live (hbad b q)) (by rw [List.length_cons, hva]; exact hlen) ?_ (fun k b e => ?_) (fun k hk => ?_) (fun k hk => ⟨?_, ?_⟩) hb fun s' Φ' f' fl I' hg hm kk ki hfl hk => ?_
    · rw [e0, List.length_append, hml, List.length_replicate]; exact Nat.add_sub_cancel' (Nat.le_trans F.npar F.nslots)
    · by_cases q : k = 0
      · rw [if_pos q] at e; cases e
        exact ⟨q, ⟨_, hD⟩, none_of (fun l => B.stays.live l) (size_none hh), nd⟩
      · rw [if_neg q] at e; cases e
    · cases k with
      | zero =>
        rw [show getSlot (frame0 fn args) 0 = .ownI [] by rw [e0]; rfl, if_pos rfl]
        exact ⟨_, .ref (hh.objs.size + 1), rfl, rfl, _, _, [], rfl, (fun q => q.elim nx fun ⟨k, q⟩ => by
          by_cases z : k = 0
          · rw [if_pos z] at q; exact Nat.succ_ne_self _ (Option.some.inj q).symm
          · rw [if_neg z] at q; cases q), hX, hD, ⟨⟨rfl, rfl, rfl⟩, #[], 0, rfl, rfl, fun j e h => by simp at h⟩, .nil⟩
      | succ k =>
        have hka : k < args.length := Nat.lt_of_succ_lt_succ (show k + 1 < args.length + 1 by rw [hlen]; exact hk)
        obtain ⟨v, hv, rv⟩ := hvals.get (List.getElem?_eq_getElem hka)
        rw [show getSlot (frame0 fn args) (k + 1) = .v args[k] by rw [e0]; exact getD_app (by show (args.map Slot.v)[k]? = _; rw [List.getElem?_map, List.getElem?_eq_getElem hka]; rfl) _, if_neg (Nat.succ_ne_zero k)]
        refine ⟨rfl, v, hv, rv.map fun b o e n => ⟨fun q => q.elim n fun ⟨j, q⟩ => ?_, kp b o e⟩⟩
        by_cases z : j = 0
        · rw [if_pos z] at q; cases q; exact Nat.lt_irrefl _ (Heap.lt_size e)
        · rw [if_neg z] at q; cases q
    · rw [e0]; exact getD_rep (hml ▸ Nat.not_lt.mp hk)
    · exact if_neg fun q => hk (by rw [q, ← hlen]; exact Nat.succ_pos _)
    · rw [hi, if_pos rfl] at hk
      obtain ⟨rfl, hk⟩ := hk
      cases hfl
      refine ⟨rfl, okK_elim hk fun l el ⟨_, kl⟩ => ?_⟩
      have sl := ownI_some el
      obtain ⟨a', u, ha, pr, b, o, ws, _, _, _, ho, hF, hl⟩ := own_of I' sl id
      have := ki 0 a' ha (by rw [sl]; trivial)
      rw [if_pos rfl] at this
      cases this
      have no : ∀ b, b ≠ hh.objs.size → ∀ k, (if k = 0 then some hh.objs.size else none) ≠ some b := fun b n k q => by
        by_cases z : k = 0
        · rw [if_pos z] at q; exact n (Option.some.inj q).symm
        · rw [if_neg z] at q; cases q
      subst hg
      refine ⟨I'.base, fun b o e => kk b o (kp b o e) (no b fun q => Nat.lt_irrefl _ (q ▸ Heap.lt_size e)), _, kl, ?_⟩
      exact .inst (l := l) nx nd (kk _ _ hX (no _ (Nat.succ_ne_self _))) ho hF (by rw [List.map_map]; exact List.map_id l) (hl.map fun b o e n => ⟨fun q => n (.inl (hm ▸ q)), e⟩)
theorem callOk_all (H : GOk g Z) (gr : Ground g) (hfn : ∀ f fn, g.P[f]? = some fn → fn.init = false → ∃ fd body nms, FnAt g Z (g.fn f) fn fd body nms) (hin : ∀ f fn, g.P[f]? = some fn → fn.init = true → g.fn f = g.C ∧ InitAt g Z fn) : ∀ d, CallOk g (callN g.P d) d
  | 0 => fun f args K A s bad vals E hc => hc.elim
  | d + 1 => callOk_step H gr hfn hin (callOk_all H gr hfn hin d)
end
end Mine
end

noncomputable section
set_option maxRecDepth 100000
set_option linter.unusedVariables false
set_option genSizeOf false
set_option genInjectivity false
namespace Mine
open PySem PySem.Calls PyProof.Rows PySem.W

/-! the ground, from a piece of the heap -/
theorem nsIn_of {K : Frag} {h : Heap} {a : Addr} {m : Str → Option Value} {x : Str} {r : Option Value} (X : K.In h) (n : h.Ns a m) (e : nsIn K a x = some r) : m x = r := by
  unfold nsIn at e
  split at e
  · rename_i c d es p sl ho
    obtain ⟨o, es', ep, ho', hd, hs, hf⟩ := n
    rw [X _ _ ho] at ho'
    cases ho'
    cases hd
    rw [← hf x]
    unfold nsFind findBy
    rw [← Array.find?_toList]
    split at e
    · rename_i en he; cases e; rw [he]; rfl
    · rename_i he
      split at e
      · cases e
      · cases e; rw [he]; rfl
  · cases e
theorem zip_lookup {ps : List Str} : ∀ {vals : List Value}, ps.length = vals.length → ∀ n ∈ ps, ((ps.zip vals).lookup n).isSome = true := by
  induction ps with
  | nil => intro vals _ n hn; cases hn
  | cons p ps ih =>
    intro vals h n hn
    cases vals with
    | nil => cases h
    | cons v vals =>
      rw [List.zip_cons_cons, List.lookup_cons]
      cases hb : n == p with
      | true => rfl
      | false =>
        rcases List.mem_cons.mp hn with rfl | hn
        · simp at hb
        · exact ih (Nat.succ.inj h) n hn
theorem fm_congr {α β : Type} {f g : α → Option β} : ∀ {l : List α}, (∀ x ∈ l, f x = g x) → l.filterMap f = l.filterMap g
  | [], _ => rfl
  | a :: l, h => by rw [List.filterMap_cons, List.filterMap_cons, h a (.head _), fm_congr fun x hx => h x (.tail _ hx)]
theorem zip_filter {ps : List Str} : ∀ {vals : List Value}, ps.Nodup → ps.length = vals.length → ps.filterMap (fun n => ((ps.zip vals).lookup n).map (n, ·)) = ps.zip vals := by
  induction ps with
  | nil => intro vals _ _; rfl
  | cons p ps ih =>
    intro vals hn h
    cases vals with
    | nil => cases h
    | cons v vals =>
      obtain ⟨h1, h2⟩ := List.nodup_cons.mp hn
      rw [List.zip_cons_cons, List.filterMap_cons]
      simp only [List.lookup_cons, beq_self_eq_true, Option.map_some]
      congr 1
      refine Eq.trans (fm_congr fun n hnm => ?_) (ih h2 (Nat.succ.inj h))
      have : (n == p) = false := beq_false_of_ne fun e => h1 (e ▸ hnm)
      rw [this]
theorem bind_for {α β γ : Type} {l : List α} {b : β} {f : α → β → Sem (ForInStep β)} {g : β → Sem γ} {r : Sem γ} (h : l = []) (k : g b = r) : (forIn l b f >>= g) = r := by subst h; exact k
theorem binds_plain {fd : FuncData} {ps : List Str} {vals : List Value} (h1 : fd.params.posonlyargs = []) (h2 : fd.params.args.map (·.arg) = ps) (h3 : fd.params.kwonlyargs = []) (h4 : fd.params.vararg = none) (h5 : fd.params.kwarg = none)
    (h6 : fd.defaults = .none) (hn : ps.Nodup) (hl : vals.length = ps.length) : bindArgs fd ⟨vals, []⟩ = pure (ps.zip vals) := by
  have hm : (List.filter (fun n => (List.lookup n (ps.zip vals)).isNone) ps) = [] := by
    rw [List.filter_eq_nil_iff]
    intro n hn
    rw [Option.isNone_iff_eq_none]
    exact Option.isSome_iff_ne_none.mp (zip_lookup hl.symm n hn)
  obtain ⟨nm, qn, ⟨po, as, va, ko, kd, kw, df⟩, body, sc, gl, cl, dfs, kdf, doc, pm, an, cd, ct, bl⟩ := fd
  obtain rfl : po = [] := h1
  obtain rfl : ko = [] := h3
  obtain rfl : va = none := h4
  obtain rfl : kw = none := h5
  obtain rfl : dfs = .none := h6
  have h2 : as.map Arg.arg = ps := h2
  have e1 : (decide (vals.length > ([] ++ as.map Arg.arg).length) && true) = false := by rw [List.nil_append, h2, hl, Bool.and_true]; exact decide_eq_false (Nat.lt_irrefl _)
  have e2 : (!(List.filter (fun n => (List.lookup n (([] ++ as.map Arg.arg).zip vals)).isNone) (([] ++ as.map Arg.arg).take (([] ++ as.map Arg.arg).length - (([] : List Value).drop (([] : List Value).length - ([] ++ as.map Arg.arg).length)).length))).isEmpty) = false := by
    rw [List.nil_append, h2, List.drop_nil, List.length_nil, Nat.sub_zero, List.take_length, hm]; rfl
  have e4 : (([] ++ as.map Arg.arg).drop (([] ++ as.map Arg.arg).length - (([] : List Value).drop (([] : List Value).length - ([] ++ as.map Arg.arg).length)).length)).zip (([] : List Value).drop (([] : List Value).length - ([] ++ as.map Arg.arg).length)) = [] := by rw [List.drop_nil, List.zip_nil_right]
  have e3 : (([] ++ as.map Arg.arg) ++ []).filterMap (fun n => (List.lookup n (([] ++ as.map Arg.arg).zip vals)).map (n, ·)) = ps.zip vals := by
    rw [List.append_nil, List.nil_append, h2, zip_filter hn hl.symm]
  exact (if_neg (Bool.eq_false_iff.mp e1)).trans ((if_neg (Bool.eq_false_iff.mp e2)).trans (bind_for e4 (bind_for rfl (congrArg pure e3))))
noncomputable def codeChk (K : Frag) (cd : Value) (q : Str) : Bool := match cd with
  | .ref c => (match K.lookup c with
    | some ⟨_, _, .fields vs, _⟩ => (match (vs[1]? : Option Value) with | some (.str q' _) => q' == q | _ => false)
    | _ => false)
  | _ => false
theorem code_of {K : Frag} {h : Heap} {cd : Value} {q : Str} (X : K.In h) (e : codeChk K cd q = true) : h.CodeRec cd q := by
  unfold codeChk at e
  split at e
  · split at e
    · rename_i ho
      split at e
      · rename_i hv
        have := eq_of_beq e
        subst this
        exact ⟨_, _, _, _, rfl, X _ _ ho, rfl, hv⟩
      · cases e
    · cases e
  · cases e
noncomputable def noneV : Value → Bool
  | .none => true
  | _ => false
noncomputable def fnChk (K : Frag) (Z : Zx) (a : Addr) (fn : Fn) (nms : List Str) : Bool := match K.lookup a with
  | some ⟨_, _, .func fd, _⟩ => (match fd.body with
    | .stmts body => codeChk K fd.code fd.qualname && (fd.globals == mainGlobals && (fd.builtins == builtinsNs && (fd.closure.isEmpty && (!fd.scope.isCoroutine && (!fd.scope.isGenerator && (fd.scope.kind == .function &&
        (fd.params.posonlyargs.isEmpty && ((fd.params.args.map (·.arg)) == nms.take fn.npar && (fd.params.kwonlyargs.isEmpty && (fd.params.vararg.isNone && (fd.params.kwarg.isNone && (noneV fd.defaults &&
        (decide nms.Nodup && (decide (fn.npar ≤ nms.length) && (decide (nms.length ≤ fn.nslots) && (nms.all (fun x => fd.scope.names.lookup x == some .local || fd.scope.names.lookup x == some .cell) &&
        chkSs Z fn.body ⟨fd.scope.names, nms.zipIdx, nms.length, fn.nslots⟩ body))))))))))))))))
    | _ => false)
  | _ => false
theorem fnAt_of {g : Gl} {K : Frag} {Z : Zx} {a : Addr} {fn : Fn} {nms : List Str} (X : K.In g.h0) (e : fnChk K Z a fn nms = true) : ∃ fd body nms, FnAt g Z a fn fd body nms := by
  unfold fnChk at e
  split at e
  · rename_i c d fd sl ho
    split at e
    · rename_i body hb
      obtain ⟨h1, e⟩ := a2 e
      obtain ⟨h2, e⟩ := a2 e
      obtain ⟨h3, e⟩ := a2 e
      obtain ⟨h4, e⟩ := a2 e
      obtain ⟨h5, e⟩ := a2 e
      obtain ⟨h6, e⟩ := a2 e
      obtain ⟨h7, e⟩ := a2 e
      obtain ⟨h8, e⟩ := a2 e
      obtain ⟨h9, e⟩ := a2 e
      obtain ⟨h10, e⟩ := a2 e
      obtain ⟨h11, e⟩ := a2 e
      obtain ⟨h12, e⟩ := a2 e
      obtain ⟨h13, e⟩ := a2 e
      obtain ⟨h14, e⟩ := a2 e
      obtain ⟨h15, e⟩ := a2 e
      obtain ⟨h16, e⟩ := a2 e
      obtain ⟨h17, h18⟩ := a2 e
      have h14 := of_decide_eq_true h14
      have h15 := of_decide_eq_true h15
      refine ⟨fd, body, nms, ⟨⟨_, X _ _ ho, rfl⟩, hb, code_of X h1, eq_of_beq h2, eq_of_beq h3, List.isEmpty_iff.mp h4, Bool.not_eq_true' _ ▸ h5, Bool.not_eq_true' _ ▸ h6, eq_of_beq h7, fun vals hv => ?_, h14, h15, of_decide_eq_true h16, fun x m => ((Bool.or_eq_true _ _).mp (List.all_eq_true.mp h17 x m)).imp eq_of_beq eq_of_beq, h18⟩⟩
      refine binds_plain (List.isEmpty_iff.mp h8) (eq_of_beq h9) (List.isEmpty_iff.mp h10) (Option.isNone_iff_eq_none.mp h11) (Option.isNone_iff_eq_none.mp h12) ?_ (h14.sublist (List.take_sublist _ _)) (by rw [List.length_take, hv]; exact (Nat.min_eq_left h15).symm)
      cases hd : fd.defaults <;> rw [hd] at h13 <;> first | rfl | cases h13
    · cases e
  · cases e
noncomputable def constChk (u : Value) (v : V) : Bool := match v with
  | .int j => Value.isInt j u
  | .str l => Value.isStrOf l u
  | _ => false
theorem const_of {g : Gl} {u : Value} {v : V} (e : constChk u v = true) : ∀ bad h, Rp g bad h u v := fun bad h => by
  cases v with
  | int j => obtain ⟨t, rfl⟩ := Value.isInt_shape e; exact .int _ _
  | str l => obtain ⟨t, rfl⟩ := Value.isStrOf_shape e; exact .str _ _
  | _ => cases e
theorem boots : bltNames.all (fun p => bootBuiltins p.1 == some p.2 && p.1 != ("__name__" : Str)) = true := by decide +kernel
noncomputable def conChk (K : Frag) (p : Str × V) : Bool := match nsIn K mainGlobals p.1 with | some (some u) => constChk u p.2 | _ => false
noncomputable def clsChk (K : Frag) (C : Addr) (flds : List Str) : Bool :=
  findIn K (.ref C) "__getattribute__" == some (some (.builtin "object.__getattribute__")) && (findIn K (.ref C) "__getattr__" == some none && (findIn K (.ref C) "__setattr__" == some (some (.builtin "object.__setattr__")) && (plainOver K C && ((clsIn K C).any (·.hasDict) &&
  (flds.all (fun x => findIn K (.ref C) x == some none) && (makesIn K C && (decide flds.Nodup && decide (flds.length ≤ 1000))))))))
theorem cls_of {g : Gl} (e : clsChk g.K g.C g.flds = true) : ClsOk g := by
  obtain ⟨h1, e⟩ := a2 e
  obtain ⟨h2, e⟩ := a2 e
  obtain ⟨h3, e⟩ := a2 e
  obtain ⟨h4, e⟩ := a2 e
  obtain ⟨h5, e⟩ := a2 e
  obtain ⟨h6, e⟩ := a2 e
  obtain ⟨h7, e⟩ := a2 e
  exact ⟨eq_of_beq h1, eq_of_beq h2, eq_of_beq h3, h4, h5, fun x m => eq_of_beq (List.all_eq_true.mp h6 x m), h7, of_decide_eq_true (a2 e).1, of_decide_eq_true (a2 e).2⟩
noncomputable def metChk (K : Frag) (C : Addr) (flds : List Str) (fn : Nat → Addr) (p : Str × Nat) : Bool := decide (p.1 ∉ flds) && (findIn K (.ref C) p.1 == some (some (.ref (fn p.2))) && (typeIn K (.ref (fn p.2)) == some (.type "function") && keepIn K (.ref (fn p.2))))
theorem gok_of {g : Gl} {Z : Zx} (e1 : g.fns = Z.fns) (e2 : g.cons = Z.cons) (e3 : g.flds = Z.flds) (h1 : Z.fns.all (fun p => keepIn g.K (.ref (g.fn p.2))) = true) (h2 : Z.meths.all (metChk g.K g.C g.flds g.fn) = true) : GOk g Z :=
  ⟨e1, e2, e3, fun x f e => List.all_eq_true.mp h1 _ (PySem.mem_of_lookup e), fun x f e => by
    obtain ⟨q1, q⟩ := a2 (List.all_eq_true.mp h2 _ (PySem.mem_of_lookup e))
    obtain ⟨q2, q⟩ := a2 q
    exact ⟨of_decide_eq_true q1, eq_of_beq q2, eq_of_beq (a2 q).1, (a2 q).2⟩⟩
theorem ground_of {g : Gl} (X : g.K.In g.h0) (hm : g.h0.Ns mainGlobals g.mg) (hb : g.h0.Ns builtinsNs g.mb) (hl : g.h0.NoLimit) (hbt : ∀ x : Str, x ≠ "__name__" → g.mb x = bootBuiltins x) (h0 : (g.K.lookup sysModules).isSome = true) (hc : clsChk g.K g.C g.flds = true)
    (h1 : g.fns.all (fun p => nsIn g.K mainGlobals p.1 == some (some (.ref (g.fn p.2)))) = true) (h3 : g.cons.all (conChk g.K) = true) (h4 : bltNames.all (fun p => nsIn g.K mainGlobals p.1 == some none) = true) : Ground g where
  main := hm
  blt := hb
  nolim := hl
  sysm := (Option.isSome_iff_exists.mp h0).elim fun o e => ⟨o, X _ _ e⟩
  frag := X
  cls := cls_of hc
  fns := fun x f e => nsIn_of X hm (eq_of_beq (List.all_eq_true.mp h1 _ (PySem.mem_of_lookup e)))
  cons := fun x v e => by
    have q := List.all_eq_true.mp h3 _ (PySem.mem_of_lookup e)
    unfold conChk at q
    split at q
    · rename_i u hu; exact ⟨u, nsIn_of X hm hu, const_of q⟩
    · cases q
  blts := fun x v e => by
    have q := a2 (List.all_eq_true.mp boots _ (PySem.mem_of_lookup e))
    exact ⟨nsIn_of X hm (eq_of_beq (List.all_eq_true.mp h4 _ (PySem.mem_of_lookup e))), (hbt x (bne_iff_ne.mp q.2)).trans (eq_of_beq q.1)⟩
end Mine
end

noncomputable section
set_option maxRecDepth 100000
set_option linter.unusedVariables false
namespace Mine
open PySem PySem.Calls PyProof.Rows PySem.W

/-! a law's arguments and its end -/
theorem ints_items (xs : List WData) : WShape.hasItems [] xs .int = true → ∃ is : List Int, xs = is.map .int := by
  induction xs with
  | nil => exact fun _ => ⟨[], rfl⟩
  | cons x xs ih =>
    intro h
    have h := a2 (b := WShape.hasItems [] xs .int) h
    have h1 := h.1
    cases x with
    | int i => exact (ih h.2).elim fun is e => ⟨i :: is, congrArg _ e⟩
    | _ => cases h1
noncomputable def endsAs (v : Option WData) : Bool := match (match (match v with | some (.bool b) => some (WData.bool (!b)) | _ => none) with | some (.bool false) => some (WData.bool false) | some (.bool true) => some (WData.bool true) | _ => none) with | some (.bool true) => true | _ => false
noncomputable def endsT (b : Bool) : Bool := match some (WData.bool b) with | some (.bool true) => true | _ => false
theorem same_true : same (.bool true) (.bool true) = true := by simp only [same, beq_self_eq_true]
theorem len_of {xs : List WData} (h : (WTm.and (.not (.lt (.lit (.int (63 : Nat))) (.len (.arg 0)))) (.lit (.bool true))).holds [] { args := [.list xs] } = true) : xs.length ≤ 63 := by
  have h : endsAs (some (.bool (decide (((63 : Nat) : Int) < (xs.length : Int))))) = true := h
  by_cases hq : ((63 : Nat) : Int) < (xs.length : Int)
  · rw [decide_eq_true hq] at h; cases h
  · omega
theorem pre_eq {l : OpenLaw} (hm : l.most = some 63) (hb : l.bound = none) : l.pre = .and (.not (.lt (.lit (.int (63 : Nat))) (.len (.arg 0)))) (.lit (.bool true)) := by
  unfold OpenLaw.pre; rw [hm, hb]
theorem script_of {l : OpenLaw} (hm : l.most = some 63) (hb : l.bound = none) {args : List WData} (h : l.row.claim.pre args = true) : ∃ is : List Int, args = [.list (is.map .int)] ∧ is.length ≤ 63 := by
  have h := a2 (a := WShape.hasAll [] args [.list .int]) (b := l.pre.holds [] { args := args }) h
  rw [pre_eq hm hb] at h
  cases args with
  | nil => cases h.1
  | cons x r =>
    have h1 := a2 (a := WShape.has [] x (.list .int)) h.1
    cases r with
    | cons y r => cases h1.2
    | nil =>
      have h2 := h1.1
      cases x with
      | list xs =>
        have h2 : (WShape.hasItems [] xs .int || false) = true := h2
        rw [Bool.or_false] at h2
        refine (ints_items xs h2).elim fun is e => ⟨is, congrArg (fun xs => [WData.list xs]) e, ?_⟩
        have := len_of h.2
        rw [e, List.length_map] at this
        exact this
      | _ => cases h2
theorem rp_script {g : Gl} {P : Params} (is : List Int) : ∀ vs : List Value, WellAll P g.h0 vs (is.map .int) → RpAll g (fun _ => False) g.h0 vs (is.map .int) := by
  induction is with
  | nil => intro vs w; cases w; exact .nil
  | cons i is ih =>
    intro vs w
    cases w with
    | cons w ws => cases w with
      | int _ t => exact .cons (.int i t) (ih _ ws)
theorem law_ends {l : OpenLaw} (hm : l.most = some 63) (hb : l.bound = none) {g : Gl} {f d : Nat} {cl : Str → Option Addr} {mean : ExcName → Option Value} {s₁ : Shared} {args : List WData} {vals : List Value} {Pm : Params}
    (call : CallOk g (callN g.P d) d) (hg : g.prog = l.row.prog) (h0 : g.h0 = s₁.heap) (ho : g.os = s₁.os) (hgn : s₁.gens = #[]) (hd : d ≤ 40)
    (hpre : l.row.claim.pre args = true) (hwl : WellAll Pm s₁.heap vals args)
    (plain : ∀ scr : List Int, scr.length ≤ 63 → callN g.P d f [.list (scr.map .int)] fun y => y = .bool true) :
    wpAny (model l.row.prog g.w) callerA (PySem.call (.ref (g.fn f)) vals) (fun v s' => GoodWG l.row.claim cl mean args s₁ (.ok (.ret v)) s') (fun e s' => GoodWG l.row.claim cl mean args s₁ (.error e) s') s₁ := by
  obtain ⟨is, rfl, hlen⟩ := script_of hm hb hpre
  cases hwl with
  | cons w ws =>
  cases ws
  cases w with
  | list ha hws =>
  rename_i a vs
  have rp : RpAll g (fun _ => False) s₁.heap [.ref a] [.list (is.map .int)] := by
    rw [← h0] at hws ha ⊢
    exact .cons (.list id ha ⟨rfl, rfl⟩ rfl (by rw [List.toList_toArray]; exact rp_script _ _ hws)) .nil
  have B : Base g s₁ := ⟨by rw [h0]; exact fun b o e => e, ho.symm, hgn⟩
  have w := call f [.list (is.map .int)] _ callerA s₁ (fun _ => False) [.ref a] (fun e s' => GoodWG l.row.claim cl mean [.list (is.map .int)] s₁ (.error e) s') (plain is hlen) rfl (by show 1 + claimMargin + 2 * d < 990; have : claimMargin = 300 := rfl; omega)
    (by show 4 + 4 * d + 100 < cLine; have : (1000 : Nat) ≤ cLine := by decide +kernel
        omega) B (fun a q => q.elim) rp
  rw [hg] at w
  refine wpAny_mono w (fun v s' p => ?_) fun _ _ z => z
  obtain ⟨B', _, y, rfl, r⟩ := p
  refine r.bool_elim ?_
  refine GoodW.toG ⟨.inl ⟨_, .bool true, [], rfl, fun cls => rfl, ReadsW.bool true, (by
    show (WShape.has [] (.bool true) .bool && (WTm.eq .res (.lit (.bool true))).holds [] _) = true
    refine (Bool.and_eq_true _ _).mpr ⟨rfl, ?_⟩
    exact congrArg endsT same_true), fun _ => ⟨List.nodup_nil, fun a ha => (nomatch ha)⟩⟩, ?_, B'.os.trans ho, B'.gens⟩
  have := B'.stays
  rw [h0] at this
  exact fun b o e => this b o e
end Mine
end

noncomputable section
set_option maxRecDepth 100000
set_option linter.unusedVariables false
namespace Mine
open PySem

/-! the language's run by steps -/
noncomputable def evs (cf : CallF) (es : List E) : List D := E.rec_1 (motive_1 := fun _ => D) (motive_2 := fun _ => List D) (fun o _ ih => evOp cf o ih) [] (fun _ _ i is => i :: is) es
noncomputable def exi (cf : CallF) (l : List S) : B := S.rec_1 (motive_1 := fun _ => B) (motive_2 := fun _ => B) (fun o es _ _ x y => exOp cf o (es.map (ev cf)) x y) (fun G K => K none G) (fun _ _ i is G K => i G fun fl G' => match fl with | none => is G' K | some x => K (some x) G') l
section
variable {cf : CallF} {G : Gs} {K : Option V → Gs → Prop} {e a b c : E} {es : List E} {r : List S} {v x y z : V} {o : Op} {k : Nat} {t u : Bool}
noncomputable def Val (cf : CallF) (G : Gs) (e : E) (v : V) : Prop := ∀ K, K v → ev cf e G K
noncomputable def Vals (cf : CallF) (G : Gs) (es : List E) (vs : List V) : Prop := ∀ K, K vs → manyD (evs cf es) G K
noncomputable def Tests (cf : CallF) (b : Bool) (G : Gs) (es : List E) (t : Bool) : Prop := ∀ K, K t → boolsD b (evs cf es) G K
theorem okK_some {α : Type} {o : Option α} {z : α} {K : α → Prop} (e : o = some z) (h : K z) : okK o K := by rw [e]; exact h
theorem Vals.nil : Vals cf G [] [] := fun _ h => h
theorem Vals.cons {vs : List V} (h : Val cf G e v) (hs : Vals cf G es vs) : Vals cf G (e :: es) (v :: vs) := fun K k => h _ (hs _ k)
theorem Vals.one (h : Val cf G e v) : Vals cf G [e] [v] := .cons h .nil
theorem Vals.two (h : Val cf G a x) (h' : Val cf G b y) : Vals cf G [a, b] [x, y] := .cons h (.cons h' .nil)
theorem val_op {vs : List V} (hv : Vals cf G es vs) (e : opN o vs = some z) (ho : ∀ ds K, (manyD ds G fun xs => okK (opN o xs) K) → evOp cf o ds G K := by exact fun _ _ h => h) : Val cf G (.nd o es) z := fun K k => ho _ _ (hv _ (okK_some e k))
theorem val_cmp {o : CmpOp} (h : Val cf G a x) (h' : Val cf G b y) (e : cmpOp o x y = some t) : Val cf G (.nd (.cmp o) [a, b]) (.bool t) := fun K k => h _ (h' _ (okK_some e k))
theorem val_call {f : Nat} {vs : List V} (hv : Vals cf G es vs) (h : ∀ K, K v → cf f vs K) : Val cf G (.nd (.call f) es) v := fun K k => hv _ (h _ k)
theorem val_meth {f : Nat} (hv : Val cf G e x) (hi : isInst x = true) (h : ∀ K, K v → cf f [x] K) : Val cf G (.nd (.meth f) [e]) v := fun K k => hv _ ⟨hi, h _ k⟩
theorem val_not (h : Val cf G a (.bool t)) : Val cf G (.nd .not [a]) (.bool (!t)) := fun K k => h _ k
theorem Tests.nil {b : Bool} : Tests cf b G [] b := fun _ h => h
theorem Tests.go {b : Bool} (h : Val cf G a (.bool b)) (hs : Tests cf b G es t) : Tests cf b G (a :: es) t := fun K k => h _ (by show if b = b then _ else _; rw [if_pos rfl]; exact hs _ k)
theorem Tests.stop {b : Bool} (h : Val cf G a (.bool (!b))) : Tests cf b G (a :: es) (!b) := fun K k => h _ (by show if (!b) = b then _ else _; rw [if_neg (by cases b <;> decide)]; exact k)
theorem Tests.and {t u : Bool} (h : Val cf G a (.bool t)) (hs : t = true → Tests cf true G es u) : Tests cf true G (a :: es) (t && u) := by
  cases t
  · exact .stop (b := true) h
  · exact .go h (hs rfl)
theorem Tests.or {t u : Bool} (h : Val cf G a (.bool t)) (hs : t = false → Tests cf false G es u) : Tests cf false G (a :: es) (t || u) := by
  cases t
  · exact .go h (hs rfl)
  · exact .stop (b := false) h
theorem val_and (h : Tests cf true G es t) : Val cf G (.nd .and es) (.bool t) := fun K k => h _ k
theorem val_or (h : Tests cf false G es t) : Val cf G (.nd .or es) (.bool t) := fun K k => h _ k
theorem val_ite (h : Val cf G c (.bool t)) (h1 : t = true → Val cf G a v) (h2 : t = false → Val cf G b v) : Val cf G (.nd .ite [c, a, b]) v := fun K k => h _ (by
  show if t = true then _ else _
  cases t
  · exact h2 rfl K k
  · exact h1 rfl K k)
theorem comp_ind {α : Type} {e : E} {ts : List E} {g : α → V} {p : α → Bool} {f : α → V} {ws : List α} : ∀ (ys : List V), (∀ w ∈ ws, Tests cf true (G.set k (.v (g w))) ts (p w)) → (∀ w ∈ ws, p w = true → Val cf (G.set k (.v (g w))) e (f w)) → ∀ K : List V → Prop, K (ys ++ (ws.filter p).map f) → compL (ev cf e) (evs cf ts) k G (ws.map g) fun zs => K (ys ++ zs) := by
  induction ws with
  | nil => exact fun ys _ _ K h => h
  | cons x xs ih =>
    intro ys ht he K h
    refine ht x (.head _) _ ?_
    have ih := fun ys => ih ys (fun x m => ht x (.tail _ m)) fun x m => he x (.tail _ m)
    cases hp : p x with
    | false =>
      rw [List.filter_cons_of_neg (by rw [hp]; exact Bool.false_ne_true)] at h
      exact ih ys K h
    | true =>
      rw [List.filter_cons_of_pos hp] at h
      refine he x (.head _) hp _ ?_
      have e1 : (fun zs => K (ys ++ (f x :: zs))) = fun zs => K ((ys ++ [f x]) ++ zs) := funext fun zs => by rw [List.append_assoc]; rfl
      show compL (ev cf e) (evs cf ts) k G (xs.map g) fun zs => K (ys ++ (f x :: zs))
      rw [e1]
      exact ih (ys ++ [f x]) K (by rw [List.append_assoc]; exact h)
theorem val_comp {α : Type} {s e : E} {ts : List E} {g : α → V} {p : α → Bool} {f : α → V} {ws : List α} (hs : Val cf G s x) (hq : seqV x = some (ws.map g)) (ht : ∀ w ∈ ws, Tests cf true (G.set k (.v (g w))) ts (p w)) (he : ∀ w ∈ ws, p w = true → Val cf (G.set k (.v (g w))) e (f w)) :
    Val cf G (.nd (.comp k) (s :: e :: ts)) (.list ((ws.filter p).map f)) := fun K h => hs _ (okK_some hq (comp_ind [] ht he (fun ys => K (.list ys)) h))
theorem val_comp0 {α : Type} {s e : E} {g f : α → V} {ws : List α} (hs : Val cf G s x) (hq : seqV x = some (ws.map g)) (he : ∀ w ∈ ws, Val cf (G.set k (.v (g w))) e (f w)) :
    Val cf G (.nd (.comp k) [s, e]) (.list (ws.map f)) := by
  have q := val_comp (ts := []) (p := fun _ => true) (f := f) hs hq (fun _ _ => .nil) fun x m _ => he x m
  rw [show ws.filter (fun _ => true) = ws from List.filter_eq_self.mpr fun _ _ => rfl] at q
  exact q

/-! statements -/
theorem exi_eq : ∀ l : List S, exi cf l = exs cf l
  | [] => rfl
  | s :: r => funext fun G => funext fun K => by
    show ex cf s G (fun fl G' => match fl with | none => exi cf r G' K | some x => K (some x) G') = _
    rw [exi_eq r]; rfl
theorem exs_app {r : List S} : ∀ l : List S, exs cf (l ++ r) = fun G K => exs cf l G (fun fl G' => match fl with | none => exs cf r G' K | some x => K (some x) G')
  | [] => rfl
  | s :: l => by
    funext G K
    show ex cf s G (fun fl G' => match fl with | none => exs cf (l ++ r) G' K | some x => K (some x) G') = _
    rw [exs_app l]; rfl
theorem x_nil (h : K none G) : exs cf [] G K := h
theorem x_assign (h : Val cf G e v) (n : exs cf r (G.set k (.v v)) K) : exs cf (.mk (.assign k) [e] [] [] :: r) G K := h _ n
theorem x_assignM {ks : List Nat} {G' : Gs} (h : Val cf G e v) (hs : setMany ks G v = some G') (n : exs cf r G' K) : exs cf (.mk (.assignM ks) [e] [] [] :: r) G K := h _ (okK_some hs n)
theorem x_ret (h : Val cf G e v) (n : K (some v) G) : exs cf (.mk .ret [e] [] [] :: r) G K := h _ n
theorem x_call (h : Val cf G e .none) (n : exs cf r G K) : exs cf (.mk .call [e] [] [] :: r) G K := h _ ⟨rfl, n⟩
theorem x_if {A B : List S} (h : Val cf G c (.bool t)) (h1 : t = true → exs cf (A ++ r) G K) (h2 : t = false → exs cf (B ++ r) G K) : exs cf (.mk .ite [c] A B :: r) G K := h _ (by
  show if t = true then exi cf A G _ else exi cf B G _
  rw [exi_eq, exi_eq]
  cases t
  · have := h2 rfl; rw [exs_app] at this; exact this
  · have := h1 rfl; rw [exs_app] at this; exact this)
theorem x_ifT {A B : List S} (h : Val cf G c (.bool true)) (h1 : exs cf (A ++ r) G K) : exs cf (.mk .ite [c] A B :: r) G K := x_if h (fun _ => h1) fun q => nomatch q
theorem x_ifF {A : List S} (h : Val cf G c (.bool false)) (h1 : exs cf r G K) : exs cf (.mk .ite [c] A [] :: r) G K := x_if h (fun q => nomatch q) fun _ => h1
theorem x_own0 (n : exs cf r (G.set k (.ownL [])) K) : exs cf (.mk (.ownL k) [] [] [] :: r) G K := ⟨Nat.zero_le _, n⟩
theorem x_ownD (n : exs cf r (G.set k (.ownD [])) K) : exs cf (.mk (.ownD k) [] [] [] :: r) G K := n
theorem x_append {l : List V} (hl : ownLO G k = some l) (h : Val cf G e v) (hz : l.length < szLine) (n : exs cf r (G.set k (.ownL (l ++ [v]))) K) : exs cf (.mk (.append k) [e] [] [] :: r) G K := okK_some hl (h _ ⟨hz, n⟩)
theorem x_freeze {l : List V} (hl : ownLO G k = some l) (n : exs cf r (G.set k (.v (.list l))) K) : exs cf (.mk (.freeze k) [] [] [] :: r) G K := okK_some hl n
theorem for_ind {b : Gs → V → Option Gs} {A : B} {P : List V → Gs → Prop} (done : ∀ G, P [] G → K none G) (turn : ∀ x l G, P (x :: l) G → (∀ G', P l G' → forL b A l G' K) → okK (b G x) fun G' => A G' fun fl G'' => match fl with | none => forL b A l G'' K | some y => K (some y) G'') : ∀ xs G, P xs G → forL b A xs G K
  | [], G, h => done G h
  | x :: l, G, h => turn x l G h (for_ind done turn l)
theorem x_for {s : E} {body : List S} {xs : List V} {P : List V → Gs → Prop} (hs : Val cf G s v) (hq : seqV v = some xs) (h0 : P xs G) (done : ∀ G, P [] G → exs cf r G K)
    (turn : ∀ x l G Kt, P (x :: l) G → (∀ G', P l G' → Kt none G') → (∀ y G', K (some y) G' → Kt (some y) G') → exs cf body (G.set k (.v x)) Kt) : exs cf (.mk (.forS k) [s] body [] :: r) G K := hs _ (okK_some hq (by
  show forL _ (exi cf body) xs G (fun fl G' => match fl with | none => exs cf r G' K | some x => K (some x) G')
  rw [exi_eq]
  exact for_ind (P := P) (K := fun fl G' => match fl with | none => exs cf r G' K | some x => K (some x) G') done (fun x l G h n => turn x l G (fun fl G'' => match fl with | none => forL (fun G x => some (G.set k (.v x))) (exs cf body) l G'' (fun fl G' => match fl with | none => exs cf r G' K | some x => K (some x) G') | some y => K (some y) G'') h n fun _ _ h => h) xs G h0))
theorem x_forM {s : E} {body : List S} {xs : List V} {ks : List Nat} {P : List V → Gs → Prop} (hs : Val cf G s v) (hq : seqV v = some xs) (h0 : P xs G) (done : ∀ G, P [] G → exs cf r G K)
    (turn : ∀ x l G Kt, P (x :: l) G → (∀ G', P l G' → Kt none G') → (∀ y G', K (some y) G' → Kt (some y) G') → okK (setMany ks G x) fun G' => exs cf body G' Kt) : exs cf (.mk (.forM ks) [s] body [] :: r) G K := hs _ (okK_some hq (by
  show forL _ (exi cf body) xs G (fun fl G' => match fl with | none => exs cf r G' K | some x => K (some x) G')
  rw [exi_eq]
  exact for_ind (P := P) (K := fun fl G' => match fl with | none => exs cf r G' K | some x => K (some x) G') done (fun x l G h n => turn x l G (fun fl G'' => match fl with | none => forL (setMany ks) (exs cf body) l G'' (fun fl G' => match fl with | none => exs cf r G' K | some x => K (some x) G') | some y => K (some y) G'') h n fun _ _ h => h) xs G h0))
end
end Mine
end

noncomputable section
namespace Mine.L04
open PySem
noncomputable def abc : Str := ⟨#[97, 98, 99, 100, 101, 102, 103, 104, 105, 106, 107, 108, 109, 110, 111, 112, 113, 114, 115, 116, 117, 118, 119, 120, 121, 122]⟩
noncomputable def kOpen : Str := ⟨#[111, 112, 101, 110]⟩
noncomputable def kClose : Str := ⟨#[99, 108, 111, 115, 101]⟩
noncomputable def kOn : Str := ⟨#[111, 110]⟩
noncomputable def k0 : Str := ⟨#[]⟩
noncomputable def ii (i : Int) : E := .nd (.lit (.int i)) []
noncomputable def ss (t : Str) : E := .nd (.lit (.str t)) []
noncomputable def bb (b : Bool) : E := .nd (.lit (.bool b)) []
noncomputable def nn : E := .nd (.lit .none) []
noncomputable def vv (k : Nat) : E := .nd (.var k) []
noncomputable def f0c0 : List S := [.mk .ite [(.nd (.cmp .NotIn) [(vv 1), (ss abc)])] [.mk .ret [(bb false)] [] []] []]
noncomputable def f0 : Fn := ⟨1, 2, false, [.mk .ite [(.nd .or [(.nd .not [(.nd (.isinst 0) [(vv 0)])]), (.nd (.cmp .Gt) [(.nd .len [(vv 0)]), (ii 4)])])] [.mk .ret [(bb false)] [] []] [],
    .mk (.forS 1) [(vv 0)] f0c0 [],
    .mk .ret [(bb true)] [] []]⟩
noncomputable def n0 : List Str := ["thing", "sign"]
noncomputable def f1c0 : List S := [.mk .ite [(.nd .not [(.nd (.call 0) [(vv 1)])])] [.mk .ret [(bb false)] [] []] []]
noncomputable def f1 : Fn := ⟨1, 3, false, [.mk .ite [(.nd .or [(.nd .not [(.nd (.isinst 1) [(vv 0)])]), (.nd (.cmp .NotEq) [(.nd .len [(vv 0)]), (ii 3)])])] [.mk .ret [(bb false)] [] []] [],
    .mk (.forS 1) [(vv 0)] f1c0 [],
    .mk (.assign 2) [(.nd (.bin .Add) [(.nd (.bin .Add) [(.nd .sub [(vv 0), (ii 0)]), (.nd .sub [(vv 0), (ii 1)])]), (.nd .sub [(vv 0), (ii 2)])])] [] [],
    .mk .ret [(.nd (.cmp .Eq) [(.nd .lenSet [(vv 2)]), (.nd .len [(vv 2)])])] [] []]⟩
noncomputable def n1 : List Str := ["thing", "text", "whole"]
noncomputable def f2 : Fn := ⟨1, 1, false, [.mk .ite [(.nd .not [(.nd (.call 1) [(vv 0)])])] [.mk .raise [] [] []] []]⟩
noncomputable def n2 : List Str := ["signs"]
noncomputable def f3c0 : List S := [.mk .ite [(.nd (.cmp .In) [(vv 1), (vv 2)])] [.mk .ret [(vv 3)] [] []] []]
noncomputable def f3 : Fn := ⟨2, 4, false, [.mk .ite [(.nd .or [(.nd .not [(.nd (.isinst 0) [(vv 1)])]), (.nd (.cmp .NotEq) [(.nd .len [(vv 1)]), (ii 1)])])] [.mk .ret [(ss k0)] [] []] [],
    .mk (.forM [2, 3]) [(.nd .zip [(vv 0), (.nd .list [(ss kOpen), (ss kClose), (ss kOn)])])] f3c0 [],
    .mk .ret [(ss k0)] [] []]⟩
noncomputable def n3 : List Str := ["signs", "thing", "text", "kind"]
noncomputable def f4 : Fn := ⟨2, 2, false, [.mk .ret [(.nd .and [(.nd (.isinst 3) [(vv 0)]), (.nd .not [(.nd (.isinst 4) [(vv 0)])]), (.nd .chain [(ii 0), (vv 0), (vv 1)])])] [] []]⟩
noncomputable def n4 : List Str := ["thing", "rooms"]
noncomputable def f5c0 : List S := [.mk .ite [(.nd .not [(.nd (.call 4) [(vv 2), (vv 1)])])] [.mk .ret [(bb false)] [] []] []]
noncomputable def f5 : Fn := ⟨2, 3, false, [.mk .ite [(.nd .not [(.nd (.isinst 2) [(vv 0)])])] [.mk .ret [(bb false)] [] []] [],
    .mk (.forS 2) [(vv 0)] f5c0 [],
    .mk .ret [(.nd (.cmp .Eq) [(.nd .lenSet [(vv 0)]), (.nd .len [(vv 0)])])] [] []]⟩
noncomputable def n5 : List Str := ["thing", "rooms", "room"]
noncomputable def f6c0 : List S := [.mk .ret [(.nd .and [(.nd (.cmp .Eq) [(.nd .len [(vv 0)]), (ii 4)]), (.nd (.cmp .Eq) [(.nd (.call 3) [(vv 1), (.nd .sub [(vv 0), (ii 2)])]), (ss kOn)]), (.nd (.call 4) [(.nd .sub [(vv 0), (ii 3)]), (vv 2)])])] [] []]
noncomputable def f6 : Fn := ⟨3, 3, false, [.mk .ite [(.nd .or [(.nd .not [(.nd (.isinst 1) [(vv 0)])]), (.nd (.cmp .Lt) [(.nd .len [(vv 0)]), (ii 4)]), (.nd .not [(.nd (.call 4) [(.nd .sub [(vv 0), (ii 1)]), (vv 2)])])])] [.mk .ret [(bb false)] [] []] [],
    .mk .ite [(.nd .not [(.nd (.isinst 0) [(.nd .sub [(vv 0), (ii 0)])])])] [.mk .ret [(bb false)] [] []] [],
    .mk .ite [(.nd (.cmp .Eq) [(.nd .sub [(vv 0), (ii 0)]), (ss kOn)])] f6c0 [],
    .mk .ite [(.nd .or [(.nd (.cmp .NotEq) [(.nd .len [(vv 0)]), (ii 5)]), (.nd .not [(.nd (.call 4) [(.nd .sub [(vv 0), (ii 4)]), (vv 2)])])])] [.mk .ret [(bb false)] [] []] [],
    .mk .ite [(.nd (.cmp .Eq) [(.nd .sub [(vv 0), (ii 0)]), (ss kOpen)])] [.mk .ret [(.nd .and [(.nd (.cmp .Eq) [(.nd (.call 3) [(vv 1), (.nd .sub [(vv 0), (ii 2)])]), (ss kOpen)]), (.nd (.call 4) [(.nd .sub [(vv 0), (ii 3)]), (vv 2)])])] [] []] [],
    .mk .ret [(.nd .and [(.nd (.cmp .Eq) [(.nd .sub [(vv 0), (ii 0)]), (ss kClose)]), (.nd (.call 4) [(.nd .sub [(vv 0), (ii 2)]), (vv 2)]), (.nd (.cmp .Eq) [(.nd (.call 3) [(vv 1), (.nd .sub [(vv 0), (ii 3)])]), (ss kClose)])])] [] []]⟩
noncomputable def n6 : List Str := ["thing", "signs", "rooms"]
noncomputable def f7c0 : List S := [.mk .ite [(.nd .not [(.nd (.call 6) [(vv 3), (vv 1), (vv 2)])])] [.mk .ret [(bb false)] [] []] []]
noncomputable def f7 : Fn := ⟨3, 4, false, [.mk .ite [(.nd .or [(.nd .not [(.nd (.isinst 2) [(vv 0)])]), (.nd (.cmp .Gt) [(.nd .len [(vv 0)]), (ii 4000)])])] [.mk .ret [(bb false)] [] []] [],
    .mk (.forS 3) [(vv 0)] f7c0 [],
    .mk .ret [(bb true)] [] []]⟩
noncomputable def n7 : List Str := ["thing", "signs", "rooms", "way"]
noncomputable def f8 : Fn := ⟨6, 6, true, [.mk .call [(.nd (.call 2) [(vv 1)])] [] [],
    .mk .ite [(.nd .or [(.nd .not [(.nd (.call 4) [(vv 2), (.nd (.bin .Add) [(ii 40), (ii 1)])])]), (.nd (.cmp .Lt) [(vv 2), (ii 1)])])] [.mk .raise [] [] []] [],
    .mk .ite [(.nd .or [(.nd .not [(.nd (.call 5) [(vv 3), (vv 2)])]), (.nd .not [(.nd (.call 5) [(vv 4), (vv 2)])]), (.nd .not [(.nd (.call 7) [(vv 5), (vv 1), (vv 2)])])])] [.mk .raise [] [] []] [],
    .mk (.setAttr 0 0) [(vv 1)] [] [],
    .mk (.setAttr 0 1) [(vv 2)] [] [],
    .mk (.setAttr 0 2) [(.nd .sorted [(vv 3)])] [] [],
    .mk (.setAttr 0 3) [(.nd .sorted [(vv 4)])] [] [],
    .mk (.setAttr 0 4) [(.nd .sortedSet [(vv 5)])] [] []]⟩
noncomputable def n8 : List Str := ["self", "signs", "rooms", "starts", "ends", "ways"]
noncomputable def f9 : Fn := ⟨1, 1, false, [.mk .ret [(.nd (.attr 0) [(vv 0)])] [] []]⟩
noncomputable def n9 : List Str := ["self"]
noncomputable def f10 : Fn := ⟨1, 1, false, [.mk .ret [(.nd (.attr 1) [(vv 0)])] [] []]⟩
noncomputable def n10 : List Str := ["self"]
noncomputable def f11 : Fn := ⟨1, 1, false, [.mk .ret [(.nd .listOf [(.nd (.attr 2) [(vv 0)])])] [] []]⟩
noncomputable def n11 : List Str := ["self"]
noncomputable def f12 : Fn := ⟨1, 1, false, [.mk .ret [(.nd .listOf [(.nd (.attr 3) [(vv 0)])])] [] []]⟩
noncomputable def n12 : List Str := ["self"]
noncomputable def f13 : Fn := ⟨1, 1, false, [.mk .ret [(.nd .listOf [(.nd (.attr 4) [(vv 0)])])] [] []]⟩
noncomputable def n13 : List Str := ["self"]
noncomputable def f14c0 : List S := [.mk (.assign 3) [(.nd (.slice false true) [(vv 2), (ii 3)])] [] [],
    .mk .ite [(.nd (.cmp .Eq) [(.nd .sub [(vv 2), (ii 0)]), (ss kClose)])] [.mk (.assign 3) [(.nd (.slice false true) [(vv 2), (ii 4)])] [] []] [],
    .mk (.setD 1) [(.nd (.bin .Add) [(.nd (.getD 1) [(vv 3), (ii 0)]), (ii 1)]), (vv 3)] [] []]
noncomputable def f14 : Fn := ⟨1, 9, false, [.mk .ite [(.nd (.cmp .NotEq) [(.nd .len [(.nd (.meth 11) [(vv 0)])]), (ii 1)])] [.mk .ret [(bb false)] [] []] [],
    .mk (.ownD 1) [] [] [],
    .mk (.forS 2) [(.nd (.meth 13) [(vv 0)])] f14c0 [],
    .mk (.assignM [4, 5, 6]) [(.nd (.meth 9) [(vv 0)])] [] [],
    .mk (.assign 7) [(.nd (.meth 10) [(vv 0)])] [] [],
    .mk (.assign 8) [(.nd (.bin .Add) [(.nd (.bin .Mult) [(vv 7), (.nd (.bin .Add) [(.nd .len [(vv 4)]), (.nd .len [(vv 6)])])]), (.nd (.bin .Mult) [(.nd (.bin .Mult) [(vv 7), (vv 7)]), (.nd .len [(vv 5)])])])] [] [],
    .mk .ret [(.nd .and [(.nd (.cmp .Eq) [(.nd (.lenD 1) []), (vv 8)]), (.nd (.cmp .Eq) [(.nd .maxD [(.nd (.valsD 1) [])]), (ii 1)])])] [] []]⟩
noncomputable def n14 : List Str := ["machine", "counts", "way", "place", "opening", "closing", "others", "rooms", "wanted"]
noncomputable def f15 : Fn := ⟨2, 2, false, [.mk .ite [(.nd (.cmp .Lt) [(vv 1), (.nd .len [(vv 0)])])] [.mk .ret [(.nd .sub [(vv 0), (vv 1)])] [] []] [],
    .mk .ret [(ii 0)] [] []]⟩
noncomputable def n15 : List Str := ["_law_script", "_law_k"]
noncomputable def f16 : Fn := ⟨2, 2, false, [.mk .ret [(.nd (.bin .Mod) [(.nd (.bin .Add) [(.nd (.bin .Mult) [(vv 0), (ii 48271)]), (.nd (.bin .Mult) [(ii 7919), (vv 1)])]), (ii 1000003)])] [] []]⟩
noncomputable def n16 : List Str := ["_law_cell", "_law_k"]
noncomputable def f17c0 : E := (.nd .sub [(vv 1), (.nd (.bin .Mod) [(.nd (.bin .Add) [(vv 0), (.nd (.bin .Mult) [(vv 2), (vv 6)])]), (ii 26)])])
noncomputable def f17 : Fn := ⟨1, 7, false, [.mk (.assign 1) [(ss abc)] [] [],
    .mk (.assign 2) [(.nd (.bin .Add) [(ii 1), (.nd (.bin .Mult) [(ii 2), (.nd (.bin .Mod) [(.nd (.bin .FloorDiv) [(vv 0), (ii 26)]), (ii 5)])])])] [] [],
    .mk (.assign 3) [(.nd .join [(ss k0), (.nd (.comp 6) [(.nd .range [(ii 6)]), f17c0])])] [] [],
    .mk (.assign 4) [(.nd .sub [(.nd .list [(ii 1), (ii 1), (ii 2), (ii 0)]), (.nd (.bin .Mod) [(.nd (.bin .FloorDiv) [(vv 0), (ii 130)]), (ii 4)])])] [] [],
    .mk (.assign 5) [(.nd (.bin .Add) [(vv 4), (.nd .sub [(.nd .list [(ii 1), (ii 2), (ii 1), (ii 1), (ii 0)]), (.nd (.bin .Mod) [(.nd (.bin .FloorDiv) [(vv 0), (ii 520)]), (ii 5)])])])] [] [],
    .mk .ret [(.nd .tuple [(.nd (.slice false true) [(vv 3), (vv 4)]), (.nd (.slice true true) [(vv 3), (vv 4), (vv 5)]), (.nd (.slice true true) [(vv 3), (vv 5), (.nd (.bin .Add) [(vv 5), (.nd (.bin .Mod) [(.nd (.bin .FloorDiv) [(vv 0), (ii 2600)]), (ii 3)])])])])] [] []]⟩
noncomputable def n17 : List Str := ["_law_cell", "_law_letters", "_law_step", "_law_row", "_law_one", "_law_other"]
noncomputable def f18c0 : E := (.nd .sub [(vv 1), (.nd (.bin .Mod) [(.nd (.bin .Add) [(vv 0), (.nd (.bin .Mult) [(vv 2), (vv 6)])]), (ii 26)])])
noncomputable def f18 : Fn := ⟨1, 7, false, [.mk .ite [(.nd (.cmp .NotEq) [(.nd (.bin .Mod) [(.nd (.bin .FloorDiv) [(vv 0), (ii 7800)]), (ii 8)]), (ii 3)])] [.mk .ret [(.nd (.call 17) [(vv 0)])] [] []] [],
    .mk (.assign 1) [(ss abc)] [] [],
    .mk (.assign 2) [(.nd (.bin .Add) [(ii 1), (.nd (.bin .Mult) [(ii 2), (.nd (.bin .Mod) [(.nd (.bin .FloorDiv) [(vv 0), (ii 26)]), (ii 5)])])])] [] [],
    .mk (.assign 3) [(.nd .join [(ss k0), (.nd (.comp 6) [(.nd .range [(ii 12)]), f18c0])])] [] [],
    .mk (.assign 4) [(.nd (.bin .Add) [(ii 1), (.nd (.bin .Mod) [(.nd (.bin .FloorDiv) [(vv 0), (ii 130)]), (ii 4)])])] [] [],
    .mk (.assign 5) [(.nd (.bin .Add) [(.nd (.bin .Add) [(vv 4), (ii 1)]), (.nd (.bin .Mod) [(.nd (.bin .FloorDiv) [(vv 0), (ii 520)]), (ii 4)])])] [] [],
    .mk .ret [(.nd .tuple [(.nd (.slice false true) [(vv 3), (vv 4)]), (.nd (.slice true true) [(vv 3), (vv 4), (vv 5)]), (.nd (.slice true true) [(vv 3), (vv 5), (.nd (.bin .Add) [(.nd (.bin .Add) [(vv 5), (ii 1)]), (.nd (.bin .Mod) [(.nd (.bin .FloorDiv) [(vv 0), (ii 2600)]), (ii 4)])])])])] [] []]⟩
noncomputable def n18 : List Str := ["_law_cell", "_law_letters", "_law_step", "_law_row", "_law_one", "_law_other"]
noncomputable def f19c0 : List S := [.mk .ret [(.nd .tuple [(ss kOpen), (.nd (.bin .Sub) [(.nd (.bin .Sub) [(vv 2), (ii 1)]), (.nd .sub [(.nd .sub [(vv 3), (ii 0)]), (ii 1)])]), (.nd .sub [(.nd .sub [(vv 3), (ii 0)]), (ii 2)]), (vv 6), (vv 7)])] [] []]
noncomputable def f19c1 : List S := [.mk .ite [(.nd .and [(.nd (.cmp .NotEq) [(vv 3), (.nd .list [])]), (.nd (.cmp .Eq) [(.nd (.bin .Mod) [(.nd (.bin .FloorDiv) [(vv 0), (ii 1024)]), (ii 3)]), (ii 0)])])] [.mk .ret [(.nd (.bin .Add) [(.nd (.slice false true) [(.nd .sub [(vv 3), (ii 0)]), (ii 3)]), (.nd .tuple [(vv 6), (vv 7)])])] [] []] [],
    .mk .ite [(.nd .and [(.nd (.cmp .NotEq) [(vv 3), (.nd .list [])]), (.nd (.cmp .Eq) [(.nd (.bin .Mod) [(.nd (.bin .FloorDiv) [(vv 0), (ii 1024)]), (ii 3)]), (ii 1)])])] f19c0 [],
    .mk .ret [(.nd .tuple [(ss kOpen), (vv 5), (.nd .sub [(.nd .sub [(vv 1), (ii 0)]), (.nd (.bin .Mod) [(.nd (.bin .FloorDiv) [(vv 0), (ii 256)]), (.nd .len [(.nd .sub [(vv 1), (ii 0)])])])]), (vv 6), (vv 7)])] [] []]
noncomputable def f19c2 : List S := [.mk .ite [(.nd .and [(.nd (.cmp .NotEq) [(vv 3), (.nd .list [])]), (.nd (.cmp .Gt) [(.nd (.bin .Mod) [(.nd (.bin .FloorDiv) [(vv 0), (ii 1024)]), (ii 4)]), (ii 0)])])] [.mk (.assignM [5, 6]) [(.nd (.slice true false) [(.nd .sub [(vv 3), (.nd (.bin .Mod) [(.nd (.bin .FloorDiv) [(vv 0), (ii 16)]), (.nd .len [(vv 3)])])]), (ii 3)])] [] []] [],
    .mk .ret [(.nd .tuple [(ss kClose), (vv 5), (vv 6), (.nd .sub [(.nd .sub [(vv 1), (ii 1)]), (.nd (.bin .Mod) [(.nd (.bin .FloorDiv) [(vv 0), (ii 256)]), (.nd .len [(.nd .sub [(vv 1), (ii 1)])])])]), (vv 7)])] [] []]
noncomputable def f19c3 : List S := [.mk .ret [(.nd .tuple [(ss kOn), (vv 5), (.nd .sub [(.nd .sub [(vv 1), (ii 2)]), (.nd (.bin .Mod) [(.nd (.bin .FloorDiv) [(vv 0), (ii 256)]), (.nd .len [(.nd .sub [(vv 1), (ii 2)])])])]), (vv 6)])] [] []]
noncomputable def f19 : Fn := ⟨5, 8, false, [.mk (.assign 5) [(.nd (.bin .Mod) [(.nd (.bin .FloorDiv) [(vv 0), (ii 4)]), (vv 2)])] [] [],
    .mk (.assign 6) [(.nd (.bin .Mod) [(.nd (.bin .FloorDiv) [(vv 0), (ii 16)]), (vv 2)])] [] [],
    .mk (.assign 7) [(.nd (.bin .Mod) [(.nd (.bin .FloorDiv) [(vv 0), (ii 64)]), (vv 2)])] [] [],
    .mk .ite [(.nd .and [(.nd (.cmp .Eq) [(.nd (.bin .Mod) [(vv 0), (ii 4)]), (ii 0)]), (.nd (.cmp .Lt) [(.nd .len [(vv 3)]), (vv 4)]), (.nd (.cmp .NotEq) [(.nd .sub [(vv 1), (ii 0)]), (ss k0)])])] f19c1 [],
    .mk .ite [(.nd .and [(.nd (.cmp .Lt) [(.nd (.bin .Mod) [(vv 0), (ii 4)]), (ii 2)]), (.nd (.cmp .NotEq) [(.nd .sub [(vv 1), (ii 1)]), (ss k0)])])] f19c2 [],
    .mk .ite [(.nd (.cmp .NotEq) [(.nd .sub [(vv 1), (ii 2)]), (ss k0)])] f19c3 [],
    .mk .ret [nn] [] []]⟩
noncomputable def n19 : List Str := ["_law_cell", "_law_signs", "_law_rooms", "_law_opens", "_law_most", "_law_one", "_law_other", "_law_third"]
noncomputable def f20c0 : E := (vv 12)
noncomputable def f20c1 : E := (vv 12)
noncomputable def f20c2 : E := (vv 12)
noncomputable def f20c3 : List S := [.mk (.assign 10) [(.nd (.comp 12) [(.nd (.own 8) []), f20c2, (.nd (.cmp .Eq) [(.nd .sub [(vv 12), (ii 0)]), (ss kOpen)])])] [] [],
    .mk (.assign 11) [(.nd (.call 19) [(.nd (.call 16) [(.nd (.call 15) [(vv 0), (.nd (.bin .Add) [(.nd (.bin .Add) [(vv 1), (ii 2)]), (vv 9)])]), (vv 9)]), (vv 2), (vv 4), (vv 10), (vv 5)])] [] [],
    .mk .ite [(.nd (.cmp .IsNot) [(vv 11), nn])] [.mk (.append 8) [(vv 11)] [] []] []]
noncomputable def f20 : Fn := ⟨4, 13, false, [.mk (.assign 4) [(.nd (.bin .Add) [(ii 1), (.nd (.bin .Mod) [(.nd (.call 15) [(vv 0), (vv 1)]), (vv 3)])])] [] [],
    .mk (.assign 5) [(.nd .sub [(.nd .list [(ii 4), (ii 2), (ii 1), (ii 1)]), (.nd (.bin .Sub) [(vv 4), (ii 1)])])] [] [],
    .mk (.assign 6) [(.nd (.comp 12) [(.nd .range [(vv 4)]), f20c0, (.nd (.cmp .Gt) [(.nd (.bin .Mod) [(.nd (.bin .FloorDiv) [(.nd (.call 15) [(vv 0), (.nd (.bin .Add) [(vv 1), (ii 1)])]), (.nd (.bin .Add) [(.nd (.bin .Mult) [(ii 4), (vv 12)]), (ii 1)])]), (ii 3)]), (ii 0)])])] [] [],
    .mk (.assign 7) [(.nd (.comp 12) [(.nd .range [(vv 4)]), f20c1, (.nd (.cmp .Eq) [(.nd (.bin .Mod) [(.nd (.bin .FloorDiv) [(.nd (.call 15) [(vv 0), (.nd (.bin .Add) [(vv 1), (ii 1)])]), (.nd (.bin .Add) [(.nd (.bin .Mult) [(ii 5), (vv 12)]), (ii 7)])]), (ii 2)]), (ii 0)])])] [] [],
    .mk (.ownL 8) [] [] [],
    .mk (.forS 9) [(.nd .range [(.nd (.bin .Add) [(ii 2), (.nd (.bin .Mod) [(.nd (.bin .FloorDiv) [(.nd (.call 15) [(vv 0), (vv 1)]), (ii 4)]), (ii 9)])])])] f20c3 [],
    .mk (.freeze 8) [] [] [],
    .mk .ret [(.nd .tuple [(vv 2), (vv 4), (vv 6), (vv 7), (vv 8)])] [] []]⟩
noncomputable def n20 : List Str := ["_law_script", "_law_at", "_law_signs", "_law_most", "_law_rooms", "_law_many", "_law_starts", "_law_ends", "_law_ways", "_law_k", "_law_opens", "_law_way"]
noncomputable def f21 : Fn := ⟨1, 1, false, [.mk .ret [(.nd (.call 8) [(.nd .sub [(vv 0), (ii 0)]), (.nd .sub [(vv 0), (ii 1)]), (.nd .listOf [(.nd .sub [(vv 0), (ii 2)])]), (.nd .listOf [(.nd .sub [(vv 0), (ii 3)])]), (.nd .listOf [(.nd .sub [(vv 0), (ii 4)])])])] [] []]⟩
noncomputable def n21 : List Str := ["_law_parts"]
noncomputable def f22c0 : E := (.nd (.call 16) [(.nd (.call 15) [(vv 0), (.nd (.bin .Add) [(vv 1), (.nd (.bin .Mod) [(vv 9), (ii 40)])])]), (vv 9)])
noncomputable def f22c1 : List S := [.mk (.append 4) [(.nd .tuple [(ss kOn), (vv 6), (vv 7), (.nd (.bin .Mod) [(.nd .sub [(vv 5), (.nd (.lenL 4) [])]), (vv 3)])])] [] []]
noncomputable def f22c2 : List S := [.mk (.append 4) [(.nd .tuple [(ss kOpen), (vv 6), (vv 7), (.nd (.bin .Mod) [(.nd .sub [(vv 5), (.nd (.lenL 4) [])]), (vv 3)]), (.nd (.bin .Mod) [(.nd (.bin .FloorDiv) [(.nd .sub [(vv 5), (.nd (.lenL 4) [])]), (ii 4)]), (vv 3)])])] [] []]
noncomputable def f22c3 : List S := [.mk (.append 4) [(.nd .tuple [(ss kClose), (vv 6), (vv 8), (vv 7), (.nd (.bin .Mod) [(.nd .sub [(vv 5), (.nd (.lenL 4) [])]), (vv 3)])])] [] []]
noncomputable def f22c4 : List S := [.mk (.forS 7) [(.nd .sub [(vv 2), (ii 1)])] f22c3 []]
noncomputable def f22c5 : List S := [.mk (.forS 7) [(.nd .sub [(vv 2), (ii 2)])] f22c1 [],
    .mk (.forS 7) [(.nd .sub [(vv 2), (ii 0)])] f22c2 [],
    .mk (.forS 8) [(.nd .range [(vv 3)])] f22c4 []]
noncomputable def f22 : Fn := ⟨4, 10, false, [.mk (.ownL 4) [] [] [],
    .mk (.assign 5) [(.nd (.comp 9) [(.nd .range [(ii 200)]), f22c0])] [] [],
    .mk (.forS 6) [(.nd .range [(vv 3)])] f22c5 [],
    .mk (.freeze 4) [] [] [],
    .mk .ret [(vv 4)] [] []]⟩
noncomputable def n22 : List Str := ["_law_script", "_law_at", "_law_signs", "_law_rooms", "_law_ways", "_law_cells", "_law_room", "_law_sign", "_law_kept"]
noncomputable def f23c0 : E := (.nd .sub [(vv 10), (ii 1)])
noncomputable def f23c1 : List S := [.mk (.append 6) [(.nd .tuple [(.nd .ite [(.nd (.cmp .Eq) [(.nd .sub [(vv 7), (ii 0)]), (ss kClose)]), (.nd (.slice false true) [(vv 7), (ii 4)]), (.nd (.slice false true) [(vv 7), (ii 3)])]), (vv 7)])] [] []]
noncomputable def f23c2 : List S := [.mk .ite [(.nd (.cmp .NotIn) [(vv 7), (.nd (.comp 10) [(.nd (.own 6) []), f23c0])])] f23c1 []]
noncomputable def f23c3 : E := (.nd .sub [(vv 10), (ii 0)])
noncomputable def f23c4 : E := (vv 10)
noncomputable def f23 : Fn := ⟨1, 11, false, [.mk (.assignM [1, 2, 3, 4, 5]) [(vv 0)] [] [],
    .mk (.ownL 6) [] [] [],
    .mk (.forS 7) [(vv 5)] f23c2 [],
    .mk (.assign 8) [(.nd (.bin .Mult) [(vv 2), (.nd (.bin .Add) [(.nd (.bin .Add) [(.nd .len [(.nd .sub [(vv 1), (ii 0)])]), (.nd .len [(.nd .sub [(vv 1), (ii 2)])])]), (.nd (.bin .Mult) [(vv 2), (.nd .len [(.nd .sub [(vv 1), (ii 1)])])])])])] [] [],
    .mk (.assign 9) [(.nd (.comp 10) [(.nd (.own 6) []), f23c3])] [] [],
    .mk .ret [(.nd .and [(.nd (.cmp .Eq) [(.nd .len [(vv 3)]), (ii 1)]), (.nd (.cmp .Eq) [(.nd .len [(vv 9)]), (vv 8)]), (.nd (.cmp .Eq) [(.nd (.comp 10) [(vv 9), f23c4, (.nd (.cmp .Gt) [(.nd .count [(vv 9), (vv 10)]), (ii 1)])]), (.nd .list [])])])] [] []]⟩
noncomputable def n23 : List Str := ["_law_parts", "_law_signs", "_law_rooms", "_law_starts", "_law_ends", "_law_ways", "_law_keys", "_law_way", "_law_due", "_law_heads"]
noncomputable def f24c0 : E := (vv 12)
noncomputable def f24c1 : List S := [.mk (.assign 4) [(.nd .tuple [(vv 1), (vv 2), (.nd .sub [(vv 4), (ii 2)]), (vv 6), (.nd (.bin .Add) [(.nd (.slice false true) [(vv 5), (vv 7)]), (.nd (.slice true false) [(vv 5), (.nd (.bin .Add) [(vv 7), (ii 1)])])])])] [] []]
noncomputable def f24c2 : List S := [.mk (.assign 8) [(.nd .sub [(vv 5), (vv 7)])] [] [],
    .mk (.assign 4) [(.nd .tuple [(vv 1), (vv 2), (.nd .sub [(vv 4), (ii 2)]), (vv 6), (.nd (.bin .Add) [(vv 5), (.nd .list [(.nd (.bin .Add) [(.nd (.slice false true) [(vv 8), (.nd .neg [(ii 1)])]), (.nd .tuple [(.nd (.bin .Mod) [(.nd (.bin .Add) [(.nd .sub [(vv 8), (.nd .neg [(ii 1)])]), (ii 1)]), (vv 2)])])])])])])] [] []]
noncomputable def f24c3 : List S := [.mk (.assign 5) [(.nd (.call 22) [(vv 0), (ii 4), (vv 1), (vv 2)])] [] [],
    .mk (.assign 6) [(.nd (.comp 12) [(.nd .range [(vv 2)]), f24c0, (.nd (.cmp .Eq) [(.nd (.bin .Mod) [(.nd (.bin .FloorDiv) [(vv 3), (.nd (.bin .Add) [(vv 12), (ii 9)])]), (ii 2)]), (ii 0)])])] [] [],
    .mk (.assign 4) [(.nd .tuple [(vv 1), (vv 2), (.nd .list [(.nd (.bin .Mod) [(.nd (.bin .FloorDiv) [(vv 3), (ii 8)]), (vv 2)])]), (vv 6), (vv 5)])] [] [],
    .mk (.assign 7) [(.nd (.bin .Mod) [(.nd (.bin .FloorDiv) [(vv 3), (ii 32)]), (.nd .max2 [(ii 1), (.nd .len [(vv 5)])])])] [] [],
    .mk .ite [(.nd (.cmp .Eq) [(.nd (.bin .Mod) [(vv 3), (ii 8)]), (ii 1)])] f24c1 [],
    .mk .ite [(.nd .and [(.nd (.cmp .Eq) [(.nd (.bin .Mod) [(vv 3), (ii 8)]), (ii 2)]), (.nd (.cmp .NotEq) [(vv 5), (.nd .list [])])])] f24c2 [],
    .mk .ite [(.nd (.cmp .Eq) [(.nd (.bin .Mod) [(vv 3), (ii 8)]), (ii 3)])] [.mk (.assign 4) [(.nd .tuple [(vv 1), (vv 2), (.nd .list []), (vv 6), (vv 5)])] [] []] [],
    .mk .ite [(.nd .and [(.nd (.cmp .Eq) [(.nd (.bin .Mod) [(vv 3), (ii 8)]), (ii 4)]), (.nd (.cmp .Gt) [(vv 2), (ii 1)])])] [.mk (.assign 4) [(.nd .tuple [(vv 1), (vv 2), (.nd .list [(ii 0), (.nd (.bin .Sub) [(vv 2), (ii 1)])]), (vv 6), (vv 5)])] [] []] []]
noncomputable def f24c4 : List S := [.mk (.assign 11) [(.nd (.call 14) [(vv 9)])] [] [],
    .mk .ite [(.nd .or [(.nd .not [(.nd (.isinst 4) [(vv 11)])]), (.nd (.cmp .NotEq) [(vv 11), (.nd (.call 23) [(vv 4)])])])] [.mk .ret [(bb false)] [] []] []]
noncomputable def f24 : Fn := ⟨1, 13, false, [.mk (.assign 1) [(.nd (.call 18) [(.nd (.call 15) [(vv 0), (ii 0)])])] [] [],
    .mk (.assign 2) [(.nd (.bin .Add) [(ii 1), (.nd (.bin .Mod) [(.nd (.call 15) [(vv 0), (ii 1)]), (ii 4)])])] [] [],
    .mk (.assign 3) [(.nd (.call 16) [(.nd (.call 15) [(vv 0), (ii 2)]), (ii 1)])] [] [],
    .mk (.assign 4) [(.nd (.call 20) [(vv 0), (ii 3), (vv 1), (ii 4)])] [] [],
    .mk .ite [(.nd (.cmp .Lt) [(.nd (.bin .Mod) [(vv 3), (ii 8)]), (ii 7)])] f24c3 [],
    .mk (.assign 9) [(.nd (.call 21) [(vv 4)])] [] [],
    .mk (.forS 10) [(.nd .range [(ii 2)])] f24c4 [],
    .mk .ret [(bb true)] [] []]⟩
noncomputable def n24 : List Str := ["_law_script", "_law_signs", "_law_rooms", "_law_cell", "_law_parts", "_law_ways", "_law_ends", "_law_at", "_law_way", "_law_machine", "_law_turn", "_law_found"]
noncomputable def prog : Prog := [f0, f1, f2, f3, f4, f5, f6, f7, f8, f9, f10, f11, f12, f13, f14, f15, f16, f17, f18, f19, f20, f21, f22, f23, f24]
noncomputable def fnN : List (Str × Nat) := [("are_letters", 0), ("are_signs", 1), ("need_signs", 2), ("kind_of", 3), ("is_room", 4), ("are_rooms", 5), ("is_way", 6), ("are_ways", 7), ("Machine", 8), ("is_plain", 14), ("_law_cell_at", 15), ("_law_mixed", 16), ("_law_signs_by", 17), ("_law_any_signs_by", 18), ("_law_way_by", 19), ("_law_parts_by", 20), ("_law_made", 21), ("_law_full", 22), ("_law_is_plain", 23), ("law", 24)]
noncomputable def metN : List (Str × Nat) := [("signs", 9), ("rooms", 10), ("starts", 11), ("ends", 12), ("ways", 13)]
noncomputable def fldN : List Str := ["marks", "many", "first", "last", "told"]
noncomputable def conN : List (Str × V) := [("LETTERS", .str abc), ("MOST_SIGNS", .int 4), ("MOST_ROOMS", .int 40), ("MOST_WAYS", .int 4000)]
end Mine.L04
end

noncomputable section
set_option maxRecDepth 100000
set_option linter.unusedVariables false
namespace Mine.L04
open PySem

noncomputable def step (cf : CallF) : CallF := fun f args K => okK (prog[f]?) fun fn => args.length + (if fn.init = true then 1 else 0) = fn.npar ∧ exs cf fn.body (frame0 fn args) fun fl G => if fn.init = true then fl = none ∧ okK (ownIO G 0) fun l => l.length = 5 ∧ K (instV l) else K (fl.getD .none)
theorem run {cf : CallF} {f : Nat} {fn : Fn} {args : List V} {K : V → Prop} (hf : prog[f]? = some fn) (hi : fn.init = false) (hl : args.length = fn.npar) (h : exs cf fn.body (args.map .v ++ List.replicate (fn.nslots - fn.npar) .unset) fun fl _ => K (fl.getD .none)) : step cf f args K := by
  unfold step
  rw [hf]
  refine ⟨by rw [hi, if_neg Bool.false_ne_true]; exact hl, ?_⟩
  rw [hi, show frame0 fn args = args.map .v ++ List.replicate (fn.nslots - fn.npar) .unset by unfold frame0; rw [hi]; rfl]
  exact h
/-! values -/
theorem sz_of {n : Nat} (h : n ≤ 1000) : n ≤ szLine := Nat.le_trans h (by decide)
theorem seq_list {l : List V} (h : l.length ≤ 1000) : seqV (.list l) = some l := if_pos (sz_of h)
theorem seq_text {l : List Nat} (h : l.length ≤ 1000) : seqV (text l) = some (charsV l) := if_pos (sz_of h)
theorem n_len {l : List V} (h : l.length ≤ 1000) : opN .len [.list l] = some (.int l.length) := by
  show (seqV (.list l)).map _ = _; rw [seq_list h]; rfl
theorem n_lenT {l : List V} (h : l.length ≤ 1000) : opN .len [.tuple l] = some (.int l.length) := by
  show (fitL l l).map _ = _; rw [show fitL l l = some l from if_pos (sz_of h)]; rfl
theorem n_lenS {l : List Nat} (h : l.length ≤ 1000) : opN .len [text l] = some (.int l.length) := by
  show (seqV (text l)).map _ = _; rw [seq_text h]; show some (PyData.int ((l.map _).length : Nat)) = _; rw [List.length_map]
theorem c_lt {a b : Int} (h : a < b) : cmpOp .Lt (.int a) (.int b) = some true := congrArg some (decide_eq_true h)
theorem c_nlt {a b : Int} (h : ¬ a < b) : cmpOp .Lt (.int a) (.int b) = some false := congrArg some (decide_eq_false h)
theorem c_gt {a b : Int} (h : b < a) : cmpOp .Gt (.int a) (.int b) = some true := congrArg some (decide_eq_true h)
theorem c_ngt {a b : Int} (h : ¬ b < a) : cmpOp .Gt (.int a) (.int b) = some false := congrArg some (decide_eq_false h)
theorem c_eq {a b : Int} : cmpOp .Eq (.int a) (.int b) = some (a == b) := rfl
theorem c_ne {a b : Int} : cmpOp .NotEq (.int a) (.int b) = some (!(a == b)) := rfl
theorem item_at {α : Type} {l : List α} {f : α → V} {i : Int} {x : α} (hz : l.length ≤ 1000) (h0 : 0 ≤ i) (e : l[i.toNat]? = some x) : itemO l f (.int i) = some (f x) := by
  show (if l.length ≤ szLine then _ else none) = _
  rw [if_pos (sz_of hz), if_pos h0, e]; rfl
theorem n_subL {l : List V} {i : Int} {x : V} (hz : l.length ≤ 1000) (h0 : 0 ≤ i) (e : l[i.toNat]? = some x) : opN .sub [.list l, .int i] = some x := item_at hz h0 e
theorem n_subS {l : List Nat} {i : Int} {c : Nat} (hz : l.length ≤ 1000) (h0 : 0 ≤ i) (e : l[i.toNat]? = some c) : opN .sub [text l, .int i] = some (text [c]) := item_at (f := fun c => text [c]) hz h0 e
theorem fmod_lo (a : Int) {b : Int} (h : 0 < b) : 0 ≤ a.fmod b := Int.fmod_nonneg_of_pos a h
theorem fmod_hi (a : Int) {b : Int} (h : 0 < b) : a.fmod b < b := Int.fmod_lt_of_pos a h
theorem n_mod {a b : Int} (h : 0 < b) : opN (.bin .Mod) [.int a, .int b] = some (.int (a.fmod b)) := if_neg (by omega)
theorem n_div {a b : Int} (h : 0 < b) (h' : b ≤ 1000000) : opN (.bin .FloorDiv) [.int a, .int b] = some (.int (a.fdiv b)) := if_neg (by omega)
theorem n_mul {a b : Int} (h : b.natAbs ≤ 1000000 ∨ a.natAbs ≤ 1000000) : opN (.bin .Mult) [.int a, .int b] = some (.int (a * b)) := if_pos h

/-! cells -/
noncomputable def scrV (scr : List Int) : V := .list (scr.map .int)
noncomputable def cellI (scr : List Int) (k : Int) : Int := if k < scr.length then scr.getD k.toNat 0 else 0
noncomputable def S15 (cf : CallF) : Prop := ∀ scr k K, scr.length ≤ 63 → 0 ≤ k → K (.int (cellI scr k)) → cf 15 [scrV scr, .int k] K
theorem p15 (cf : CallF) : S15 (step cf) := fun scr k K hs h0 h => by
  refine run (fn := f15) rfl rfl rfl ?_
  have hl : (scr.map PyData.int).length ≤ 1000 := by rw [List.length_map]; omega
  have hv : Val cf [.v (scrV scr), .v (.int k)] (.nd .len [vv 0]) (.int scr.length) := val_op (.one fun _ h => h) (by rw [← List.length_map (f := PyData.int) (as := scr)]; exact n_len hl)
  by_cases hk : k < scr.length
  · refine x_ifT (val_cmp (fun _ h => h) hv (c_lt hk)) (x_ret (val_op (.two (fun _ h => h) fun _ h => h) (n_subL (x := .int (cellI scr k)) hl h0 ?_)) h)
    have hk' : k.toNat < scr.length := by omega
    rw [List.getElem?_map, List.getElem?_eq_getElem hk']
    unfold cellI
    rw [if_pos hk, List.getD_eq_getElem?_getD, List.getElem?_eq_getElem hk']; rfl
  · refine x_ifF (val_cmp (fun _ h => h) hv (c_nlt hk)) (x_ret (v := .int (cellI scr k)) ?_ h)
    unfold cellI
    rw [if_neg hk]
    exact fun _ h => h
noncomputable def mixI (c k : Int) : Int := (c * 48271 + 7919 * k).fmod 1000003
noncomputable def S16 (cf : CallF) : Prop := ∀ c k K, K (.int (mixI c k)) → cf 16 [.int c, .int k] K
theorem p16 (cf : CallF) : S16 (step cf) := fun c k K h => run (fn := f16) rfl rfl rfl (x_ret (val_op (.two (val_op (.two (val_op (.two (fun _ h => h) fun _ h => h) (n_mul (.inl (by decide)))) (val_op (.two (fun _ h => h) fun _ h => h) (n_mul (.inr (by decide))))) rfl) fun _ h => h) (n_mod (by decide))) h)

/-! signs -/
noncomputable def low (c : Nat) : Bool := abc.cps.toList.elem c
noncomputable def S0 (cf : CallF) : Prop := ∀ l K, l.length ≤ 4 → (∀ c ∈ l, low c = true) → K (.bool true) → cf 0 [text l] K
theorem c_notin {c : Nat} {t : Str} : cmpOp .NotIn (text [c]) (.str t) = some (!t.cps.toList.elem c) := rfl
theorem c_in {c : Nat} {l : List Nat} : cmpOp .In (text [c]) (text l) = some (l.elem c) := rfl
theorem p0 (cf : CallF) : S0 (step cf) := fun l K hl hlow h => by
  refine run (fn := f0) rfl rfl rfl ?_
  refine x_ifF (val_or (.go (val_not (t := true) fun _ h => h) (.go (val_cmp (val_op (.one fun _ h => h) (n_lenS (Nat.le_trans hl (by decide)))) (fun _ h => h) (c_ngt (by omega))) .nil))) ?_
  refine x_for (xs := charsV l) (P := fun xs G => (∀ x ∈ xs, ∃ c, x = text [c] ∧ low c = true) ∧ ∃ s, G = [.v (text l), s]) (fun _ h => h) (seq_text (Nat.le_trans hl (by decide))) ⟨fun x m => ?_, _, rfl⟩ (fun G ⟨_, s, e⟩ => ?_) fun x l' G Kt ⟨hx, s, e⟩ nx _ => ?_
  · obtain ⟨c, m', rfl⟩ := List.mem_map.mp m
    exact ⟨c, rfl, hlow c m'⟩
  · exact x_ret (fun _ h => h) h
  · subst e
    obtain ⟨c, rfl, hc⟩ := hx x (.head _)
    exact x_ifF (val_cmp (fun _ h => h) (fun _ h => h) (c_notin.trans (congrArg (fun b => some (!b)) hc))) (nx _ ⟨fun y m => hx y (.tail _ m), _, rfl⟩)
noncomputable def sg (a b c : List Nat) : V := .tuple [text a, text b, text c]
structure SgOk (a b c : List Nat) : Prop where
  la : a.length ≤ 4
  lb : b.length ≤ 4
  lc : c.length ≤ 4
  lows : ∀ x ∈ a ++ b ++ c, low x = true
  nodup : (a ++ b ++ c).Nodup
theorem n_setS {l : List Nat} (h : l.Nodup) (hz : l.length ≤ 1000) : opN .lenSet [text l] = some (.int l.length) := by
  have e : setLen (text l) = some l.length := if_pos ⟨h, Nat.lt_of_le_of_lt hz (by decide)⟩
  show (setLen (text l)).map _ = _
  rw [e]; rfl
noncomputable def S1 (cf : CallF) : Prop := ∀ a b c K, SgOk a b c → K (.bool true) → cf 1 [sg a b c] K
theorem n_addS {a b : List Nat} (h : (a ++ b).length ≤ 1000) : opN (.bin .Add) [text a, text b] = some (text (a ++ b)) := if_pos (sz_of h)
theorem p1 (cf : CallF) (h0 : S0 cf) : S1 (step cf) := fun a b c K ok h => by
  have la := ok.la
  have lb := ok.lb
  have lc := ok.lc
  refine run (fn := f1) rfl rfl rfl ?_
  refine x_ifF (val_or (.go (val_not (t := true) fun _ h => h) (.go (fun _ h => h) .nil))) ?_
  have lowA : ∀ x ∈ [a, b, c], x.length ≤ 4 ∧ ∀ y ∈ x, low y = true := fun x m => by
    rcases List.mem_cons.mp m with rfl | m
    · exact ⟨la, fun y q => ok.lows y (List.mem_append_left _ (List.mem_append_left _ q))⟩
    rcases List.mem_cons.mp m with rfl | m
    · exact ⟨lb, fun y q => ok.lows y (List.mem_append_left _ (List.mem_append_right _ q))⟩
    · cases List.mem_singleton.mp m; exact ⟨lc, fun y q => ok.lows y (List.mem_append_right _ q)⟩
  refine x_for (xs := [a, b, c].map text) (P := fun xs G => (∀ x ∈ xs, ∃ l, x = text l ∧ l ∈ [a, b, c]) ∧ ∃ s, G = [.v (sg a b c), s, .unset]) (fun _ h => h) rfl ⟨fun x m => ?_, _, rfl⟩ (fun G ⟨_, s, e⟩ => ?_) fun x l' G Kt ⟨hx, s, e⟩ nx _ => ?_
  · obtain ⟨l, m', rfl⟩ := List.mem_map.mp m
    exact ⟨l, rfl, m'⟩
  · subst e
    have l1 : (a ++ b).length ≤ 1000 := by rw [List.length_append]; omega
    have l2 : (a ++ b ++ c).length ≤ 1000 := by rw [List.length_append, List.length_append]; omega
    refine x_assign (val_op (.two (val_op (.two (fun _ h => h) fun _ h => h) (n_addS l1)) fun _ h => h) (n_addS l2)) ?_
    refine x_ret (v := .bool true) (val_cmp (val_op (.one fun _ h => h) (n_setS ok.nodup l2)) (val_op (.one fun _ h => h) (n_lenS l2)) (c_eq.trans (congrArg some (beq_self_eq_true _)))) h
  · subst e
    obtain ⟨l, rfl, hl⟩ := hx x (.head _)
    exact x_ifF (val_not (t := true) (val_call (.one fun _ h => h) fun K h => h0 l K (lowA l hl).1 (lowA l hl).2 h)) (nx _ ⟨fun y m => hx y (.tail _ m), _, rfl⟩)
noncomputable def S2 (cf : CallF) : Prop := ∀ a b c K, SgOk a b c → K .none → cf 2 [sg a b c] K
theorem p2 (cf : CallF) (h1 : S1 cf) : S2 (step cf) := fun a b c K ok h => run (fn := f2) rfl rfl rfl (x_ifF (val_not (t := true) (val_call (.one fun _ h => h) fun K h => h1 a b c K ok h)) (x_nil h))
noncomputable def kindS (a b c : List Nat) (x : Nat) : Str := if a.elem x = true then kOpen else if b.elem x = true then kClose else if c.elem x = true then kOn else k0
noncomputable def S3 (cf : CallF) : Prop := ∀ a b c x K, K (.str (kindS a b c x)) → cf 3 [sg a b c, text [x]] K
theorem p3 (cf : CallF) : S3 (step cf) := fun a b c x K h => by
  refine run (fn := f3) rfl rfl rfl ?_
  refine x_ifF (val_or (.go (val_not (t := true) fun _ h => h) (.go (fun _ h => h) .nil))) ?_
  refine x_forM (xs := [.tuple [text a, .str kOpen], .tuple [text b, .str kClose], .tuple [text c, .str kOn]]) (v := .list [.tuple [text a, .str kOpen], .tuple [text b, .str kClose], .tuple [text c, .str kOn]])
    (P := fun xs G => (xs = [.tuple [text a, .str kOpen], .tuple [text b, .str kClose], .tuple [text c, .str kOn]] ∨ (a.elem x = false ∧ xs = [.tuple [text b, .str kClose], .tuple [text c, .str kOn]]) ∨ (a.elem x = false ∧ b.elem x = false ∧ xs = [.tuple [text c, .str kOn]]) ∨ (a.elem x = false ∧ b.elem x = false ∧ c.elem x = false ∧ xs = [])) ∧ ∃ s t, G = [.v (sg a b c), .v (text [x]), s, t])
    (fun _ h => h) rfl ⟨.inl rfl, _, _, rfl⟩ (fun G ⟨q, s, t, e⟩ => ?_) fun y l' G Kt ⟨q, s, t, e⟩ nx rt => ?_
  · subst e
    rcases q with q | ⟨_, q⟩ | ⟨_, _, q⟩ | ⟨h1, h2, h3, _⟩
    · cases q
    · cases q
    · cases q
    · refine x_ret (fun _ h => h) ?_
      unfold kindS at h
      rw [h1, h2, h3] at h
      exact h
  · subst e
    have go : ∀ (l : List Nat) (k : Str), (l.elem x = true → K (.str k)) → (l.elem x = false → Kt none [.v (sg a b c), .v (text [x]), .v (text l), .v (.str k)]) → exs cf f3c0 [.v (sg a b c), .v (text [x]), .v (text l), .v (.str k)] Kt := fun l k h1 h2 =>
      x_if (val_cmp (fun _ h => h) (fun _ h => h) c_in) (fun q => x_ret (fun _ h => h) (rt _ _ (h1 q))) fun q => x_nil (h2 q)
    unfold kindS at h
    rcases q with q | ⟨h1, q⟩ | ⟨h1, h2, q⟩ | ⟨_, _, _, q⟩
    · cases q
      exact go a kOpen (fun q => by rw [if_pos q] at h; exact h) fun q => nx _ ⟨.inr (.inl ⟨q, rfl⟩), _, _, rfl⟩
    · cases q
      exact go b kClose (fun q => by rw [h1, if_neg Bool.false_ne_true, if_pos q] at h; exact h) fun q => nx _ ⟨.inr (.inr (.inl ⟨h1, q, rfl⟩)), _, _, rfl⟩
    · cases q
      exact go c kOn (fun q => by rw [h1, h2, if_neg Bool.false_ne_true, if_neg Bool.false_ne_true, if_pos q] at h; exact h) fun q => nx _ ⟨.inr (.inr (.inr ⟨h1, h2, q, rfl⟩)), _, _, rfl⟩
    · cases q
noncomputable def In (R i : Int) : Prop := 0 ≤ i ∧ i < R
theorem val_chain {cf : CallF} {G : Gs} {a b c : E} {i j k : Int} (ha : Val cf G a (.int i)) (hb : Val cf G b (.int j)) (hc : Val cf G c (.int k)) (h1 : i ≤ j) (h2 : j < k) : Val cf G (.nd .chain [a, b, c]) (.bool true) := fun K h => ha _ (hb _ (by
  show if decide (i ≤ j) = true then _ else _
  rw [if_pos (decide_eq_true h1)]
  refine hc _ ?_
  show K (.bool (decide (j < k)))
  rw [decide_eq_true h2]; exact h))
noncomputable def S4 (cf : CallF) : Prop := ∀ R i K, In R i → K (.bool true) → cf 4 [.int i, .int R] K
theorem p4 (cf : CallF) : S4 (step cf) := fun R i K hi h => run (fn := f4) rfl rfl rfl (x_ret (val_and (.go (fun _ h => h) (.go (val_not (t := false) fun _ h => h) (.go (val_chain (fun _ h => h) (fun _ h => h) (fun _ h => h) hi.1 hi.2) .nil)))) h)
theorem ints_of : ∀ is : List Int, intsL (is.map .int) = some is
  | [] => rfl
  | i :: r => by unfold intsL; rw [List.map_cons, List.mapM_cons]; show (intsL (r.map .int)).bind _ = _; rw [ints_of r]; rfl
theorem n_setI {is : List Int} (h : is.Nodup) (hz : is.length ≤ 40) : opN .lenSet [.list (is.map .int)] = some (.int is.length) := by
  have e : setLen (.list (is.map .int)) = some is.length := by
    unfold setLen
    dsimp only
    rw [ints_of]
    exact if_pos ⟨h, Nat.lt_of_le_of_lt hz (by decide)⟩
  show (setLen (.list (is.map .int))).map _ = _
  rw [e]; rfl
noncomputable def roomsV (is : List Int) : V := .list (is.map .int)
structure RoomsOk (R : Int) (is : List Int) : Prop where
  len : is.length ≤ 40
  nodup : is.Nodup
  rooms : ∀ i ∈ is, In R i
noncomputable def S5 (cf : CallF) : Prop := ∀ R is K, RoomsOk R is → K (.bool true) → cf 5 [roomsV is, .int R] K
theorem p5 (cf : CallF) (h4 : S4 cf) : S5 (step cf) := fun R is K ok h => by
  refine run (fn := f5) rfl rfl rfl ?_
  have hl := ok.len
  have hz : (is.map PyData.int).length ≤ 1000 := by rw [List.length_map]; omega
  refine x_ifF (val_not (t := true) fun _ h => h) ?_
  refine x_for (xs := is.map .int) (P := fun xs G => (∀ x ∈ xs, ∃ i, x = .int i ∧ In R i) ∧ ∃ s, G = [.v (roomsV is), .v (.int R), s]) (fun _ h => h) (seq_list hz) ⟨fun x m => ?_, _, rfl⟩ (fun G ⟨_, s, e⟩ => ?_) fun x l' G Kt ⟨hx, s, e⟩ nx _ => ?_
  · obtain ⟨i, m', rfl⟩ := List.mem_map.mp m
    exact ⟨i, rfl, ok.rooms i m'⟩
  · subst e
    refine x_ret (v := .bool true) (val_cmp (val_op (.one fun _ h => h) (n_setI ok.nodup hl)) (val_op (.one fun _ h => h) (n_len hz)) (c_eq.trans (congrArg some (beq_iff_eq.mpr (by rw [List.length_map])))) ) h
  · subst e
    obtain ⟨i, rfl, hi⟩ := hx x (.head _)
    exact x_ifF (val_not (t := true) (val_call (.two (fun _ h => h) fun _ h => h) fun K h => h4 R i K hi h)) (nx _ ⟨fun y m => hx y (.tail _ m), _, rfl⟩)
end Mine.L04
end

noncomputable section
set_option maxRecDepth 100000
set_option linter.unusedVariables false
namespace Mine.L04
open PySem

/-! equality of texts -/
theorem strOk_eq (x : Str) : PyData.strOk x = x.cps.toList.all (· < 0x110000) := by unfold PyData.strOk; rw [Array.all_toList]
theorem okS {s : Str} (h : PyData.strOk s = true) : okEq (.str s) = true := by
  show (PyData.strOk s && _) = true
  rw [h]; rfl
theorem c_eqS {s t : Str} (hs : PyData.strOk s = true) (ht : PyData.strOk t = true) : cmpOp .Eq (.str s) (.str t) = some (s == t) := if_pos (by rw [okS hs, okS ht]; rfl)
theorem c_neS {s t : Str} (hs : PyData.strOk s = true) (ht : PyData.strOk t = true) : cmpOp .NotEq (.str s) (.str t) = some (!(s == t)) := congrArg (Option.map (!·)) (c_eqS hs ht)
theorem ok_on : PyData.strOk kOn = true := by rw [strOk_eq]; rfl
theorem ok_open : PyData.strOk kOpen = true := by rw [strOk_eq]; rfl
theorem ok_close : PyData.strOk kClose = true := by rw [strOk_eq]; rfl
theorem ok_0 : PyData.strOk k0 = true := by rw [strOk_eq]; rfl
theorem low_lt {c : Nat} (h : low c = true) : c < 0x110000 := by
  have : ∀ x ∈ abc.cps.toList, x < 0x110000 := by decide
  exact this c (List.elem_iff.mp h)
theorem ok_text {l : List Nat} (h : ∀ c ∈ l, low c = true) : PyData.strOk ⟨l.toArray⟩ = true := by
  rw [strOk_eq]
  exact List.all_eq_true.mpr fun c m => decide_eq_true (low_lt (h c m))
set_option linter.unusedSectionVars false
section
variable {a b c : List Nat} {x : Nat} (ok : SgOk a b c)
include ok
theorem SgOk.inC (h : x ∈ c) : x ∉ a ∧ x ∉ b := by
  have := (List.nodup_append.mp ok.nodup).2.2
  exact ⟨fun q => this x (List.mem_append_left _ q) x h rfl, fun q => this x (List.mem_append_right _ q) x h rfl⟩
theorem SgOk.inB (h : x ∈ b) : x ∉ a := fun q => (List.nodup_append.mp (List.nodup_append.mp ok.nodup).1).2.2 x q x h rfl
theorem kind_op (h : x ∈ a) : kindS a b c x = kOpen := if_pos (List.elem_iff.mpr h)
theorem kind_cl (h : x ∈ b) : kindS a b c x = kClose := (if_neg fun q => ok.inB h (List.elem_iff.mp q)).trans (if_pos (List.elem_iff.mpr h))
theorem kind_on (h : x ∈ c) : kindS a b c x = kOn := (if_neg fun q => (ok.inC h).1 (List.elem_iff.mp q)).trans ((if_neg fun q => (ok.inC h).2 (List.elem_iff.mp q)).trans (if_pos (List.elem_iff.mpr h)))
theorem SgOk.lowA (h : x ∈ a) : low x = true := ok.lows x (List.mem_append_left _ (List.mem_append_left _ h))
theorem SgOk.lowB (h : x ∈ b) : low x = true := ok.lows x (List.mem_append_left _ (List.mem_append_right _ h))
theorem SgOk.lowC (h : x ∈ c) : low x = true := ok.lows x (List.mem_append_right _ h)
end

/-! ways -/
inductive W where
  | on (a : Int) (c : Nat) (b : Int)
  | op (a : Int) (c : Nat) (b t : Int)
  | cl (a b : Int) (c : Nat) (t : Int)
noncomputable def W.v : W → V
  | .on a c b => .tuple [.str kOn, .int a, text [c], .int b]
  | .op a c b t => .tuple [.str kOpen, .int a, text [c], .int b, .int t]
  | .cl a b c t => .tuple [.str kClose, .int a, .int b, text [c], .int t]
noncomputable def W.ok (s0 s1 s2 : List Nat) (R : Int) : W → Prop
  | .on a c b => In R a ∧ c ∈ s2 ∧ In R b
  | .op a c b t => In R a ∧ c ∈ s0 ∧ In R b ∧ In R t
  | .cl a b c t => In R a ∧ In R b ∧ c ∈ s1 ∧ In R t
noncomputable def S6 (cf : CallF) : Prop := ∀ s0 s1 s2 R w K, SgOk s0 s1 s2 → W.ok s0 s1 s2 R w → K (.bool true) → cf 6 [w.v, sg s0 s1 s2, .int R] K
theorem p6 (cf : CallF) (h3 : S3 cf) (h4 : S4 cf) : S6 (step cf) := fun s0 s1 s2 R w K sk ok h => by
  have r4 : ∀ {G a b i}, Val cf G a (.int i) → Val cf G b (.int R) → In R i → Val cf G (.nd (.call 4) [a, b]) (.bool true) := fun ha hb hi => val_call (.two ha hb) fun K h => h4 R _ K hi h
  have r3 : ∀ {G a b x k}, Val cf G a (sg s0 s1 s2) → Val cf G b (text [x]) → kindS s0 s1 s2 x = k → PyData.strOk k = true → Val cf G (.nd (.cmp .Eq) [.nd (.call 3) [a, b], ss k]) (.bool true) := fun {G a b x k} ha hb hk hs => val_cmp (val_call (.two ha hb) fun K h => h3 s0 s1 s2 x K (by rw [hk]; exact h)) (fun _ h => h) ((c_eqS hs hs).trans (congrArg some (beq_self_eq_true _)))
  refine run (fn := f6) rfl rfl rfl ?_
  cases w with
  | on a c b =>
    refine x_ifF (val_or (.go (val_not (t := true) fun _ h => h) (.go (fun _ h => h) (.go (val_not (t := true) (r4 (fun _ h => h) (fun _ h => h) ok.1)) .nil)))) ?_
    refine x_ifF (val_not (t := true) fun _ h => h) (x_ifT (val_cmp (fun _ h => h) (fun _ h => h) ((c_eqS ok_on ok_on).trans (congrArg some (beq_self_eq_true _)))) ?_)
    exact x_ret (val_and (.go (fun _ h => h) (.go (r3 (fun _ h => h) (fun _ h => h) (kind_on sk ok.2.1) ok_on) (.go (r4 (fun _ h => h) (fun _ h => h) ok.2.2) .nil)))) h
  | op a c b t =>
    refine x_ifF (val_or (.go (val_not (t := true) fun _ h => h) (.go (fun _ h => h) (.go (val_not (t := true) (r4 (fun _ h => h) (fun _ h => h) ok.1)) .nil)))) ?_
    refine x_ifF (val_not (t := true) fun _ h => h) (x_ifF (val_cmp (fun _ h => h) (fun _ h => h) ((c_eqS ok_open ok_on).trans (congrArg some (by decide)))) ?_)
    refine x_ifF (val_or (.go (fun _ h => h) (.go (val_not (t := true) (r4 (fun _ h => h) (fun _ h => h) ok.2.2.2)) .nil))) ?_
    refine x_ifT (val_cmp (fun _ h => h) (fun _ h => h) ((c_eqS ok_open ok_open).trans (congrArg some (beq_self_eq_true _)))) ?_
    exact x_ret (val_and (.go (r3 (fun _ h => h) (fun _ h => h) (kind_op sk ok.2.1) ok_open) (.go (r4 (fun _ h => h) (fun _ h => h) ok.2.2.1) .nil))) h
  | cl a b c t =>
    refine x_ifF (val_or (.go (val_not (t := true) fun _ h => h) (.go (fun _ h => h) (.go (val_not (t := true) (r4 (fun _ h => h) (fun _ h => h) ok.1)) .nil)))) ?_
    refine x_ifF (val_not (t := true) fun _ h => h) (x_ifF (val_cmp (fun _ h => h) (fun _ h => h) ((c_eqS ok_close ok_on).trans (congrArg some (by decide)))) ?_)
    refine x_ifF (val_or (.go (fun _ h => h) (.go (val_not (t := true) (r4 (fun _ h => h) (fun _ h => h) ok.2.2.2)) .nil))) ?_
    refine x_ifF (val_cmp (fun _ h => h) (fun _ h => h) ((c_eqS ok_close ok_open).trans (congrArg some (by decide)))) ?_
    exact x_ret (val_and (.go (val_cmp (fun _ h => h) (fun _ h => h) ((c_eqS ok_close ok_close).trans (congrArg some (beq_self_eq_true _)))) (.go (r4 (fun _ h => h) (fun _ h => h) ok.2.1) (.go (r3 (fun _ h => h) (fun _ h => h) (kind_cl sk ok.2.2.1) ok_close) .nil)))) h
noncomputable def waysV (ws : List W) : V := .list (ws.map W.v)
noncomputable def S7 (cf : CallF) : Prop := ∀ s0 s1 s2 R ws K, SgOk s0 s1 s2 → ws.length ≤ 1000 → (∀ w ∈ ws, W.ok s0 s1 s2 R w) → K (.bool true) → cf 7 [waysV ws, sg s0 s1 s2, .int R] K
theorem p7 (cf : CallF) (h6 : S6 cf) : S7 (step cf) := fun s0 s1 s2 R ws K sk hl ok h => by
  refine run (fn := f7) rfl rfl rfl ?_
  have hz : (ws.map W.v).length ≤ 1000 := by rw [List.length_map]; exact hl
  refine x_ifF (val_or (.go (val_not (t := true) fun _ h => h) (.go (val_cmp (val_op (.one fun _ h => h) (n_len hz)) (fun _ h => h) (c_ngt (by omega))) .nil))) ?_
  refine x_for (xs := ws.map W.v) (P := fun xs G => (∀ x ∈ xs, ∃ w, x = W.v w ∧ W.ok s0 s1 s2 R w) ∧ ∃ s, G = [.v (waysV ws), .v (sg s0 s1 s2), .v (.int R), s]) (fun _ h => h) (seq_list hz) ⟨fun x m => ?_, _, rfl⟩ (fun G ⟨_, s, e⟩ => ?_) fun x l' G Kt ⟨hx, s, e⟩ nx _ => ?_
  · obtain ⟨w, m', rfl⟩ := List.mem_map.mp m
    exact ⟨w, rfl, ok w m'⟩
  · exact x_ret (fun _ h => h) h
  · subst e
    obtain ⟨w, rfl, hw⟩ := hx x (.head _)
    exact x_ifF (val_not (t := true) (val_call (.cons (fun _ h => h) (.two (fun _ h => h) fun _ h => h)) fun K h => h6 s0 s1 s2 R w K sk hw h)) (nx _ ⟨fun y m => hx y (.tail _ m), _, rfl⟩)

/-! the machine -/
theorem ev_vv {cf : CallF} {G : Gs} {k : Nat} {x : V} {K : V → Prop} (e : varO G k = some x) (h : K x) : ev cf (vv k) G K := okK_some e h
theorem x_setAttr {cf : CallF} {G : Gs} {e : E} {k j : Nat} {l : List V} {r : List S} {K : Option V → Gs → Prop} (hl : ownIO G k = some l) (h : ev cf e G fun v => l.length = j ∧ exs cf r (G.set k (.ownI (l ++ [v]))) K) : exs cf (.mk (.setAttr k j) [e] [] [] :: r) G K := by
  show ev cf e G fun x => okK (ownIO G k) fun l => l.length = j ∧ exs cf r (G.set k (.ownI (l ++ [x]))) K
  rw [hl]
  exact h
noncomputable def machV (sv : V) (R : Int) (st en : List Int) (r : List V) : V := instV [sv, .int R, roomsV st, roomsV en, .list r]
theorem ev_sort {cf : CallF} {G : Gs} {a : E} {is : List Int} {K : V → Prop} (h : Val cf G a (roomsV is)) (hz : is.length ≤ 40) (k : ∀ r : List Int, r.Perm is → K (roomsV r)) : ev cf (.nd .sorted [a]) G K := h _ (okK_some (z := is) (ints_of is) ⟨by omega, k⟩)
theorem ev_sortSet {cf : CallF} {G : Gs} {a : E} {l : List V} {K : V → Prop} (h : Val cf G a (.list l)) (k : (l.all wayV && decide (l.length < 128)) = true ∧ (∀ x ∈ l, ∀ y ∈ l, ltK (keysOf x) (keysOf y) = true) ∧ ∀ r : List V, r.Nodup → (∀ y, y ∈ r ↔ y ∈ l) → K (.list r)) : ev cf (.nd .sortedSet [a]) G K := h _ (okK_some rfl k)
theorem way_ok {s0 s1 s2 : List Nat} {R : Int} {w : W} (sk : SgOk s0 s1 s2) (ok : W.ok s0 s1 s2 R w) : wayV w.v = true := by
  have t1 : ∀ {c}, low c = true → scalar (text [c]) = true := fun {c} h => ok_text (l := [c]) fun x m => by cases List.mem_singleton.mp m; exact h
  cases w with
  | on a c b => show (PyData.strOk kOn && (true && (scalar (text [c]) && (true && true)))) = true; rw [ok_on, t1 (sk.lowC ok.2.1)]; rfl
  | op a c b t => show (PyData.strOk kOpen && (true && (scalar (text [c]) && (true && (true && true))))) = true; rw [ok_open, t1 (sk.lowA ok.2.1)]; rfl
  | cl a b c t => show (PyData.strOk kClose && (true && (true && (scalar (text [c]) && (true && true))))) = true; rw [ok_close, t1 (sk.lowB ok.2.2.1)]; rfl
theorem lt_step {k m : Sc} {ks ms : List Sc} (h : k.isLeft = m.isLeft) (h' : k = m → ltK ks ms = true) : ltK (k :: ks) (m :: ms) = true := by
  show (if k = m then ltK ks ms else k.isLeft == m.isLeft) = true
  by_cases e : k = m
  · rw [if_pos e]; exact h' e
  · rw [if_neg e, h]; exact beq_self_eq_true _
theorem way_lt (w u : W) : ltK (keysOf w.v) (keysOf u.v) = true := by
  have ne : ∀ {s t : Str} {ks ms : List Sc}, s ≠ t → ltK (.inr s :: ks) (.inr t :: ms) = true := fun h => lt_step rfl fun e => absurd (Sum.inr.inj e) h
  cases w with
  | on a c b => cases u with
    | on a' c' b' => exact lt_step rfl fun _ => lt_step rfl fun _ => lt_step rfl fun _ => lt_step rfl fun _ => rfl
    | op a' c' b' t' => exact ne (by decide)
    | cl a' b' c' t' => exact ne (by decide)
  | op a c b t => cases u with
    | on a' c' b' => exact ne (by decide)
    | op a' c' b' t' => exact lt_step rfl fun _ => lt_step rfl fun _ => lt_step rfl fun _ => lt_step rfl fun _ => lt_step rfl fun _ => rfl
    | cl a' b' c' t' => exact ne (by decide)
  | cl a b c t => cases u with
    | on a' c' b' => exact ne (by decide)
    | op a' c' b' t' => exact ne (by decide)
    | cl a' b' c' t' => exact lt_step rfl fun _ => lt_step rfl fun _ => lt_step rfl fun _ => lt_step rfl fun _ => lt_step rfl fun _ => rfl
noncomputable def S8 (cf : CallF) : Prop := ∀ s0 s1 s2 R st en ws K, SgOk s0 s1 s2 → 1 ≤ R → R ≤ 40 → RoomsOk R st → RoomsOk R en → ws.length < 128 → (∀ w ∈ ws, W.ok s0 s1 s2 R w) →
  (∀ st' en' r, st'.Perm st → en'.Perm en → r.Nodup → (∀ y, y ∈ r ↔ y ∈ ws.map W.v) → K (machV (sg s0 s1 s2) R st' en' r)) → cf 8 [sg s0 s1 s2, .int R, roomsV st, roomsV en, waysV ws] K
theorem p8 (cf : CallF) (h2 : S2 cf) (h4 : S4 cf) (h5 : S5 cf) (h7 : S7 cf) : S8 (step cf) := fun s0 s1 s2 R st en ws K sk h1 h40 ok3 ok4 hl ok h => by
  show _ ∧ exs cf f8.body [.ownI [], .v (sg s0 s1 s2), .v (.int R), .v (roomsV st), .v (roomsV en), .v (waysV ws)] fun fl G => fl = none ∧ okK (ownIO G 0) fun l => l.length = 5 ∧ K (instV l)
  refine ⟨rfl, ?_⟩
  refine x_call (val_call (.one fun _ h => h) fun K h => h2 _ _ _ K sk h) ?_
  refine x_ifF (val_or (.go (val_not (t := true) (val_call (vs := [.int R, .int 41]) (.two (fun _ h => h) fun _ h => h) fun K h => h4 41 R K ⟨by omega, by omega⟩ h)) (.go (val_cmp (fun _ h => h) (fun _ h => h) (c_nlt (by omega))) .nil))) ?_
  refine x_ifF (val_or (.go (val_not (t := true) (val_call (.two (fun _ h => h) fun _ h => h) fun K h => h5 R st K ok3 h)) (.go (val_not (t := true) (val_call (.two (fun _ h => h) fun _ h => h) fun K h => h5 R en K ok4 h)) (.go (val_not (t := true) (val_call (.cons (fun _ h => h) (.two (fun _ h => h) fun _ h => h)) fun K h => h7 _ _ _ R ws K sk (by omega) ok h)) .nil)))) ?_
  refine x_setAttr (l := []) rfl ?_
  refine ev_vv (x := sg s0 s1 s2) rfl ⟨rfl, x_setAttr (l := [_]) rfl ?_⟩
  refine ev_vv (x := .int R) rfl ⟨rfl, x_setAttr (l := [_, _]) rfl ?_⟩
  refine ev_sort (show Val cf _ (vv 3) (roomsV st) from fun _ h => h) ok3.len fun st' p3 => ⟨rfl, x_setAttr (l := [_, _, _]) rfl ?_⟩
  refine ev_sort (show Val cf _ (vv 4) (roomsV en) from fun _ h => h) ok4.len fun en' p4 => ⟨rfl, x_setAttr (l := [_, _, _, _]) rfl ?_⟩
  refine ev_sortSet (l := ws.map W.v) (fun _ h => h) ⟨(Bool.and_eq_true _ _).mpr ⟨List.all_eq_true.mpr fun x m => ?_, decide_eq_true (by rw [List.length_map]; exact hl)⟩, fun x mx y my => ?_, fun r hn hm => ⟨rfl, rfl, rfl, h st' en' r p3 p4 hn hm⟩⟩
  · obtain ⟨w, m', rfl⟩ := List.mem_map.mp m
    exact way_ok sk (ok w m')
  · obtain ⟨w, _, rfl⟩ := List.mem_map.mp mx
    obtain ⟨u, _, rfl⟩ := List.mem_map.mp my
    exact way_lt w u
/-! the machine's methods -/
section
variable {cf : CallF} {sv : V} {R : Int} {st en : List Int} {r : List V} {K : V → Prop}
theorem p9 (h : K sv) : step cf 9 [machV sv R st en r] K := run (fn := f9) rfl rfl rfl (x_ret (fun _ h => h) h)
theorem p10 (h : K (.int R)) : step cf 10 [machV sv R st en r] K := run (fn := f10) rfl rfl rfl (x_ret (fun _ h => h) h)
theorem p11 (hz : st.length ≤ 40) (h : K (roomsV st)) : step cf 11 [machV sv R st en r] K := run (fn := f11) rfl rfl rfl (x_ret (val_op (.one (v := roomsV st) fun _ h => h) (show (fitL (st.map PyData.int) _).map _ = _ by rw [show fitL (st.map PyData.int) (st.map PyData.int) = some (st.map .int) from if_pos (sz_of (by rw [List.length_map]; omega))]; rfl)) h)
theorem p13 (hz : r.length ≤ 1000) (h : K (.list r)) : step cf 13 [machV sv R st en r] K := run (fn := f13) rfl rfl rfl (x_ret (val_op (.one (v := .list r) fun _ h => h) (show (fitL r r).map _ = _ by rw [show fitL r r = some r from if_pos (sz_of hz)]; rfl)) h)
end
end Mine.L04
end

noncomputable section
set_option maxRecDepth 100000
set_option linter.unusedVariables false
namespace Mine.L04
open PySem

/-! flat things -/
noncomputable def scB (x : V) : Bool := match x with
  | .int _ => true
  | .str _ => true
  | _ => false
theorem eqv_sc {x y : V} (hx : scB x = true) (hy : scB y = true) : PyData.eqv x y = decide (kOf x = kOf y) := by
  cases x with
  | int i => cases y with
    | int j => show (i == j) = decide ((Sum.inl i : Sc) = .inl j); rw [Bool.eq_iff_iff, beq_iff_eq, decide_eq_true_iff]; exact ⟨congrArg _, Sum.inl.inj⟩
    | str t => exact (decide_eq_false fun e : (Sum.inl i : Sc) = .inr t => nomatch e).symm
    | _ => cases hy
  | str s => cases y with
    | int j => exact (decide_eq_false fun e : (Sum.inr s : Sc) = .inl j => nomatch e).symm
    | str t => show (s == t) = decide ((Sum.inr s : Sc) = .inr t); rw [Bool.eq_iff_iff, beq_iff_eq, decide_eq_true_iff]; exact ⟨congrArg _, Sum.inr.inj⟩
    | _ => cases hy
  | _ => cases hx
theorem kOf_inj {x y : V} (hx : scB x = true) (hy : scB y = true) (e : kOf x = kOf y) : x = y := by
  cases x with
  | int i => cases y with
    | int j => rw [Sum.inl.inj e]
    | str t => exact nomatch (show (Sum.inl i : Sc) = .inr t from e)
    | _ => cases hy
  | str s => cases y with
    | int j => exact nomatch (show (Sum.inr s : Sc) = .inl j from e)
    | str t => rw [Sum.inr.inj e]
    | _ => cases hy
  | _ => cases hx
theorem eqvs_sc : ∀ {l m : List V}, l.all scB = true → m.all scB = true → PyData.eqvAll l m = decide (l.map kOf = m.map kOf)
  | [], [], _, _ => rfl
  | [], _ :: _, _, _ => (decide_eq_false fun e => nomatch e).symm
  | _ :: _, [], _, _ => (decide_eq_false fun e => nomatch e).symm
  | x :: l, y :: m, h, h' => by
    have h := (Bool.and_eq_true _ _).mp h
    have h' := (Bool.and_eq_true _ _).mp h'
    show (PyData.eqv x y && PyData.eqvAll l m) = _
    rw [eqv_sc h.1 h'.1, eqvs_sc h.2 h'.2, Bool.eq_iff_iff, Bool.and_eq_true, decide_eq_true_iff, decide_eq_true_iff, decide_eq_true_iff]
    exact ⟨fun e => by rw [List.map_cons, List.map_cons, e.1, e.2], fun e => List.cons.inj e⟩
noncomputable def W.l : W → List V
  | .on a c b => [.str kOn, .int a, text [c], .int b]
  | .op a c b t => [.str kOpen, .int a, text [c], .int b, .int t]
  | .cl a b c t => [.str kClose, .int a, .int b, text [c], .int t]
noncomputable def W.hl : W → List V
  | .on a c b => [.str kOn, .int a, text [c]]
  | .op a c b t => [.str kOpen, .int a, text [c]]
  | .cl a b c t => [.str kClose, .int a, .int b, text [c]]
noncomputable def W.h (w : W) : V := .tuple w.hl
noncomputable def kk (w : W) : List Sc := keysOf w.h
theorem way_l (w : W) : w.v = .tuple w.l := by cases w <;> rfl
theorem l_sc (w : W) : w.l.all scB = true := by cases w <;> rfl
theorem hl_sc (w : W) : w.hl.all scB = true := by cases w <;> rfl
theorem text1_inj {c d : Nat} (h : text [c] = text [d]) : c = d := by
  have h := congrArg (fun s : Str => s.cps.toList) (PyData.str.inj h)
  exact (List.cons.inj h).1
theorem v_inj {w u : W} (h : w.l.map kOf = u.l.map kOf) : w = u := by
  have t1 : ∀ {c d : Nat}, kOf (text [c]) = kOf (text [d]) → c = d := fun h => text1_inj (kOf_inj rfl rfl h)
  have ne : ∀ {s t : Str} {l m : List Sc}, (.inr s : Sc) :: l = .inr t :: m → s = t := fun h => Sum.inr.inj (List.cons.inj h).1
  cases w with
  | on a c b => cases u with
    | on a' c' b' =>
      have h2 := List.cons.inj (List.cons.inj h).2
      have h3 := List.cons.inj h2.2
      cases Sum.inl.inj h2.1; cases t1 h3.1; cases Sum.inl.inj (List.cons.inj h3.2).1; rfl
    | op a' c' b' t' => exact absurd (ne h) (by decide)
    | cl a' b' c' t' => exact absurd (ne h) (by decide)
  | op a c b t => cases u with
    | on a' c' b' => exact absurd (ne h) (by decide)
    | op a' c' b' t' =>
      have h2 := List.cons.inj (List.cons.inj h).2
      have h3 := List.cons.inj h2.2
      have h4 := List.cons.inj h3.2
      cases Sum.inl.inj h2.1; cases t1 h3.1; cases Sum.inl.inj h4.1; cases Sum.inl.inj (List.cons.inj h4.2).1; rfl
    | cl a' b' c' t' => exact absurd (ne h) (by decide)
  | cl a b c t => cases u with
    | on a' c' b' => exact absurd (ne h) (by decide)
    | op a' c' b' t' => exact absurd (ne h) (by decide)
    | cl a' b' c' t' =>
      have h2 := List.cons.inj (List.cons.inj h).2
      have h3 := List.cons.inj h2.2
      have h4 := List.cons.inj h3.2
      cases Sum.inl.inj h2.1; cases Sum.inl.inj h3.1; cases t1 h4.1; cases Sum.inl.inj (List.cons.inj h4.2).1; rfl
theorem v_inj' {w u : W} (h : w.v = u.v) : w = u := by
  rw [way_l, way_l] at h
  exact v_inj (congrArg (List.map kOf) (PyData.tuple.inj h))
theorem eqv_way (w u : W) : PyData.eqv w.v u.v = true ↔ w = u := by
  rw [way_l, way_l]
  show PyData.eqvAll w.l u.l = true ↔ _
  rw [eqvs_sc (l_sc w) (l_sc u), decide_eq_true_iff]
  exact ⟨v_inj, fun e => by rw [e]⟩
theorem eqv_head (w u : W) : PyData.eqv w.h u.h = decide (kk w = kk u) := eqvs_sc (hl_sc w) (hl_sc u)
section
variable {s0 s1 s2 : List Nat} {R : Int}
theorem hd_scalar {w : W} (sk : SgOk s0 s1 s2) (ok : W.ok s0 s1 s2 R w) : ∀ x ∈ w.l ++ w.hl, scalar x = true := by
  have t1 : ∀ {c}, low c = true → scalar (text [c]) = true := fun {c} h => ok_text (l := [c]) fun x m => by cases List.mem_singleton.mp m; exact h
  have key : (w.l ++ w.hl).all scalar = true := by
    cases w with
    | on a c b => show ([.str kOn, .int a, text [c], .int b, .str kOn, .int a, text [c]] : List V).all scalar = true; simp only [List.all_cons, List.all_nil, t1 (sk.lowC ok.2.1), show scalar (.str kOn) = true from ok_on, Bool.true_and, Bool.and_true]; rfl
    | op a c b t => show ([.str kOpen, .int a, text [c], .int b, .int t, .str kOpen, .int a, text [c]] : List V).all scalar = true; simp only [List.all_cons, List.all_nil, t1 (sk.lowA ok.2.1), show scalar (.str kOpen) = true from ok_open, Bool.true_and, Bool.and_true]; rfl
    | cl a b c t => show ([.str kClose, .int a, .int b, text [c], .int t, .str kClose, .int a, .int b, text [c]] : List V).all scalar = true; simp only [List.all_cons, List.all_nil, t1 (sk.lowB ok.2.2.1), show scalar (.str kClose) = true from ok_close, Bool.true_and, Bool.and_true]; rfl
  exact List.all_eq_true.mp key
noncomputable def Flat (n : Nat) (x : V) : Prop := x.canLay0 = true ∧ x.depth ≤ n
theorem flat_ok {n : Nat} {x : V} (h : Flat n x) (hn : n ≤ 64) : okEq x = true := (Bool.and_eq_true _ _).mpr ⟨h.1, decide_eq_true (Nat.le_trans h.2 hn)⟩
theorem flats : ∀ {n : Nat} {l : List V}, (∀ x ∈ l, Flat n x) → PyData.canLayAll0 l = true ∧ PyData.depthAll l ≤ n
  | n, [], _ => ⟨rfl, Nat.zero_le _⟩
  | n, x :: l, h => ⟨(Bool.and_eq_true _ _).mpr ⟨(h x (.head _)).1, (flats fun y m => h y (.tail _ m)).1⟩, Nat.max_le.mpr ⟨(h x (.head _)).2, (flats fun y m => h y (.tail _ m)).2⟩⟩
theorem flat_list {n : Nat} {l : List V} (h : ∀ x ∈ l, Flat n x) : Flat (n + 1) (.list l) := ⟨(flats h).1, Nat.succ_le_succ (flats h).2⟩
theorem flat_tuple {n : Nat} {l : List V} (h : ∀ x ∈ l, Flat n x) : Flat (n + 1) (.tuple l) := ⟨(flats h).1, Nat.succ_le_succ (flats h).2⟩
theorem flat_sc {x : V} (h : scalar x = true) : Flat 0 x := by
  cases x with
  | int i => exact ⟨rfl, Nat.le_refl _⟩
  | str s => exact ⟨h, Nat.le_refl _⟩
  | _ => cases h
theorem flat_way {w : W} (sk : SgOk s0 s1 s2) (ok : W.ok s0 s1 s2 R w) : Flat 1 w.v := by
  rw [way_l]; exact flat_tuple fun x m => flat_sc (hd_scalar sk ok x (List.mem_append_left _ m))
theorem flat_head {w : W} (sk : SgOk s0 s1 s2) (ok : W.ok s0 s1 s2 R w) : Flat 1 w.h := flat_tuple fun x m => flat_sc (hd_scalar sk ok x (List.mem_append_right _ m))
theorem head_flat {w : W} (sk : SgOk s0 s1 s2) (ok : W.ok s0 s1 s2 R w) : flatV w.h = true := (Bool.and_eq_true _ _).mpr ⟨List.all_eq_true.mpr fun x m => hd_scalar sk ok x (List.mem_append_right _ m), by cases w <;> rfl⟩
end

/-! counting -/
noncomputable def Big (l : List (List Sc × Int)) : Prop := ∃ p ∈ l, 2 ≤ p.2
structure Jc (p : List (List Sc)) (l : List (List Sc × Int)) : Prop where
  pos : ∀ q ∈ l, 1 ≤ q.2
  len : l.length ≤ p.length
  how : (p.Nodup ∧ l = p.map fun k => (k, 1)) ∨ (¬ p.Nodup ∧ Big l)
theorem Jc.nil : Jc [] [] := ⟨fun q m => (nomatch m), Nat.le_refl _, .inl ⟨List.nodup_nil, rfl⟩⟩
noncomputable def bump (l : List (List Sc × Int)) (k : List Sc) : List (List Sc × Int) := putD l k ((lookD l k).getD 0 + 1)
theorem Jc.bump {p : List (List Sc)} {l : List (List Sc × Int)} {k : List Sc} (j : Jc p l) : Jc (p ++ [k]) (bump l k) := by
  have bad : ¬ p.Nodup → ¬ (p ++ [k]).Nodup := fun n q => n (List.nodup_append.mp q).1
  unfold L04.bump putD
  cases e : lookD l k with
  | none =>
    show Jc (p ++ [k]) (l ++ [(k, 0 + 1)])
    have new : ∀ q ∈ l, q.1 ≠ k := fun q m h => by
      have := List.find?_eq_none.mp (Option.map_eq_none_iff.mp e) q m
      exact this (decide_eq_true h)
    refine ⟨fun q m => ?_, by rw [List.length_append, List.length_append]; exact Nat.add_le_add_right j.len 1, ?_⟩
    · rcases List.mem_append.mp m with m | m
      · exact j.pos q m
      · cases List.mem_singleton.mp m; exact Int.le_refl _
    · rcases j.how with ⟨h, e'⟩ | ⟨h, q, m, h2⟩
      · subst e'
        refine .inl ⟨List.nodup_append.mpr ⟨h, List.pairwise_singleton _ _, fun x mx y my q => ?_⟩, by rw [List.map_append]; rfl⟩
        cases List.mem_singleton.mp my
        exact new (x, 1) (List.mem_map.mpr ⟨x, mx, rfl⟩) q
      · exact .inr ⟨bad h, q, List.mem_append_left _ m, h2⟩
  | some v =>
    show Jc (p ++ [k]) (l.map fun p => if p.1 = k then (p.1, v + 1) else p)
    obtain ⟨q, hq, rfl⟩ := Option.map_eq_some_iff.mp e
    have mq := List.mem_of_find?_eq_some hq
    have hk : q.1 = k := of_decide_eq_true (List.find?_some (p := fun p : List Sc × Int => decide (p.1 = k)) hq)
    have big : Big (l.map fun p => if p.1 = k then (p.1, q.2 + 1) else p) := ⟨(k, q.2 + 1), List.mem_map.mpr ⟨q, mq, by rw [if_pos hk, hk]⟩, by have := j.pos q mq; show 2 ≤ q.2 + 1; omega⟩
    refine ⟨fun x m => ?_, by rw [List.length_map, List.length_append]; exact Nat.le_succ_of_le j.len, .inr ⟨?_, big⟩⟩
    · obtain ⟨y, my, rfl⟩ := List.mem_map.mp m
      by_cases h : y.1 = k
      · rw [if_pos h]; have := j.pos q mq; show 1 ≤ q.2 + 1; omega
      · rw [if_neg h]; exact j.pos y my
    · rcases j.how with ⟨h, e'⟩ | ⟨h, _⟩
      · subst e'
        obtain ⟨y, my, rfl⟩ := List.mem_map.mp mq
        intro q
        exact (List.nodup_append.mp q).2.2 y my k (.head _) hk
      · exact bad h
theorem Jc.max {p : List (List Sc)} {l : List (List Sc × Int)} {m : Int} (j : Jc p l) (h0 : l.map (·.2) = [] → m = 1) (h1 : l.map (·.2) ≠ [] → m ∈ l.map (·.2) ∧ ∀ x ∈ l.map (·.2), x ≤ m) : (m == 1) = decide p.Nodup := by
  rcases j.how with ⟨h, e⟩ | ⟨h, q, mq, h2⟩
  · rw [decide_eq_true h, beq_iff_eq]
    by_cases z : l.map (·.2) = []
    · exact h0 z
    · obtain ⟨q, mq, e'⟩ := List.mem_map.mp (h1 z).1
      rw [e] at mq
      obtain ⟨y, _, rfl⟩ := List.mem_map.mp mq
      exact e'.symm
  · rw [decide_eq_false h, beq_eq_false_iff_ne]
    have mem : q.2 ∈ l.map (·.2) := List.mem_map.mpr ⟨q, mq, rfl⟩
    have := (h1 fun z => by rw [z] at mem; cases mem).2 q.2 mem
    omega
noncomputable def plainK (ks : List (List Sc)) (n : Int) : Bool := ((ks.length : Int) == n) && decide ks.Nodup
theorem plain_counts {p : List (List Sc)} {l : List (List Sc × Int)} {m n : Int} (j : Jc p l) (hm : (m == 1) = decide p.Nodup) : (((l.length : Int) == n) && (m == 1)) = plainK p n := by
  unfold plainK
  rw [hm]
  rcases j.how with ⟨h, e⟩ | ⟨h, _⟩
  · rw [e, List.length_map]
  · rw [decide_eq_false h, Bool.and_false, Bool.and_false]
theorem plain_perm {p q : List (List Sc)} {n : Int} (h : p.Perm q) : plainK p n = plainK q n := by
  unfold plainK
  rw [h.length_eq, decide_eq_decide.mpr h.nodup_iff]
end Mine.L04
end

noncomputable section
set_option maxRecDepth 100000
set_option linter.unusedVariables false
namespace Mine.L04
open PySem

section
variable {cf : CallF} {G : Gs} {a b : E} {k : Nat} {l : List (List Sc × Int)} {x : V} {i : Int} {r : List S} {K : Option V → Gs → Prop}
theorem val_getD (hl : ownDO G k = some l) (ha : Val cf G a x) (hb : Val cf G b (.int i)) (hf : flatV x = true) : Val cf G (.nd (.getD k) [a, b]) (.int ((lookD l (keysOf x)).getD i)) := fun K h => okK_some hl (ha _ (hb _ (okK_some (if_pos hf) h)))
theorem x_setD (hl : ownDO G k = some l) (hb : Val cf G b (.int i)) (ha : Val cf G a x) (hf : flatV x = true) (hz : l.length < szLine) (n : exs cf r (G.set k (.ownD (putD l (keysOf x) i))) K) : exs cf (.mk (.setD k) [b, a] [] [] :: r) G K := okK_some hl (hb _ (ha _ (okK_some (if_pos (by rw [hf, decide_eq_true hz]; rfl)) n)))
theorem val_lenD (hl : ownDO G k = some l) (hz : l.length ≤ szLine) : Val cf G (.nd (.lenD k) []) (.int l.length) := fun K h => okK_some hl ⟨hz, h⟩
theorem x_ret_and2 {c : Bool} (hA : Val cf G a (.bool c)) (h0 : c = false → K (some (.bool false)) G) (h1 : c = true → ev cf b G fun x => okK (boolO x some) fun d => if d = true then K (some (.bool true)) G else K (some (.bool d)) G) : exs cf (.mk .ret [.nd .and [a, b]] [] [] :: r) G K := hA _ (by
  show if c = true then _ else _
  cases c with
  | false => exact h0 rfl
  | true => exact h1 rfl)
theorem ev_maxV {K : V → Prop} (hl : ownDO G k = some l) (hz : l.length ≤ 1000) (vals : intsL (l.map fun p => .int p.2) = some (l.map (·.2))) (h : ∀ m : Int, (l.map (·.2) = [] → m = 1) → (l.map (·.2) ≠ [] → m ∈ l.map (·.2) ∧ ∀ x ∈ l.map (·.2), x ≤ m) → K (.bool (m == 1))) : ev cf (.nd (.cmp .Eq) [.nd .maxD [.nd (.valsD k) []], ii 1]) G K :=
  okK_some hl ⟨sz_of hz, okK_some vals ⟨sz_of (by rw [List.length_map]; exact hz), h⟩⟩
end
theorem vals_of : ∀ l : List (List Sc × Int), intsL (l.map fun p => .int p.2) = some (l.map (·.2))
  | [] => rfl
  | p :: r => by unfold intsL; rw [List.map_cons, List.mapM_cons]; show (intsL (r.map fun p => .int p.2)).bind _ = _; rw [vals_of r]; rfl
noncomputable def due (s0 s1 s2 : List Nat) (R : Int) : Int := R * ((s0.length : Int) + s2.length) + R * R * s1.length
noncomputable def S14 (cf : CallF) : Prop := ∀ s0 s1 s2 R (st en : List Int) (us : List W) K, SgOk s0 s1 s2 → 1 ≤ R → R ≤ 40 → st.length ≤ 40 → us.length ≤ 200 → (∀ w ∈ us, W.ok s0 s1 s2 R w) →
  K (.bool (((st.length : Int) == 1) && plainK (us.map kk) (due s0 s1 s2 R))) → cf 14 [machV (sg s0 s1 s2) R st en (us.map W.v)] K
theorem turn14 {cf : CallF} {s0 s1 s2 : List Nat} {R : Int} {mv : V} {l : List (List Sc × Int)} {w : W} {p2 p3 : Slot} {t : List Slot} {Kt : Option V → Gs → Prop} (sk : SgOk s0 s1 s2) (ok : W.ok s0 s1 s2 R w) (hz : l.length < szLine)
    (n : Kt none (.v mv :: .ownD (bump l (kk w)) :: .v w.v :: .v w.h :: t)) : exs cf f14c0 (.v mv :: .ownD l :: .v w.v :: p3 :: t) Kt := by
  have fin : exs cf [.mk (.setD 1) [.nd (.bin .Add) [.nd (.getD 1) [vv 3, ii 0], ii 1], vv 3] [] []] (.v mv :: .ownD l :: .v w.v :: .v w.h :: t) Kt :=
    x_setD (i := (lookD l (kk w)).getD 0 + 1) rfl (val_op (.two (val_getD (x := w.h) rfl (fun _ h => h) (fun _ h => h) (head_flat sk ok)) fun _ h => h) rfl) (x := w.h) (fun _ h => h) (head_flat sk ok) hz (x_nil n)
  cases w with
  | on a c b => exact x_assign (v := W.h (.on a c b)) (fun _ h => h) (x_ifF (val_cmp (x := .str kOn) (fun _ h => h) (fun _ h => h) ((c_eqS ok_on ok_close).trans (congrArg some (by decide)))) fin)
  | op a c b t => exact x_assign (v := W.h (.op a c b t)) (fun _ h => h) (x_ifF (val_cmp (x := .str kOpen) (fun _ h => h) (fun _ h => h) ((c_eqS ok_open ok_close).trans (congrArg some (by decide)))) fin)
  | cl a b c t => exact x_assign (fun _ h => h) (x_ifT (val_cmp (x := .str kClose) (fun _ h => h) (fun _ h => h) ((c_eqS ok_close ok_close).trans (congrArg some (by decide)))) (x_assign (v := W.h (.cl a b c t)) (fun _ h => h) fin))
theorem p14 (cf : CallF) (h9 : ∀ sv R st en r (K : V → Prop), K sv → cf 9 [machV sv R st en r] K) (h10 : ∀ sv R st en r (K : V → Prop), K (.int R) → cf 10 [machV sv R st en r] K) (h11 : ∀ sv R st en r (K : V → Prop), st.length ≤ 40 → K (roomsV st) → cf 11 [machV sv R st en r] K)
    (h13 : ∀ sv R st en (r : List V) (K : V → Prop), r.length ≤ 1000 → K (.list r) → cf 13 [machV sv R st en r] K) : S14 (step cf) := fun s0 s1 s2 R st en us K sk hR1 hR hst hus ok h => by
  have la := sk.la
  have lb := sk.lb
  have lc := sk.lc
  have hz : (st.map PyData.int).length ≤ 1000 := by rw [List.length_map]; omega
  have hr : (us.map W.v).length ≤ 1000 := by rw [List.length_map]; omega
  refine run (fn := f14) rfl rfl rfl ?_
  generalize hmv : machV (sg s0 s1 s2) R st en (us.map W.v) = mv
  have hi : isInst mv = true := by rw [← hmv]; rfl
  refine x_if (t := !((st.length : Int) == 1)) (val_cmp (val_op (.one (val_meth (v := roomsV st) (fun _ h => h) hi fun K h => by rw [← hmv]; exact h11 _ _ _ _ _ K hst h)) (n_len hz)) (fun _ h => h) (by rw [List.length_map]; exact c_ne)) (fun q => x_ret (v := .bool false) (fun _ h => h) ?_) fun q => ?_
  · rw [show ((st.length : Int) == 1) = false by simpa using q, Bool.false_and] at h; exact h
  rw [show ((st.length : Int) == 1) = true by simpa using q, Bool.true_and] at h
  refine x_ownD ?_
  refine x_for (P := fun xs G => ∃ us' ds l s2 s3, xs = us'.map W.v ∧ us = ds ++ us' ∧ Jc (ds.map kk) l ∧ G = [.v mv, .ownD l, s2, s3, .unset, .unset, .unset, .unset, .unset]) (val_meth (v := .list (us.map W.v)) (fun _ h => h) hi fun K h => by rw [← hmv]; exact h13 _ _ _ _ _ K hr h) (seq_list hr) ⟨us, [], [], _, _, rfl, rfl, .nil, rfl⟩ (fun G hP => ?_) fun x xs' G Kt hP nx _ => ?_
  · obtain ⟨us', ds, l, p2, p3, e1, e2, j, rfl⟩ := hP
    cases List.map_eq_nil_iff.mp e1.symm
    rw [List.append_nil] at e2
    subst e2
    have hl : l.length ≤ 200 := Nat.le_trans j.len (by rw [List.length_map]; exact hus)
    refine x_assignM (v := sg s0 s1 s2) (val_meth (fun _ h => h) hi fun K h => by rw [← hmv]; exact h9 _ _ _ _ _ K h) rfl ?_
    refine x_assign (v := .int R) (val_meth (fun _ h => h) hi fun K h => by rw [← hmv]; exact h10 _ _ _ _ _ K h) ?_
    have len : ∀ {G e} {s : List Nat}, s.length ≤ 4 → Val cf G e (text s) → Val cf G (.nd .len [e]) (.int s.length) := fun hs he => val_op (.one he) (n_lenS (Nat.le_trans hs (by decide)))
    refine x_assign (v := .int (due s0 s1 s2 R)) (val_op (.two (val_op (.two (fun _ h => h) (val_op (.two (len (s := s0) la fun _ h => h) (len (s := s2) lc fun _ h => h)) rfl)) (n_mul (.inr (by omega)))) (val_op (.two (val_op (.two (fun _ h => h) fun _ h => h) (n_mul (.inr (by omega)))) (len (s := s1) lb fun _ h => h)) (n_mul (.inl (by omega))))) rfl) ?_
    have go := fun m (hm : (m == 1) = _) => plain_counts (m := m) (n := due s0 s1 s2 R) j hm
    refine x_ret_and2 (c := ((l.length : Int) == due s0 s1 s2 R)) (val_cmp (val_lenD rfl (sz_of (by omega))) (fun _ h => h) c_eq) (fun c => ?_) fun c => ev_maxV (l := l) rfl (by omega) (vals_of l) fun m m0 m1 => ?_
    · have := go (if (us.map kk).Nodup then 1 else 0) (by
        by_cases q : (us.map kk).Nodup
        · rw [if_pos q, decide_eq_true q]; rfl
        · rw [if_neg q, decide_eq_false q]; rfl)
      rw [c, Bool.false_and] at this
      rw [← this] at h
      exact h
    · have := go m (j.max m0 m1)
      rw [c, Bool.true_and] at this
      rw [← this] at h
      show if (m == 1) = true then K (.bool true) else K (.bool (m == 1))
      cases q : (m == 1) with
      | true => rw [q] at h; exact h
      | false => rw [q] at h; exact h
  · obtain ⟨us', ds, l, p2, p3, e1, e2, j, rfl⟩ := hP
    cases us' with
    | nil => cases e1
    | cons w us' =>
      cases e1
      have hw : w ∈ us := by rw [e2]; exact List.mem_append_right _ (.head _)
      have hl : l.length < 1000 := by
        have := j.len
        rw [List.length_map] at this
        have q := congrArg List.length e2
        rw [List.length_append] at q
        omega
      exact turn14 (p2 := p2) sk (ok w hw) (sz_of (by omega)) (nx _ ⟨us', ds ++ [w], _, _, _, rfl, by rw [e2, List.append_assoc]; rfl, by rw [List.map_append]; exact j.bump, rfl⟩)
end Mine.L04
end

noncomputable section
set_option maxRecDepth 100000
set_option linter.unusedVariables false
namespace Mine.L04
open PySem

noncomputable def pr (w : W) : V := .tuple [w.h, w.v]
noncomputable def partsV (sv : V) (R : Int) (st en : List Int) (ws : List W) : V := .tuple [sv, .int R, roomsV st, roomsV en, waysV ws]
theorem val_count {cf : CallF} {G : Gs} {a b : E} {l : List V} {y : V} (ha : Val cf G a (.list l)) (hb : Val cf G b y) (hy : okEq y = true) (hl : okEq (.list l) = true) : Val cf G (.nd .count [a, b]) (.int (l.countP fun z => PyData.eqv z y)) := fun K h => ha _ ⟨rfl, hb _ (okK_some (if_pos (by rw [hy, hl]; rfl)) h)⟩
theorem c_notinL {l : List V} {x : V} (hx : okEq x = true) (hl : okEq (.list l) = true) : cmpOp .NotIn x (.list l) = some (!(l.any fun z => PyData.eqv z x)) := congrArg (Option.map (!·)) (if_pos (by rw [hx, hl]; rfl))
theorem c_eq0 {l : List V} (hl : okEq (.list l) = true) : cmpOp .Eq (.list l) (.list []) = some l.isEmpty := (if_pos (by rw [hl]; rfl)).trans (congrArg some (by cases l <;> rfl))
noncomputable def cnt (k : List Sc) (ks : List (List Sc)) : Nat := ks.countP fun z => decide (z = k)
theorem nodup_cnt {α : Type} [DecidableEq α] {ks : List α} : ks.Nodup ↔ ∀ a, ks.countP (fun z => decide (z = a)) ≤ 1 := List.nodup_iff_count
theorem count_heads (w : W) : ∀ ds : List W, (ds.map W.h).countP (fun z => PyData.eqv z w.h) = cnt (kk w) (ds.map kk)
  | [] => rfl
  | d :: ds => by
    rw [List.map_cons, List.map_cons, List.countP_cons, count_heads w ds, eqv_head]
    unfold cnt
    rw [List.countP_cons]
theorem none_twice {ds : List W} {p : W → Bool} (hp : ∀ w, p w = decide (1 < (cnt (kk w) (ds.map kk) : Int))) : ((ds.filter p).map W.h).isEmpty = decide (ds.map kk).Nodup := by
  rw [Bool.eq_iff_iff, decide_eq_true_iff, List.isEmpty_iff, List.map_eq_nil_iff, List.filter_eq_nil_iff, nodup_cnt]
  refine ⟨fun h k => ?_, fun h w m q => ?_⟩
  · by_cases m : k ∈ ds.map kk
    · obtain ⟨w, mw, rfl⟩ := List.mem_map.mp m
      have := h w mw
      rw [hp, decide_eq_true_iff] at this
      unfold cnt at this
      omega
    · rw [List.countP_eq_zero.mpr fun a ma q => m ((of_decide_eq_true (p := a = k) q) ▸ ma)]; exact Nat.zero_le _
  · rw [hp, decide_eq_true_iff] at q
    have := h (kk w)
    unfold cnt at q
    omega
theorem any_way {ds : List W} {w : W} : ((ds.map W.v).any fun z => PyData.eqv z w.v) = true ↔ w ∈ ds := by
  rw [List.any_eq_true]
  constructor
  · rintro ⟨z, m, e⟩
    obtain ⟨u, mu, rfl⟩ := List.mem_map.mp m
    exact (eqv_way u w).mp e ▸ mu
  · exact fun m => ⟨w.v, List.mem_map.mpr ⟨w, m, rfl⟩, (eqv_way w w).mpr rfl⟩
noncomputable def S23 (cf : CallF) : Prop := ∀ s0 s1 s2 R (st en : List Int) (ws : List W) (b : Bool) K, SgOk s0 s1 s2 → 1 ≤ R → R ≤ 40 → st.length ≤ 40 → ws.length ≤ 200 → (∀ w ∈ ws, W.ok s0 s1 s2 R w) →
  (∀ ds : List W, ds.Nodup → (∀ w, w ∈ ds ↔ w ∈ ws) → (((st.length : Int) == 1) && plainK (ds.map kk) (due s0 s1 s2 R)) = b) → K (.bool b) → cf 23 [partsV (sg s0 s1 s2) R st en ws] K
theorem p23 (cf : CallF) : S23 (step cf) := fun s0 s1 s2 R st en ws b K sk hR1 hR hst hws ok hb h => by
  have la := sk.la
  have lb := sk.lb
  have lc := sk.lc
  have hz : (st.map PyData.int).length ≤ 1000 := by rw [List.length_map]; omega
  have hr : (ws.map W.v).length ≤ 1000 := by rw [List.length_map]; omega
  refine run (fn := f23) rfl rfl rfl ?_
  refine x_assignM (v := partsV (sg s0 s1 s2) R st en ws) (fun _ h => h) rfl (x_own0 ?_)
  refine x_for (P := fun xs G => ∃ ws' ds s7, xs = ws'.map W.v ∧ ds.Nodup ∧ (∀ w, (w ∈ ds ∨ w ∈ ws') ↔ w ∈ ws) ∧ ds.length + ws'.length ≤ 200 ∧
      G = [.v (partsV (sg s0 s1 s2) R st en ws), .v (sg s0 s1 s2), .v (.int R), .v (roomsV st), .v (roomsV en), .v (waysV ws), .ownL (ds.map pr), s7, .unset, .unset, .unset]) (v := waysV ws) (fun _ h => h) (seq_list hr) ⟨ws, [], _, rfl, List.nodup_nil, fun w => ⟨fun q => q.elim (fun q => nomatch q) id, .inr⟩, by rw [List.length_nil, Nat.zero_add]; exact hws, rfl⟩ (fun G hP => ?_) fun x xs' G Kt hP nx _ => ?_
  · obtain ⟨ws', ds, s7, e1, nd, mem, hl, rfl⟩ := hP
    cases List.map_eq_nil_iff.mp e1.symm
    have mem : ∀ w, w ∈ ds ↔ w ∈ ws := fun w => ⟨fun q => (mem w).mp (.inl q), fun q => ((mem w).mpr q).elim id fun q => nomatch q⟩
    have hd : ds.length ≤ 200 := hl
    have hp : (ds.map pr).length ≤ 1000 := by rw [List.length_map]; omega
    have hh : (ds.map W.h).length ≤ 1000 := by rw [List.length_map]; omega
    have flh : ∀ x ∈ ds.map W.h, Flat 1 x := fun x m => by
      obtain ⟨w, mw, rfl⟩ := List.mem_map.mp m
      exact flat_head sk (ok w ((mem w).mp mw))
    have len : ∀ {G e} {s : List Nat}, s.length ≤ 4 → Val cf G e (text s) → Val cf G (.nd .len [e]) (.int s.length) := fun hs he => val_op (.one he) (n_lenS (Nat.le_trans hs (by decide)))
    refine x_assign (v := .int (due s0 s1 s2 R)) (val_op (.two (fun _ h => h) (val_op (.two (val_op (.two (len (s := s0) la fun _ h => h) (len (s := s2) lc fun _ h => h)) rfl) (val_op (.two (fun _ h => h) (len (s := s1) lb fun _ h => h)) (n_mul (.inl (by omega))))) rfl)) ((n_mul (.inr (by omega))).trans (congrArg (fun i => some (PyData.int i)) (by unfold due; rw [Int.mul_add, Int.mul_assoc])))) ?_
    refine x_assign (v := .list (ds.map W.h)) (val_comp0 (g := pr) (fun _ h => h) (seq_list hp) fun w m => fun _ h => h) ?_
    refine x_ret (v := .bool b) ?_ h
    rw [← hb ds nd mem]
    refine val_and (.and (val_cmp (val_op (.one (v := roomsV st) fun _ h => h) (n_len hz)) (fun _ h => h) (by rw [List.length_map]; exact c_eq)) fun _ => ?_)
    unfold plainK
    refine .and (val_cmp (val_op (.one (v := .list (ds.map W.h)) fun _ h => h) (n_len hh)) (fun _ h => h) (by rw [List.length_map, ← List.length_map (f := kk) (as := ds)]; exact c_eq)) fun _ => ?_
    rw [← none_twice (p := fun w => decide (1 < (cnt (kk w) (ds.map kk) : Int))) fun w => rfl, ← Bool.and_true (List.isEmpty _)]
    refine .and (val_cmp (val_comp (g := W.h) (p := fun w => decide (1 < (cnt (kk w) (ds.map kk) : Int))) (f := W.h) (x := .list (ds.map W.h)) (fun _ h => h) (seq_list hh) (fun w m => ?_) fun w m _ => fun _ h => h) (fun _ h => h) (c_eq0 (flat_ok (n := 2) (flat_list fun x m => ?_) (by decide)))) fun _ => .nil
    · rw [← Bool.and_true (decide _)]
      refine .and (val_cmp (val_count (l := ds.map W.h) (fun _ h => h) (y := w.h) (fun _ h => h) (flat_ok (flh _ (List.mem_map.mpr ⟨w, m, rfl⟩)) (by decide)) (flat_ok (flat_list flh) (by decide))) (fun _ h => h) (by rw [count_heads]; rfl)) fun _ => .nil
    · obtain ⟨w, mw, rfl⟩ := List.mem_map.mp m
      exact flh _ (List.mem_map.mpr ⟨w, (List.mem_filter.mp mw).1, rfl⟩)
  · obtain ⟨ws', ds, s7, e1, nd, mem, hl, rfl⟩ := hP
    cases ws' with
    | nil => cases e1
    | cons w ws' =>
      cases e1
      rw [List.length_cons] at hl
      have hd : (ds.map pr).length ≤ 1000 := by rw [List.length_map]; omega
      have okw : ∀ u ∈ ds, W.ok s0 s1 s2 R u := fun u m => ok u ((mem u).mp (.inl m))
      have hw := ok w ((mem w).mp (.inr (.head _)))
      have flv : ∀ x ∈ ds.map W.v, Flat 1 x := fun x m => by
        obtain ⟨u, mu, rfl⟩ := List.mem_map.mp m
        exact flat_way sk (okw u mu)
      refine x_if (t := !((ds.map W.v).any fun z => PyData.eqv z w.v)) (val_cmp (x := w.v) (y := .list (ds.map W.v)) (fun _ h => h) (val_comp0 (g := pr) (f := W.v) (x := .list (ds.map pr)) (fun _ h => h) (seq_list hd) fun u m => fun _ h => h) (c_notinL (flat_ok (flat_way sk hw) (by decide)) (flat_ok (flat_list flv) (by decide)))) (fun q => ?_) fun q => x_nil (nx _ ⟨ws', ds, _, rfl, nd, fun u => ?_, by omega, rfl⟩)
      · have nm : w ∉ ds := fun m => by rw [any_way.mpr m] at q; cases q
        have hv : Val cf [.v (partsV (sg s0 s1 s2) R st en ws), .v (sg s0 s1 s2), .v (.int R), .v (roomsV st), .v (roomsV en), .v (waysV ws), .ownL (ds.map pr), .v w.v, .unset, .unset, .unset] (.nd .ite [.nd (.cmp .Eq) [.nd .sub [vv 7, ii 0], ss kClose], .nd (.slice false true) [vv 7, ii 4], .nd (.slice false true) [vv 7, ii 3]]) w.h := by
          cases w with
          | on a c b => exact val_ite (t := false) (val_cmp (x := .str kOn) (fun _ h => h) (fun _ h => h) ((c_eqS ok_on ok_close).trans (congrArg some (by decide)))) (fun q => nomatch q) fun _ => fun _ h => h
          | op a c b t => exact val_ite (t := false) (val_cmp (x := .str kOpen) (fun _ h => h) (fun _ h => h) ((c_eqS ok_open ok_close).trans (congrArg some (by decide)))) (fun q => nomatch q) fun _ => fun _ h => h
          | cl a b c t => exact val_ite (t := true) (val_cmp (x := .str kClose) (fun _ h => h) (fun _ h => h) ((c_eqS ok_close ok_close).trans (congrArg some (by decide)))) (fun _ => fun _ h => h) fun q => nomatch q
        refine x_append (l := ds.map pr) rfl (val_op (.two hv (y := w.v) fun _ h => h) (z := pr w) rfl) (Nat.lt_of_le_of_lt hd (by decide)) (x_nil (nx _ ⟨ws', ds ++ [w], _, rfl, List.nodup_append.mpr ⟨nd, List.pairwise_singleton _ _, fun x mx y my q => by cases List.mem_singleton.mp my; exact nm (q ▸ mx)⟩, fun u => ?_, by rw [List.length_append, List.length_singleton]; omega, by rw [List.map_append]; rfl⟩))
        rw [← mem u, List.mem_append, List.mem_singleton, List.mem_cons, or_assoc]
      · have m : w ∈ ds := any_way.mp (by simpa using q)
        rw [← mem u, List.mem_cons]
        exact ⟨fun q => q.elim .inl fun q => .inr (.inr q), fun q => q.elim .inl fun q => q.elim (fun q => .inl (q ▸ m)) .inr⟩
end Mine.L04
end

noncomputable section
set_option maxRecDepth 100000
set_option linter.unusedVariables false
namespace Mine.L04
open PySem

/-! the law's signs -/
noncomputable def mOf (c s : Int) (i : Nat) : Nat := ((c + s * (0 + (i : Int))).fmod 26).toNat
noncomputable def rowL (c s : Int) (n : Nat) : List Nat := (List.range n).map fun i => 97 + mOf c s i
theorem mOf_lt (c s : Int) (i : Nat) : mOf c s i < 26 := by
  have h1 := fmod_lo (c + s * (0 + (i : Int))) (b := 26) (by decide)
  have h2 := fmod_hi (c + s * (0 + (i : Int))) (b := 26) (by decide)
  unfold mOf; omega
theorem abc_at : ∀ m, m < 26 → abc.cps.toList[m]? = some (97 + m) ∧ low (97 + m) = true := by decide
noncomputable def stepI (c : Int) : Int := 1 + 2 * ((c.fdiv 26).fmod 5)
theorem step_ne : ∀ q, q < 5 → ∀ d, d < 12 → d ≠ 0 → ((1 + 2 * q) * d) % 26 ≠ 0 := by decide
theorem step_sub (c : Int) (q i d : Nat) : (c + (1 + 2 * (q : Int)) * (0 + ((i + d : Nat) : Int))) - (c + (1 + 2 * (q : Int)) * (0 + (i : Int))) = (((1 + 2 * q) * d : Nat) : Int) := by
  rw [Int.zero_add, Int.zero_add, Int.natCast_add, Int.mul_add, Int.natCast_mul, Int.natCast_add, Int.natCast_mul]
  show _ = (1 + 2 * (q : Int)) * (d : Int)
  generalize (1 + 2 * (q : Int)) * (i : Int) = x
  generalize (1 + 2 * (q : Int)) * (d : Int) = y
  omega
theorem row_nodup (c : Int) {n : Nat} (hn : n ≤ 12) : (rowL c (stepI c) n).Nodup := by
  obtain ⟨q, hq⟩ := Int.eq_ofNat_of_zero_le (fmod_lo (c.fdiv 26) (b := 5) (by decide))
  have h2 := fmod_hi (c.fdiv 26) (b := 5) (by decide)
  unfold rowL
  refine List.pairwise_map.mpr (List.Pairwise.imp_of_mem (fun {i j} mi mj hlt e => ?_) (List.pairwise_lt_range (n := n)))
  obtain ⟨d, rfl⟩ := Nat.exists_eq_add_of_lt hlt
  have hj := List.mem_range.mp mj
  have e : mOf c (stepI c) i = mOf c (stepI c) (i + (d + 1)) := Nat.add_left_cancel e
  unfold mOf stepI at e
  rw [hq] at e h2
  have e : (c + (1 + 2 * (q : Int)) * (0 + ((i + (d + 1) : Nat) : Int))).fmod 26 = (c + (1 + 2 * (q : Int)) * (0 + (i : Int))).fmod 26 := by
    rw [← Int.toNat_of_nonneg (fmod_lo (c + (1 + 2 * (q : Int)) * (0 + ((i + (d + 1) : Nat) : Int))) (b := 26) (by decide)), ← e, Int.toNat_of_nonneg (fmod_lo _ (by decide))]
  rw [Int.fmod_eq_emod_of_nonneg _ (by decide), Int.fmod_eq_emod_of_nonneg _ (by decide), Int.emod_eq_emod_iff_emod_sub_eq_zero, step_sub] at e
  exact step_ne q (by omega) (d + 1) (by clear e hq; omega) (Nat.succ_ne_zero d) (by exact_mod_cast e)
theorem row_low (c s : Int) (n : Nat) : ∀ x ∈ rowL c s n, low x = true := fun x m => by
  obtain ⟨i, _, rfl⟩ := List.mem_map.mp m
  exact (abc_at _ (mOf_lt c s i)).2
theorem sg_cut {l : List Nat} {i j k : Nat} (hn : l.Nodup) (hl : ∀ x ∈ l, low x = true) (h1 : i ≤ 4) (h2 : i ≤ j) (h3 : j ≤ k) (h4 : j - i ≤ 4) (h5 : k - j ≤ 4) : SgOk (l.take i) ((l.drop i).take (j - i)) ((l.drop j).take (k - j)) := by
  have e : l.take i ++ (l.drop i).take (j - i) ++ (l.drop j).take (k - j) = l.take k := by
    rw [← List.take_add, show i + (j - i) = j by omega, ← List.take_add, show j + (k - j) = k by omega]
  refine ⟨Nat.le_trans (List.length_take_le _ _) h1, Nat.le_trans (List.length_take_le _ _) h4, Nat.le_trans (List.length_take_le _ _) h5, ?_, ?_⟩
  · rw [e]; exact fun x m => hl x (List.mem_of_mem_take m)
  · rw [e]; exact hn.sublist (List.take_sublist _ _)
theorem strs_of : ∀ l : List Nat, strsL (l.map fun c => text [c]) = some (l.map fun c => [c])
  | [] => rfl
  | c :: r => by unfold strsL; rw [List.map_cons, List.mapM_cons]; show (strsL (r.map fun c => text [c])).bind _ = _; rw [strs_of r]; rfl
theorem join_ones : ∀ l : List Nat, joinL [] (l.map fun c => [c]) = l
  | [] => rfl
  | [c] => rfl
  | c :: d :: r => congrArg (c :: ·) (join_ones (d :: r))
theorem sum_ones : ∀ l : List Nat, ((l.map fun c => [c]).map List.length).sum = l.length
  | [] => rfl
  | c :: r => by rw [List.map_cons, List.map_cons, List.sum_cons, sum_ones r, List.length_cons]; exact Nat.add_comm _ _
theorem val_join {cf : CallF} {G : Gs} {a : E} {l : List Nat} (ha : Val cf G a (.list (l.map fun c => text [c]))) (hz : l.length ≤ 1000) : Val cf G (.nd .join [ss k0, a]) (text l) := fun K h => by
  refine ⟨rfl, ha _ (okK_some (z := text l) ?_ h)⟩
  show (strsL (l.map fun c => text [c])).bind _ = _
  rw [strs_of]
  show (if _ then some (text (joinL [] (l.map fun c => [c]))) else none) = _
  rw [join_ones]
  exact if_pos (by rw [sum_ones]; exact sz_of (by show l.length + _ * 0 ≤ 1000; rw [Nat.mul_zero]; exact hz))
theorem end_at {d n : Nat} {i : Int} (h0 : 0 ≤ i) (h1 : i.toNat ≤ n) : endO d n (some (.int i)) = some i.toNat := by
  show some (if 0 ≤ i then min i.toNat n else _) = _
  rw [if_pos h0, Nat.min_eq_left h1]
theorem cut_at {α : Type} {l : List α} {f : List α → V} {lo hi : Option V} {i j : Nat} (hz : l.length ≤ 1000) (h1 : endO 0 l.length lo = some i) (h2 : endO l.length l.length hi = some j) (h : i ≤ j) : cutO f l lo hi = some (f ((l.drop i).take (j - i))) := by
  unfold cutO
  rw [if_pos (sz_of hz), h1, h2]
  exact if_pos h
theorem n_cutS {l : List Nat} {i j : Nat} (hz : l.length ≤ 1000) (h : i ≤ j) (h1 : j ≤ l.length) : opN (.slice true true) [text l, .int i, .int j] = some (text ((l.drop i).take (j - i))) := cut_at (l := l) (f := text) hz (end_at (i := i) (Int.natCast_nonneg i) (Nat.le_trans h h1)) (end_at (i := j) (Int.natCast_nonneg j) h1) h
theorem n_cutS0 {l : List Nat} {j : Nat} (hz : l.length ≤ 1000) (h1 : j ≤ l.length) : opN (.slice false true) [text l, .int j] = some (text (l.take j)) := cut_at (l := l) (f := text) (lo := none) hz rfl (end_at (i := j) (Int.natCast_nonneg j) h1) (Nat.zero_le _)
theorem cut3 {l : List Nat} {i j k : Int} (hl : l.length ≤ 12) (hn : l.Nodup) (lo : ∀ x ∈ l, low x = true) (h0 : 0 ≤ i) (h1 : i ≤ 4) (h2 : 0 ≤ j) (h3 : j ≤ 4) (h4 : 0 ≤ k) (h5 : k ≤ 4) (h6 : i + j + k ≤ l.length) : ∃ a b c, SgOk a b c ∧ opN (.slice false true) [text l, .int i] = some (text a) ∧ opN (.slice true true) [text l, .int i, .int (i + j)] = some (text b) ∧ opN (.slice true true) [text l, .int (i + j), .int (i + j + k)] = some (text c) := by
  obtain ⟨i, rfl⟩ := Int.eq_ofNat_of_zero_le h0
  obtain ⟨j, rfl⟩ := Int.eq_ofNat_of_zero_le h2
  obtain ⟨k, rfl⟩ := Int.eq_ofNat_of_zero_le h4
  have h6 : i + j + k ≤ l.length := by omega
  have hz : l.length ≤ 1000 := Nat.le_trans hl (by decide)
  have hj : i + j ≤ l.length := Nat.le_trans (Nat.le_add_right _ _) h6
  refine ⟨_, _, _, sg_cut (i := i) (j := i + j) (k := i + j + k) hn lo (Int.ofNat_le.mp h1) (Nat.le_add_right _ _) (Nat.le_add_right _ _) (by rw [Nat.add_sub_cancel_left]; exact Int.ofNat_le.mp h3) (by rw [Nat.add_sub_cancel_left]; exact Int.ofNat_le.mp h5), n_cutS0 hz (Nat.le_trans (Nat.le_add_right _ _) hj), ?_, ?_⟩
  · exact n_cutS (i := i) (j := i + j) hz (Nat.le_add_right _ _) hj
  · exact n_cutS (i := i + j) (j := i + j + k) hz (Nat.le_add_right _ _) h6
theorem val_row {cf : CallF} {G : Gs} {e : E} {c s : Int} {n : Nat} (hn : n ≤ 12) (hr : seqV (.list (rangeL 0 n)) = some ((List.range n).map fun i : Nat => .int (0 + (i : Int)))) (h0 : ∀ i : Nat, Val cf (G.set 6 (.v (.int (0 + (i : Int))))) (vv 0) (.int c)) (h1 : ∀ i : Nat, Val cf (G.set 6 (.v (.int (0 + (i : Int))))) (vv 1) (.str abc)) (h2 : ∀ i : Nat, Val cf (G.set 6 (.v (.int (0 + (i : Int))))) (vv 2) (.int s)) (h6 : ∀ i : Nat, Val cf (G.set 6 (.v (.int (0 + (i : Int))))) (vv 6) (.int (0 + (i : Int))))
    (hs : s.natAbs ≤ 1000000) (hsrc : Val cf G e (.list (rangeL 0 n))) : Val cf G (.nd .join [ss k0, .nd (.comp 6) [e, f17c0]]) (text (rowL c s n)) := by
  refine val_join ?_ (by unfold rowL; rw [List.length_map, List.length_range]; omega)
  have q := val_comp0 (k := 6) (f := fun i : Nat => text [97 + mOf c s i]) hsrc hr (e := f17c0) fun i m => val_op (.two (h1 i) (val_op (.two (val_op (.two (h0 i) (val_op (.two (h2 i) (h6 i)) (n_mul (.inr hs)))) rfl) fun _ h => h) (n_mod (by decide)))) (item_at (f := fun c => text [c]) (by decide) (fmod_lo _ (by decide)) (abc_at _ (mOf_lt c s i)).1)
  unfold rowL
  rw [List.map_map]
  exact q
noncomputable def S18 (n : Nat) (cf : CallF) : Prop := ∀ c : Int, ∃ s0 s1 s2, SgOk s0 s1 s2 ∧ ∀ K, K (sg s0 s1 s2) → cf n [.int c] K
theorem pick_at {l : List Int} {i : Int} (h0 : 0 ≤ i) (h1 : i < l.length) : (l.map PyData.int)[i.toNat]? = some (.int (l.getD i.toNat 0)) := by
  have : i.toNat < l.length := by omega
  rw [List.getElem?_map, List.getD_eq_getElem?_getD, List.getElem?_eq_getElem this]; rfl
theorem pick_le : (∀ i, i < 4 → ([1, 1, 2, 0] : List Int).getD i 0 ≤ 2 ∧ 0 ≤ ([1, 1, 2, 0] : List Int).getD i 0) ∧ ∀ i, i < 5 → ([1, 2, 1, 1, 0] : List Int).getD i 0 ≤ 2 ∧ 0 ≤ ([1, 2, 1, 1, 0] : List Int).getD i 0 := by decide
theorem step_le (c : Int) : (stepI c).natAbs ≤ 1000000 := by
  have h1 := fmod_lo (c.fdiv 26) (b := 5) (by decide)
  have h2 := fmod_hi (c.fdiv 26) (b := 5) (by decide)
  unfold stepI; omega
theorem row_len (c s : Int) (n : Nat) : (rowL c s n).length = n := by unfold rowL; rw [List.length_map, List.length_range]
theorem p17 (cf : CallF) : S18 17 (step cf) := fun c => by
  have a1 := fmod_lo (c.fdiv 130) (b := 4) (by decide)
  have a2 := fmod_hi (c.fdiv 130) (b := 4) (by decide)
  have b1 := fmod_lo (c.fdiv 520) (b := 5) (by decide)
  have b2 := fmod_hi (c.fdiv 520) (b := 5) (by decide)
  have o1 := pick_le.1 _ ((Int.toNat_lt a1).mpr a2)
  have o2 := pick_le.2 _ ((Int.toNat_lt b1).mpr b2)
  have e1 := n_subL (l := [.int 1, .int 1, .int 2, .int 0]) (by decide) a1 (pick_at (l := [1, 1, 2, 0]) a1 a2)
  have e2 := n_subL (l := [.int 1, .int 2, .int 1, .int 1, .int 0]) (by decide) b1 (pick_at (l := [1, 2, 1, 1, 0]) b1 b2)
  clear a1 a2 b1 b2
  generalize ([1, 1, 2, 0] : List Int).getD ((c.fdiv 130).fmod 4).toNat 0 = one at o1 e1
  generalize ([1, 2, 1, 1, 0] : List Int).getD ((c.fdiv 520).fmod 5).toNat 0 = two at o2 e2
  have c2 := Int.le_of_lt_add_one (fmod_hi (c.fdiv 2600) (b := 2 + 1) (by decide))
  obtain ⟨x, y, z, ok, q1, q2, q3⟩ := cut3 (l := rowL c (stepI c) 6) (i := one) (j := two) (k := (c.fdiv 2600).fmod 3) (by rw [row_len]; decide) (row_nodup c (by decide)) (row_low c _ 6) o1.2 (Int.le_trans o1.1 (by decide)) o2.2 (Int.le_trans o2.1 (by decide)) (fmod_lo _ (by decide)) (Int.le_trans c2 (by decide)) (by rw [row_len]; exact Int.add_le_add (Int.add_le_add o1.1 o2.1) c2)
  refine ⟨x, y, z, ok, fun K h => run (fn := f17) rfl rfl rfl ?_⟩
  refine x_assign (v := .str abc) (fun _ h => h) (x_assign (v := .int (stepI c)) (val_op (.two (fun _ h => h) (val_op (.two (fun _ h => h) fun _ h => h) (n_mul (.inr (by decide))))) rfl) ?_)
  refine x_assign (val_row (c := c) (s := stepI c) (n := 6) (by decide) rfl (fun i => fun _ h => h) (fun i => fun _ h => h) (fun i => fun _ h => h) (fun i => fun _ h => h) (step_le c) fun _ h => h) ?_
  refine x_assign (v := .int one) (val_op (.two (fun _ h => h) fun _ h => h) e1) (x_assign (v := .int (one + two)) (val_op (.two (fun _ h => h) (val_op (.two (fun _ h => h) fun _ h => h) e2)) rfl) ?_)
  exact x_ret (v := sg x y z) (val_op (.cons (val_op (.two (fun _ h => h) fun _ h => h) q1) (.two (val_op (.cons (fun _ h => h) (.two (fun _ h => h) fun _ h => h)) q2) (val_op (.cons (fun _ h => h) (.two (fun _ h => h) (val_op (.two (fun _ h => h) fun _ h => h) rfl))) q3))) rfl) h
theorem one_le (c : Int) : 0 ≤ 1 + c.fmod 4 ∧ 1 + c.fmod 4 ≤ 4 := by
  have a1 := fmod_lo c (b := 4) (by decide)
  have a2 := fmod_hi c (b := 4) (by decide)
  omega
theorem p18 (cf : CallF) (h17 : S18 17 cf) : S18 18 (step cf) := fun c => by
  by_cases h3 : (c.fdiv 7800).fmod 8 = 3
  · have a := one_le (c.fdiv 130)
    have b := one_le (c.fdiv 520)
    have d := one_le (c.fdiv 2600)
    obtain ⟨x, y, z, ok, q1, q2, q3⟩ := cut3 (l := rowL c (stepI c) 12) (by rw [row_len]; decide) (row_nodup c (by decide)) (row_low c _ 12) a.1 a.2 b.1 b.2 d.1 d.2 (by rw [row_len]; exact Int.add_le_add (Int.add_le_add a.2 b.2) d.2)
    rw [← Int.add_assoc] at q2 q3
    rw [← Int.add_assoc] at q3
    refine ⟨x, y, z, ok, fun K h => run (fn := f18) rfl rfl rfl ?_⟩
    refine x_ifF (val_cmp (x := .int ((c.fdiv 7800).fmod 8)) (fun _ h => h) (fun _ h => h) (c_ne.trans (by rw [h3]; rfl))) ?_
    refine x_assign (v := .str abc) (fun _ h => h) (x_assign (v := .int (stepI c)) (val_op (.two (fun _ h => h) (val_op (.two (fun _ h => h) fun _ h => h) (n_mul (.inr (by decide))))) rfl) ?_)
    refine x_assign (val_row (c := c) (s := stepI c) (n := 12) (by decide) rfl (fun i => fun _ h => h) (fun i => fun _ h => h) (fun i => fun _ h => h) (fun i => fun _ h => h) (step_le c) fun _ h => h) ?_
    refine x_assign (v := .int (1 + (c.fdiv 130).fmod 4)) (fun _ h => h) (x_assign (v := .int (1 + (c.fdiv 130).fmod 4 + 1 + (c.fdiv 520).fmod 4)) (fun _ h => h) ?_)
    exact x_ret (v := sg x y z) (val_op (.cons (val_op (.two (fun _ h => h) fun _ h => h) q1) (.two (val_op (.cons (fun _ h => h) (.two (fun _ h => h) fun _ h => h)) q2) (val_op (.cons (fun _ h => h) (.two (fun _ h => h) fun _ h => h)) q3))) rfl) h
  · obtain ⟨s0, s1, s2, ok, h⟩ := h17 c
    refine ⟨s0, s1, s2, ok, fun K hk => run (fn := f18) rfl rfl rfl (x_ifT (val_cmp (x := .int ((c.fdiv 7800).fmod 8)) (fun _ h => h) (fun _ h => h) (c_ne.trans (congrArg some ?_))) (x_ret (val_call (.one fun _ h => h) h) hk))⟩
    rw [beq_eq_false_iff_ne.mpr h3]; rfl
end Mine.L04
end

noncomputable section
set_option maxRecDepth 100000
set_option linter.unusedVariables false
namespace Mine.L04
open PySem

/-! a way by a cell -/
noncomputable def pickN (cell : Int) (s : List Nat) : Nat := s.getD ((cell.fdiv 256).fmod s.length).toNat 0
theorem pick_lt {cell : Int} {n : Nat} (h : 0 < n) : (cell.fmod n).toNat < n := by
  have h1 := fmod_lo cell (b := n) (by omega)
  have h2 := fmod_hi cell (b := n) (by omega)
  omega
theorem pickN_at {cell : Int} {s : List Nat} (h : s ≠ []) : s[((cell.fdiv 256).fmod s.length).toNat]? = some (pickN cell s) := by
  have := pick_lt (cell := cell.fdiv 256) (List.length_pos_iff.mpr h)
  unfold pickN
  rw [List.getD_eq_getElem?_getD, List.getElem?_eq_getElem this]; rfl
theorem pickN_mem {cell : Int} {s : List Nat} (h : s ≠ []) : pickN cell s ∈ s := List.mem_of_getElem? (pickN_at h)
theorem val_pick {cf : CallF} {G : Gs} {e : E} {cell : Int} {s : List Nat} (he : Val cf G e (text s)) (h0 : Val cf G (vv 0) (.int cell)) (hs : s ≠ []) (hl : s.length ≤ 4) : Val cf G (.nd .sub [e, .nd (.bin .Mod) [.nd (.bin .FloorDiv) [vv 0, ii 256], .nd .len [e]]]) (text [pickN cell s]) :=
  have hp := List.length_pos_iff.mpr hs
  have hz : s.length ≤ 1000 := Nat.le_trans hl (by decide)
  val_op (.two he (val_op (.two (val_op (.two h0 fun _ h => h) (n_div (by decide) (by decide))) (val_op (.one he) (n_lenS hz))) (n_mod (by omega)))) (n_subS hz (fmod_lo _ (by omega)) (pickN_at hs))
theorem text_ne {l : List Nat} (h : PyData.strOk ⟨l.toArray⟩ = true) : cmpOp .NotEq (text l) (.str k0) = some (!l.isEmpty) := (c_neS h ok_0).trans (congrArg (fun b => some (!b)) (by
  cases l with
  | nil => rfl
  | cons c r => exact beq_eq_false_iff_ne.mpr fun e => nomatch congrArg (fun s : Str => s.cps.toList) e))
theorem list_ne {l : List V} (h : ∀ x ∈ l, Flat 1 x) : cmpOp .NotEq (.list l) (.list []) = some (!l.isEmpty) := congrArg (Option.map (!·)) (show eqO (.list l) (.list []) = some l.isEmpty from c_eq0 (flat_ok (n := 2) (flat_list h) (by decide)))
noncomputable def wayO (s0 s1 s2 : List Nat) (R : Int) (v : V) : Prop := v = .none ∨ ∃ w, W.ok s0 s1 s2 R w ∧ v = w.v
noncomputable def isOp : W → Prop
  | .op _ _ _ _ => True
  | _ => False
noncomputable def S19 (cf : CallF) : Prop := ∀ cell s0 s1 s2 R (os : List W) (most : Int), SgOk s0 s1 s2 → 1 ≤ R → os.length ≤ 100 → (∀ w ∈ os, isOp w ∧ W.ok s0 s1 s2 R w) → ∃ v, wayO s0 s1 s2 R v ∧ ∀ K, K v → cf 19 [.int cell, sg s0 s1 s2, .int R, waysV os, .int most] K
section
variable {cf : CallF} {cell R most : Int} {s0 s1 s2 : List Nat} {os : List W}
noncomputable def g19 (cell : Int) (s0 s1 s2 : List Nat) (R : Int) (os : List W) (most a b t : Int) : Gs := [.v (.int cell), .v (sg s0 s1 s2), .v (.int R), .v (waysV os), .v (.int most), .v (.int a), .v (.int b), .v (.int t)]
theorem not_nil {K : Option V → Gs → Prop} (a b t : Int) (fl : ∀ x ∈ os.map W.v, Flat 1 x) : Val cf (g19 cell s0 s1 s2 R os most a b t) (.nd (.cmp .NotEq) [vv 3, .nd .list []]) (.bool (!(os.map W.v).isEmpty)) := val_cmp (x := .list (os.map W.v)) (fun _ h => h) (fun _ h => h) (list_ne fl)
theorem p19_open (sk : SgOk s0 s1 s2) (ok : ∀ w ∈ os, isOp w ∧ W.ok s0 s1 s2 R w) (hl : os.length ≤ 100) (fl : ∀ x ∈ os.map W.v, Flat 1 x) (h0 : s0 ≠ []) {a b t : Int} (ha : In R a) (hb : In R b) (ht : In R t) : ∃ v, wayO s0 s1 s2 R v ∧ ∀ (r : List S) (K : Option V → Gs → Prop), (∀ G, K (some v) G) → exs cf (f19c1 ++ r) (g19 cell s0 s1 s2 R os most a b t) K := by
  have q0 : ∀ {k : Int}, Val cf (g19 cell s0 s1 s2 R os most a b t) (.nd (.cmp .Eq) [.nd (.bin .Mod) [.nd (.bin .FloorDiv) [vv 0, ii 1024], ii 3], ii k]) (.bool ((cell.fdiv 1024).fmod 3 == k)) := fun K h => h
  have last : ∀ (r : List S) (K : Option V → Gs → Prop), (∀ G, K (some (W.v (.op a (pickN cell s0) b t))) G) → exs cf (.mk .ret [.nd .tuple [ss kOpen, vv 5, .nd .sub [.nd .sub [vv 1, ii 0], .nd (.bin .Mod) [.nd (.bin .FloorDiv) [vv 0, ii 256], .nd .len [.nd .sub [vv 1, ii 0]]]], vv 6, vv 7]] [] [] :: r) (g19 cell s0 s1 s2 R os most a b t) K := fun r K h =>
    x_ret (val_op (.cons (fun _ h => h) (.cons (fun _ h => h) (.cons (val_pick (fun _ h => h) (fun _ h => h) h0 sk.la) (.two (fun _ h => h) fun _ h => h)))) rfl) (h _)
  cases os with
  | nil =>
    refine ⟨_, .inr ⟨.op a (pickN cell s0) b t, ⟨ha, pickN_mem h0, hb, ht⟩, rfl⟩, fun r K h => ?_⟩
    exact x_ifF (val_and (.stop (b := true) (not_nil (K := K) a b t fl))) (x_ifF (val_and (.stop (b := true) (not_nil (K := K) a b t fl))) (last r K h))
  | cons w os =>
    obtain ⟨io, wo⟩ := ok w (.head _)
    cases w with
    | on => cases io
    | cl => cases io
    | op a' c' b' t' =>
      have hz : ((W.op a' c' b' t' :: os).map W.v).length ≤ 1000 := by rw [List.length_map]; omega
      have w0 : Val cf (g19 cell s0 s1 s2 R (.op a' c' b' t' :: os) most a b t) (.nd .sub [vv 3, ii 0]) (W.v (.op a' c' b' t')) := val_op (.two (x := .list ((W.op a' c' b' t' :: os).map W.v)) (fun _ h => h) fun _ h => h) (n_subL hz (Int.le_refl _) rfl)
      by_cases c0 : (cell.fdiv 1024).fmod 3 = 0
      · refine ⟨_, .inr ⟨.op a' c' b t, ⟨wo.1, wo.2.1, hb, ht⟩, rfl⟩, fun r K h => ?_⟩
        exact x_ifT (val_and (.go (not_nil (K := K) a b t fl) (.go (by have := q0 (k := 0); rw [c0] at this; exact this) .nil))) (x_ret (val_op (.two (x := .tuple [.str kOpen, .int a', text [c']]) (val_op (.two w0 fun _ h => h) rfl) fun _ h => h) rfl) (h _))
      · have n0 := q0 (k := 0)
        rw [beq_eq_false_iff_ne.mpr c0] at n0
        have s1 : ∀ {X : List S} {r K}, exs cf r (g19 cell s0 s1 s2 R (.op a' c' b' t' :: os) most a b t) K → exs cf (.mk .ite [.nd .and [.nd (.cmp .NotEq) [vv 3, .nd .list []], .nd (.cmp .Eq) [.nd (.bin .Mod) [.nd (.bin .FloorDiv) [vv 0, ii 1024], ii 3], ii 0]]] X [] :: r) (g19 cell s0 s1 s2 R (.op a' c' b' t' :: os) most a b t) K := fun {X r K} h => x_ifF (val_and (.go (not_nil (K := K) a b t fl) (.stop (b := true) n0))) h
        by_cases c1 : (cell.fdiv 1024).fmod 3 = 1
        · refine ⟨_, .inr ⟨.op (R - 1 - a') c' b t, ⟨⟨by have := wo.1.2; omega, by have := wo.1.1; omega⟩, wo.2.1, hb, ht⟩, rfl⟩, fun r K h => s1 ?_⟩
          refine x_ifT (val_and (.go (not_nil (K := K) a b t fl) (.go (by have := q0 (k := 1); rw [c1] at this; exact this) .nil))) (x_ret (val_op (.cons (fun _ h => h) (.cons (val_op (.two (x := .int (R - 1)) (fun _ h => h) (val_op (.two w0 fun _ h => h) rfl)) rfl) (.cons (val_op (.two w0 fun _ h => h) rfl) (.two (fun _ h => h) fun _ h => h)))) rfl) (h _))
        · refine ⟨_, .inr ⟨.op a (pickN cell s0) b t, ⟨ha, pickN_mem h0, hb, ht⟩, rfl⟩, fun r K h => s1 ?_⟩
          have n1 := q0 (k := 1)
          rw [beq_eq_false_iff_ne.mpr c1] at n1
          exact x_ifF (val_and (.go (not_nil (K := K) a b t fl) (.stop (b := true) n1))) (last r K h)
theorem p19_close (sk : SgOk s0 s1 s2) (ok : ∀ w ∈ os, isOp w ∧ W.ok s0 s1 s2 R w) (hl : os.length ≤ 100) (fl : ∀ x ∈ os.map W.v, Flat 1 x) (h1 : s1 ≠ []) {a b t : Int} (ha : In R a) (hb : In R b) (ht : In R t) : ∃ v, wayO s0 s1 s2 R v ∧ ∀ (r : List S) (K : Option V → Gs → Prop), (∀ G, K (some v) G) → exs cf (f19c2 ++ r) (g19 cell s0 s1 s2 R os most a b t) K := by
  have last : ∀ (a b : Int) (r : List S) (K : Option V → Gs → Prop), (∀ G, K (some (W.v (.cl a b (pickN cell s1) t))) G) → exs cf (.mk .ret [.nd .tuple [ss kClose, vv 5, vv 6, .nd .sub [.nd .sub [vv 1, ii 1], .nd (.bin .Mod) [.nd (.bin .FloorDiv) [vv 0, ii 256], .nd .len [.nd .sub [vv 1, ii 1]]]], vv 7]] [] [] :: r) (g19 cell s0 s1 s2 R os most a b t) K := fun a b r K h =>
    x_ret (val_op (.cons (fun _ h => h) (.cons (fun _ h => h) (.cons (fun _ h => h) (.two (val_pick (fun _ h => h) (fun _ h => h) h1 sk.lb) fun _ h => h)))) rfl) (h _)
  have nn := fun K => not_nil (cf := cf) (cell := cell) (s0 := s0) (s1 := s1) (s2 := s2) (R := R) (most := most) (K := K) a b t fl
  by_cases he : os = []
  · refine ⟨_, .inr ⟨.cl a b (pickN cell s1) t, ⟨ha, hb, pickN_mem h1, ht⟩, rfl⟩, fun r K h => ?_⟩
    subst he
    exact x_ifF (val_and (.stop (b := true) (nn K))) (last a b r K h)
  · have ne : (!(os.map W.v).isEmpty) = true := by cases os with | nil => exact absurd rfl he | cons => rfl
    by_cases c0 : 0 < (cell.fdiv 1024).fmod 4
    · have hlt := pick_lt (cell := cell.fdiv 16) (List.length_pos_iff.mpr he)
      obtain ⟨io, wo⟩ := ok _ (List.getElem_mem hlt)
      have hw : (os.map W.v)[((cell.fdiv 16).fmod os.length).toNat]? = some (W.v os[((cell.fdiv 16).fmod os.length).toNat]) := by rw [List.getElem?_map, List.getElem?_eq_getElem hlt]; rfl
      generalize os[((cell.fdiv 16).fmod os.length).toNat] = w at io wo hw
      cases w with
      | on => cases io
      | cl => cases io
      | op a' c' b' t' =>
        refine ⟨_, .inr ⟨.cl b' t' (pickN cell s1) t, ⟨wo.2.2.1, wo.2.2.2, pickN_mem h1, ht⟩, rfl⟩, fun r K h => ?_⟩
        have hz : (os.map W.v).length ≤ 1000 := by rw [List.length_map]; omega
        refine x_ifT (val_and (.go (ne ▸ nn K) (.go (val_cmp (x := .int ((cell.fdiv 1024).fmod 4)) (fun _ h => h) (fun _ h => h) (c_gt c0)) .nil))) ?_
        refine x_assignM (v := .tuple [.int b', .int t']) (val_op (.two (val_op (.two (x := .list (os.map W.v)) (fun _ h => h) (val_op (.two (x := .int (cell.fdiv 16)) (fun _ h => h) (val_op (.one (v := .list (os.map W.v)) fun _ h => h) (n_len hz))) (n_mod (by rw [List.length_map]; have := List.length_pos_iff.mpr he; omega)))) (n_subL hz (by rw [List.length_map]; exact fmod_lo _ (by have := List.length_pos_iff.mpr he; omega)) (by rw [List.length_map]; exact hw))) fun _ h => h) rfl) rfl (last b' t' r K h)
    · refine ⟨_, .inr ⟨.cl a b (pickN cell s1) t, ⟨ha, hb, pickN_mem h1, ht⟩, rfl⟩, fun r K h => ?_⟩
      exact x_ifF (val_and (.go (ne ▸ nn K) (.stop (b := true) (val_cmp (x := .int ((cell.fdiv 1024).fmod 4)) (fun _ h => h) (fun _ h => h) (c_ngt c0))))) (last a b r K h)
end
theorem p19 (cf : CallF) : S19 (step cf) := fun cell s0 s1 s2 R os most sk hR hl ok => by
  have in' : ∀ x : Int, In R (x.fmod R) := fun x => ⟨fmod_lo x (by omega), fmod_hi x (by omega)⟩
  have fl : ∀ x ∈ os.map W.v, Flat 1 x := fun x m => by
    obtain ⟨w, mw, rfl⟩ := List.mem_map.mp m
    exact flat_way sk (ok w mw).2
  have hz : (os.map W.v).length ≤ 1000 := by rw [List.length_map]; omega
  have start : ∀ (K : V → Prop), (exs cf (f19.body.drop 3) (g19 cell s0 s1 s2 R os most ((cell.fdiv 4).fmod R) ((cell.fdiv 16).fmod R) ((cell.fdiv 64).fmod R)) fun fl _ => K (fl.getD .none)) → step cf 19 [.int cell, sg s0 s1 s2, .int R, waysV os, .int most] K := fun K h =>
    run (fn := f19) rfl rfl rfl (x_assign (val_op (.two (fun _ h => h) fun _ h => h) (n_mod (by omega))) (x_assign (val_op (.two (fun _ h => h) fun _ h => h) (n_mod (by omega))) (x_assign (val_op (.two (fun _ h => h) fun _ h => h) (n_mod (by omega))) h)))
  have c1 : Val cf (g19 cell s0 s1 s2 R os most ((cell.fdiv 4).fmod R) ((cell.fdiv 16).fmod R) ((cell.fdiv 64).fmod R)) (.nd .and [.nd (.cmp .Eq) [.nd (.bin .Mod) [vv 0, ii 4], ii 0], .nd (.cmp .Lt) [.nd .len [vv 3], vv 4], .nd (.cmp .NotEq) [.nd .sub [vv 1, ii 0], ss k0]]) (.bool ((cell.fmod 4 == 0) && (decide (((os.map W.v).length : Int) < most) && (!s0.isEmpty && true)))) :=
    val_and (.and (fun _ h => h) fun _ => .and (val_cmp (val_op (.one (v := .list (os.map W.v)) fun _ h => h) (n_len hz)) (fun _ h => h) rfl) fun _ => .and (val_cmp (x := text s0) (fun _ h => h) (fun _ h => h) (text_ne (ok_text fun c m => sk.lowA m))) fun _ => .nil)
  have c2 : Val cf (g19 cell s0 s1 s2 R os most ((cell.fdiv 4).fmod R) ((cell.fdiv 16).fmod R) ((cell.fdiv 64).fmod R)) (.nd .and [.nd (.cmp .Lt) [.nd (.bin .Mod) [vv 0, ii 4], ii 2], .nd (.cmp .NotEq) [.nd .sub [vv 1, ii 1], ss k0]]) (.bool (decide (cell.fmod 4 < 2) && (!s1.isEmpty && true))) :=
    val_and (.and (fun _ h => h) fun _ => .and (val_cmp (x := text s1) (fun _ h => h) (fun _ h => h) (text_ne (ok_text fun c m => sk.lowB m))) fun _ => .nil)
  have c3 : Val cf (g19 cell s0 s1 s2 R os most ((cell.fdiv 4).fmod R) ((cell.fdiv 16).fmod R) ((cell.fdiv 64).fmod R)) (.nd (.cmp .NotEq) [.nd .sub [vv 1, ii 2], ss k0]) (.bool (!s2.isEmpty)) := val_cmp (x := text s2) (fun _ h => h) (fun _ h => h) (text_ne (ok_text fun c m => sk.lowC m))
  have ne : ∀ {s : List Nat}, (!s.isEmpty) = true → s ≠ [] := fun h e => by rw [e] at h; cases h
  cases t1 : (cell.fmod 4 == 0) && (decide (((os.map W.v).length : Int) < most) && (!s0.isEmpty && true)) with
  | true =>
    rw [t1] at c1
    have z := (Bool.and_eq_true _ _).mp ((Bool.and_eq_true _ _).mp ((Bool.and_eq_true _ _).mp t1).2).2
    obtain ⟨v, hv, h⟩ := p19_open (cf := cf) (cell := cell) (most := most) sk ok hl fl (ne z.1) (in' (cell.fdiv 4)) (in' (cell.fdiv 16)) (in' (cell.fdiv 64))
    exact ⟨v, hv, fun K k => start K (x_ifT c1 (h _ _ fun _ => k))⟩
  | false =>
    rw [t1] at c1
    cases t2 : decide (cell.fmod 4 < 2) && (!s1.isEmpty && true) with
    | true =>
      rw [t2] at c2
      have z := (Bool.and_eq_true _ _).mp ((Bool.and_eq_true _ _).mp t2).2
      obtain ⟨v, hv, h⟩ := p19_close (cf := cf) (cell := cell) (most := most) sk ok hl fl (ne z.1) (in' (cell.fdiv 4)) (in' (cell.fdiv 16)) (in' (cell.fdiv 64))
      exact ⟨v, hv, fun K k => start K (x_ifF c1 (x_ifT c2 (h _ _ fun _ => k)))⟩
    | false =>
      rw [t2] at c2
      cases t3 : s2.isEmpty with
      | true =>
        rw [t3] at c3
        exact ⟨.none, .inl rfl, fun K k => start K (x_ifF c1 (x_ifF c2 (x_ifF c3 (x_ret (fun _ h => h) k))))⟩
      | false =>
        rw [t3] at c3
        have h2 : s2 ≠ [] := ne (by rw [t3]; rfl)
        exact ⟨_, .inr ⟨.on ((cell.fdiv 4).fmod R) (pickN cell s2) ((cell.fdiv 16).fmod R), ⟨in' _, pickN_mem h2, in' _⟩, rfl⟩, fun K k => start K (x_ifF c1 (x_ifF c2 (x_ifT c3 (x_ret (val_op (.cons (fun _ h => h) (.cons (fun _ h => h) (.two (val_pick (fun _ h => h) (fun _ h => h) h2 sk.lc) fun _ h => h))) rfl) k))))⟩
end Mine.L04
end

noncomputable section
set_option maxRecDepth 100000
set_option linter.unusedVariables false
namespace Mine.L04
open PySem

section
variable {cf : CallF} {G : Gs} {e a b : E} {es : List E} {vs : List V} {k f : Nat} {r : List S} {K : Option V → Gs → Prop}
theorem x_assignK (h : ev cf e G fun v => exs cf r (G.set k (.v v)) K) : exs cf (.mk (.assign k) [e] [] [] :: r) G K := h
theorem x_retK (h : ev cf e G fun v => K (some v) G) : exs cf (.mk .ret [e] [] [] :: r) G K := h
theorem ev_callK {K : V → Prop} (hv : Vals cf G es vs) (h : cf f vs K) : ev cf (.nd (.call f) es) G K := hv _ h
theorem Tests.one {t : Bool} (h : Val cf G a (.bool t)) : Tests cf true G [a] t := by
  have := Tests.and (es := []) h fun _ => .nil
  rwa [Bool.and_true] at this
theorem val_lenL {l : List V} (hl : ownLO G k = some l) (hz : l.length ≤ 1000) : Val cf G (.nd (.lenL k) []) (.int l.length) := fun K h => okK_some hl (okK_some (if_pos (sz_of hz)) h)
end
theorem rOk_of {n : Int} (h0 : 0 ≤ n) (h : n ≤ 1000) : rOk n = true := Nat.ble_eq_true_of_le (by omega)
theorem range_len {n : Int} : (rangeL 0 n).length = n.toNat := by unfold rangeL; rw [List.length_map, List.length_range, Int.sub_zero]
theorem n_range {n : Int} (h0 : 0 ≤ n) (h : n ≤ 1000) : opN .range [.int n] = some (.list (rangeL 0 n)) := (if_pos ⟨rfl, rOk_of h0 h⟩).trans (if_pos (sz_of (by rw [range_len]; omega)))
theorem seq_range {n : Int} (h : n ≤ 1000) : seqV (.list (rangeL 0 n)) = some (rangeL 0 n) := seq_list (by rw [range_len]; omega)
theorem range_eq (n : Int) : rangeL 0 n = (List.range n.toNat).map fun i : Nat => .int (0 + (i : Int)) := by unfold rangeL; rw [Int.sub_zero]
theorem val_range {cf : CallF} {G : Gs} {e : E} {n : Int} (h : Val cf G e (.int n)) (h0 : 0 ≤ n) (hz : n ≤ 1000) : Val cf G (.nd .range [e]) (.list (rangeL 0 n)) := val_op (.one h) (n_range h0 hz)
noncomputable def pickR (n : Nat) (p : Nat → Bool) : List Int := ((List.range n).filter p).map fun i : Nat => 0 + (i : Int)
theorem pickR_ok {R : Int} {p : Nat → Bool} (h : R ≤ 4) : RoomsOk R (pickR R.toNat p) where
  len := by
    unfold pickR
    rw [List.length_map]
    have := List.length_filter_le p (List.range R.toNat)
    rw [List.length_range] at this
    omega
  nodup := List.pairwise_map.mpr ((List.nodup_range.filter p).imp fun h e => h (by omega))
  rooms := fun i m => by
    obtain ⟨j, mj, rfl⟩ := List.mem_map.mp m
    have := List.mem_range.mp (List.mem_filter.mp mj).1
    exact ⟨by omega, by omega⟩
theorem val_rooms {cf : CallF} {G : Gs} {e t : E} {R : Int} {k : Nat} {p : Nat → Bool} (h : Val cf G e (.int R)) (h0 : 0 ≤ R) (h1 : R ≤ 4) (ht : ∀ i : Nat, (i : Int) < R → Val cf (G.set k (.v (.int (0 + (i : Int))))) t (.bool (p i))) (hv : ∀ i : Nat, Val cf (G.set k (.v (.int (0 + (i : Int))))) (vv k) (.int (0 + (i : Int)))) :
    Val cf G (.nd (.comp k) [.nd .range [e], vv k, t]) (roomsV (pickR R.toNat p)) := by
  have q := val_comp (k := k) (e := vv k) (ts := [t]) (p := p) (f := fun i : Nat => .int (0 + (i : Int))) (val_range h h0 (by omega)) ((seq_range (by omega)).trans (congrArg some (range_eq R))) (fun i m => Tests.one (ht i (by have := List.mem_range.mp m; omega))) fun i m _ => hv i
  unfold roomsV pickR
  rw [List.map_map]
  exact q
theorem div1 {i : Nat} {R : Int} (h : (i : Int) < R) (h4 : R ≤ 4) : 0 < 4 * (0 + (i : Int)) + 1 ∧ 4 * (0 + (i : Int)) + 1 ≤ 1000000 := by omega
theorem div2 {i : Nat} {R : Int} (h : (i : Int) < R) (h4 : R ≤ 4) : 0 < 5 * (0 + (i : Int)) + 7 ∧ 5 * (0 + (i : Int)) + 7 ≤ 1000000 := by omega
theorem div3 {i : Nat} {R : Int} (h : (i : Int) < R) (h4 : R ≤ 4) : 0 < 0 + (i : Int) + 9 ∧ 0 + (i : Int) + 9 ≤ 1000000 := by omega
theorem few {n : Nat} {k : Int} (h : (n : Int) < k) (h' : k ≤ 1000) : n ≤ 1000 := by omega
structure PartsOk (s0 s1 s2 : List Nat) (R : Int) (st en : List Int) (ws : List W) : Prop where
  r1 : 1 ≤ R
  r4 : R ≤ 4
  st : RoomsOk R st
  en : RoomsOk R en
  len : ws.length ≤ 97
  ok : ∀ w ∈ ws, W.ok s0 s1 s2 R w
noncomputable def S20 (cf : CallF) : Prop := ∀ scr s0 s1 s2 K, scr.length ≤ 63 → SgOk s0 s1 s2 → (∀ R st en ws, PartsOk s0 s1 s2 R st en ws → K (partsV (sg s0 s1 s2) R st en ws)) → cf 20 [scrV scr, .int 3, sg s0 s1 s2, .int 4] K
noncomputable def opB : W → Bool
  | .op _ _ _ _ => true
  | _ => false
theorem p20 (cf : CallF) (h15 : S15 cf) (h16 : S16 cf) (h19 : S19 cf) : S20 (step cf) := fun scr s0 s1 s2 K hs sk h => by
  have mR := one_le (cellI scr 3)
  have mR1 : 1 ≤ 1 + (cellI scr 3).fmod 4 := Int.add_le_add_left (fmod_lo (cellI scr 3) (b := 4) (by decide)) 1
  have n1 : 0 ≤ 2 + ((cellI scr 3).fdiv 4).fmod 9 := Int.add_le_add (show 0 ≤ (2 : Int) by decide) (fmod_lo _ (by decide))
  have n2 : 2 + ((cellI scr 3).fdiv 4).fmod 9 ≤ 10 := Int.add_le_add_left (Int.le_of_lt_add_one (fmod_hi _ (b := 8 + 1) (by decide))) 2
  have c15 : ∀ {G a b} {i : Int}, Val cf G a (scrV scr) → Val cf G b (.int i) → 0 ≤ i → Val cf G (.nd (.call 15) [a, b]) (.int (cellI scr i)) := fun ha hb hi => val_call (.two ha hb) fun K h => h15 scr _ K hs hi h
  have e1 := pick_at (l := [4, 2, 1, 1]) (i := 1 + (cellI scr 3).fmod 4 - 1) (Int.sub_nonneg_of_le mR1) (Int.sub_lt_iff.mpr (Int.lt_add_one_of_le mR.2))
  refine run (fn := f20) rfl rfl rfl ?_
  have mR2 := mR.2
  have mR0 := mR.1
  clear mR
  generalize hR : 1 + (cellI scr 3).fmod 4 = R at e1 mR0 mR1 mR2
  refine x_assign (v := .int R) (hR ▸ val_op (.two (fun _ h => h) (val_op (.two (c15 (fun _ h => h) (fun _ h => h) (by decide)) fun _ h => h) (n_mod (by decide)))) rfl) ?_
  refine x_assign (val_op (.two (x := .list [.int 4, .int 2, .int 1, .int 1]) (fun _ h => h) fun _ h => h) (n_subL (by decide) (Int.sub_nonneg_of_le mR1) e1)) ?_
  generalize ([4, 2, 1, 1] : List Int).getD (R - 1).toNat 0 = many
  refine x_assign (val_rooms (p := fun i => decide (0 < ((cellI scr 4).fdiv (4 * (0 + (i : Int)) + 1)).fmod 3)) (fun _ h => h) mR0 mR2 (fun i hi => val_cmp (val_op (.two (val_op (.two (c15 (i := 4) (fun _ h => h) (fun _ h => h) (by decide)) (val_op (.two (val_op (.two (fun _ h => h) fun _ h => h) (n_mul (.inr (by decide)))) fun _ h => h) rfl)) (n_div (div1 hi mR2).1 (div1 hi mR2).2)) fun _ h => h) (n_mod (by decide))) (fun _ h => h) rfl) fun i => fun _ h => h) ?_
  refine x_assign (val_rooms (p := fun i => ((cellI scr 4).fdiv (5 * (0 + (i : Int)) + 7)).fmod 2 == 0) (fun _ h => h) mR0 mR2 (fun i hi => val_cmp (val_op (.two (val_op (.two (c15 (i := 4) (fun _ h => h) (fun _ h => h) (by decide)) (val_op (.two (val_op (.two (fun _ h => h) fun _ h => h) (n_mul (.inr (by decide)))) fun _ h => h) rfl)) (n_div (div2 hi mR2).1 (div2 hi mR2).2)) fun _ h => h) (n_mod (by decide))) (fun _ h => h) rfl) fun i => fun _ h => h) (x_own0 ?_)
  have ost := pickR_ok (R := R) (p := fun i => decide (0 < ((cellI scr 4).fdiv (4 * (0 + (i : Int)) + 1)).fmod 3)) mR2
  have oen := pickR_ok (R := R) (p := fun i => ((cellI scr 4).fdiv (5 * (0 + (i : Int)) + 7)).fmod 2 == 0) mR2
  generalize pickR R.toNat (fun i => decide (0 < ((cellI scr 4).fdiv (4 * (0 + (i : Int)) + 1)).fmod 3)) = st at ost
  generalize pickR R.toNat (fun i => ((cellI scr 4).fdiv (5 * (0 + (i : Int)) + 7)).fmod 2 == 0) = en at oen
  refine x_for (xs := rangeL 0 (2 + ((cellI scr 3).fdiv 4).fmod 9)) (P := fun xs G => ∃ ws s9 s10 s11, (∀ x ∈ xs, ∃ i : Int, 0 ≤ i ∧ x = .int i) ∧ ws.length + xs.length ≤ 10 ∧ (∀ w ∈ ws, W.ok s0 s1 s2 R w) ∧ G = [.v (scrV scr), .v (.int 3), .v (sg s0 s1 s2), .v (.int 4), .v (.int R), .v (.int many), .v (roomsV st), .v (roomsV en), .ownL (ws.map W.v), s9, s10, s11, .unset])
    (val_range (val_op (.two (fun _ h => h) (val_op (.two (val_op (.two (c15 (fun _ h => h) (fun _ h => h) (by decide)) fun _ h => h) (n_div (by decide) (by decide))) fun _ h => h) (n_mod (by decide)))) rfl) n1 (Int.le_trans n2 (by decide))) (seq_range (Int.le_trans n2 (by decide))) ⟨[], _, _, _, fun x m => ?_, by rw [range_len, List.length_nil, Nat.zero_add]; exact Int.toNat_le.mpr n2, fun w m => (nomatch m), rfl⟩ (fun G hP => ?_) fun x xs' G Kt hP nx _ => ?_
  · rw [range_eq] at m
    obtain ⟨i, _, rfl⟩ := List.mem_map.mp m
    exact ⟨_, Int.add_nonneg (by decide) (Int.natCast_nonneg i), rfl⟩
  · obtain ⟨ws, s9, s10, s11, _, hl, hw, rfl⟩ := hP
    rw [List.length_nil] at hl
    exact x_freeze (l := ws.map W.v) rfl (x_ret (fun _ h => h) (h R st en ws ⟨mR1, mR2, ost, oen, Nat.le_trans hl (by decide), hw⟩))
  · obtain ⟨ws, s9, s10, s11, hx, hl, hw, rfl⟩ := hP
    rw [List.length_cons, ← Nat.add_assoc] at hl
    have hl' := Nat.le_of_succ_le hl
    have hw10 : ws.length ≤ 10 := Nat.le_trans (Nat.le_add_right _ _) hl'
    obtain ⟨i, hi, rfl⟩ := hx x (.head _)
    have hz : (ws.map W.v).length ≤ 1000 := by rw [List.length_map]; exact Nat.le_trans hw10 (by decide)
    refine x_assign (v := waysV (ws.filter opB)) (val_comp (g := W.v) (p := opB) (f := W.v) (x := .list (ws.map W.v)) (fun _ h => h) (seq_list hz) (fun w m => Tests.one ?_) fun w m _ => fun _ h => h) ?_
    · cases w with
      | on a c b => exact val_cmp (x := .str kOn) (fun _ h => h) (fun _ h => h) ((c_eqS ok_on ok_open).trans (congrArg some (by rfl)))
      | op a c b t => exact val_cmp (x := .str kOpen) (fun _ h => h) (fun _ h => h) ((c_eqS ok_open ok_open).trans (congrArg some (by rfl)))
      | cl a b c t => exact val_cmp (x := .str kClose) (fun _ h => h) (fun _ h => h) ((c_eqS ok_close ok_open).trans (congrArg some (by rfl)))
    obtain ⟨v, hv, h19⟩ := h19 (mixI (cellI scr (3 + 2 + i)) i) s0 s1 s2 R (ws.filter opB) many sk mR1 (Nat.le_trans (List.length_filter_le opB ws) (Nat.le_trans hw10 (by decide))) fun w m => by
      have m := List.mem_filter.mp m
      exact ⟨(by cases w with | op => trivial | _ => cases m.2), hw w m.1⟩
    refine x_assign (v := v) (val_call (vs := [.int (mixI (cellI scr (3 + 2 + i)) i), sg s0 s1 s2, .int R, waysV (ws.filter opB), .int many]) (.cons (val_call (.two (c15 (i := 3 + 2 + i) (fun _ h => h) (fun _ h => h) (Int.add_nonneg (by decide) hi)) fun _ h => h) fun K h => h16 _ _ K h) (.cons (fun _ h => h) (.cons (fun _ h => h) (.two (fun _ h => h) fun _ h => h)))) h19) ?_
    have hx' : ∀ x ∈ xs', ∃ i : Int, 0 ≤ i ∧ x = .int i := fun x m => hx x (.tail _ m)
    rcases hv with rfl | ⟨w, ow, rfl⟩
    · exact x_ifF (fun _ h => h) (x_nil (nx _ ⟨ws, _, _, _, hx', hl', hw, rfl⟩))
    · refine x_ifT (by cases w <;> exact fun _ h => h) (x_append (l := ws.map W.v) rfl (v := w.v) (fun _ h => h) (Nat.lt_of_le_of_lt hz (by decide)) (x_nil (nx _ ⟨ws ++ [w], _, _, _, hx', by rw [List.length_append, List.length_singleton, Nat.add_right_comm]; exact hl, fun u m => ?_, by rw [List.map_append]; rfl⟩)))
      rcases List.mem_append.mp m with m | m
      · exact hw u m
      · cases List.mem_singleton.mp m; exact ow
noncomputable def S21 (cf : CallF) : Prop := ∀ s0 s1 s2 R st en ws K, SgOk s0 s1 s2 → PartsOk s0 s1 s2 R st en ws → (∀ st' en' r, st'.Perm st → en'.Perm en → r.Nodup → (∀ y, y ∈ r ↔ y ∈ ws.map W.v) → K (machV (sg s0 s1 s2) R st' en' r)) → cf 21 [partsV (sg s0 s1 s2) R st en ws] K
theorem val_listOf {cf : CallF} {G : Gs} {e : E} {l : List V} (h : Val cf G e (.list l)) (hz : l.length ≤ 1000) : Val cf G (.nd .listOf [e]) (.list l) := val_op (.one h) (show (fitL l l).map _ = _ by rw [show fitL l l = some l from if_pos (sz_of hz)]; rfl)
theorem p21 (cf : CallF) (h8 : S8 cf) : S21 (step cf) := fun s0 s1 s2 R st en ws K sk ok h => by
  have l1 := ok.st.len
  have l2 := ok.en.len
  have l3 := ok.len
  have r4 := ok.r4
  refine run (fn := f21) rfl rfl rfl (x_retK (ev_callK (vs := [sg s0 s1 s2, .int R, roomsV st, roomsV en, waysV ws]) (.cons (fun _ h => h) (.cons (fun _ h => h) (.cons (val_listOf (l := st.map .int) (fun _ h => h) (by rw [List.length_map]; exact Nat.le_trans l1 (by decide))) (.two (val_listOf (l := en.map .int) (fun _ h => h) (by rw [List.length_map]; exact Nat.le_trans l2 (by decide))) (val_listOf (l := ws.map W.v) (fun _ h => h) (by rw [List.length_map]; exact Nat.le_trans l3 (by decide))))))) ?_))
  exact h8 s0 s1 s2 R st en ws _ sk ok.r1 (Int.le_trans r4 (by decide)) ok.st ok.en (Nat.lt_of_le_of_lt l3 (by decide)) ok.ok h
end Mine.L04
end

noncomputable section
set_option maxRecDepth 100000
set_option linter.unusedVariables false
namespace Mine.L04
open PySem

/-! the full list of ways -/
noncomputable def S22 (cf : CallF) : Prop := ∀ scr s0 s1 s2 R K, scr.length ≤ 63 → SgOk s0 s1 s2 → 1 ≤ R → R ≤ 4 → (∀ ws : List W, ws.length ≤ 96 → (∀ w ∈ ws, W.ok s0 s1 s2 R w) → K (waysV ws)) → cf 22 [scrV scr, .int 4, sg s0 s1 s2, .int R] K
section
variable {cf : CallF} {scr : List Int} {s0 s1 s2 : List Nat} {R : Int} {cs : Nat → Int}
noncomputable def g22 (scr : List Int) (s0 s1 s2 : List Nat) (R : Int) (cs : Nat → Int) (ws : List W) (a b c : Slot) : Gs := [.v (scrV scr), .v (.int 4), .v (sg s0 s1 s2), .v (.int R), .ownL (ws.map W.v), .v (.list ((List.range 200).map fun i => .int (cs i))), a, b, c, .unset]
theorem next_cell {ws : List W} {a b c : Slot} (hl : ws.length < 200) : Val cf (g22 scr s0 s1 s2 R cs ws a b c) (.nd .sub [vv 5, .nd (.lenL 4) []]) (.int (cs ws.length)) := by
  have hz : (ws.map W.v).length ≤ 1000 := by rw [List.length_map]; omega
  refine val_op (.two (x := .list ((List.range 200).map fun i => .int (cs i))) (fun _ h => h) (val_lenL (l := ws.map W.v) rfl hz)) (n_subL (by rw [List.length_map, List.length_range]; decide) (by omega) ?_)
  rw [List.length_map, Int.toNat_natCast, List.getElem?_map, List.getElem?_range hl]; rfl
theorem loop22 {body : List S} {e : E} {s : List Nat} {a c : Slot} {r : List S} {K : Option V → Gs → Prop} {N : Nat} {ws : List W} {b : Slot} (hs : s.length ≤ 4) (he : Val cf (g22 scr s0 s1 s2 R cs ws a b c) e (text s)) (hN : N < 200) (hl : ws.length + s.length ≤ N) (hw : ∀ w ∈ ws, W.ok s0 s1 s2 R w)
    (turn : ∀ ws x, x ∈ s → ws.length < 200 → ∃ w, W.ok s0 s1 s2 R w ∧ ∀ Kt, (exs cf [] (g22 scr s0 s1 s2 R cs (ws ++ [w]) a (.v (text [x])) c) Kt) → exs cf body (g22 scr s0 s1 s2 R cs ws a (.v (text [x])) c) Kt)
    (done : ∀ ws b, ws.length ≤ N → (∀ w ∈ ws, W.ok s0 s1 s2 R w) → exs cf r (g22 scr s0 s1 s2 R cs ws a b c) K) : exs cf (.mk (.forS 7) [e] body [] :: r) (g22 scr s0 s1 s2 R cs ws a b c) K := by
  refine x_for (xs := charsV s) (P := fun xs G => ∃ ws b, (∀ x ∈ xs, ∃ y, y ∈ s ∧ x = text [y]) ∧ ws.length + xs.length ≤ N ∧ (∀ w ∈ ws, W.ok s0 s1 s2 R w) ∧ G = g22 scr s0 s1 s2 R cs ws a b c) he (seq_text (Nat.le_trans hs (by decide))) ⟨ws, b, fun x m => ?_, by unfold charsV; rw [List.length_map]; exact hl, hw, rfl⟩ (fun G ⟨ws, b, _, hl, hw, e⟩ => ?_) fun x xs' G Kt hP nx _ => ?_
  · obtain ⟨y, my, rfl⟩ := List.mem_map.mp m
    exact ⟨y, my, rfl⟩
  · subst e; exact done ws b hl hw
  · obtain ⟨ws, b, hx, hl, hw, rfl⟩ := hP
    rw [List.length_cons] at hl
    obtain ⟨y, my, rfl⟩ := hx x (.head _)
    obtain ⟨w, ow, h⟩ := turn ws y my (by omega)
    refine h Kt (x_nil (nx _ ⟨ws ++ [w], _, fun x m => hx x (.tail _ m), by rw [List.length_append, List.length_singleton]; omega, fun u m => ?_, rfl⟩))
    rcases List.mem_append.mp m with m | m
    · exact hw u m
    · cases List.mem_singleton.mp m; exact ow
theorem app22 {ws : List W} {a b c : Slot} {e : E} {w : W} {K : Option V → Gs → Prop} (hl : ws.length < 200) (h : Val cf (g22 scr s0 s1 s2 R cs ws a b c) e w.v) (n : exs cf [] (g22 scr s0 s1 s2 R cs (ws ++ [w]) a b c) K) : exs cf [.mk (.append 4) [e] [] []] (g22 scr s0 s1 s2 R cs ws a b c) K := by
  refine x_append (l := ws.map W.v) rfl h (Nat.lt_of_le_of_lt (m := 1000) (by rw [List.length_map]; omega) (by decide)) ?_
  unfold g22 at n
  rw [List.map_append] at n
  exact n
theorem turn22 {r : List S} {K : Option V → Gs → Prop} {ws : List W} {i : Int} {b c : Slot} (sk : SgOk s0 s1 s2) (r1 : 1 ≤ R) (r4 : R ≤ 4) (hi : In R i) (hl : ws.length ≤ 72) (hw : ∀ w ∈ ws, W.ok s0 s1 s2 R w)
    (done : ∀ ws' b c, ws'.length ≤ ws.length + 24 → (∀ w ∈ ws', W.ok s0 s1 s2 R w) → exs cf r (g22 scr s0 s1 s2 R cs ws' (.v (.int i)) b c) K) : exs cf (f22c5 ++ r) (g22 scr s0 s1 s2 R cs ws (.v (.int i)) b c) K := by
  have la := sk.la
  have lb := sk.lb
  have lc := sk.lc
  have in' : ∀ x : Int, In R (x.fmod R) := fun x => ⟨fmod_lo x (by omega), fmod_hi x (by omega)⟩
  have md : ∀ {ws : List W} {a b c : Slot}, ws.length < 200 → Val cf (g22 scr s0 s1 s2 R cs ws a b c) (.nd (.bin .Mod) [.nd .sub [vv 5, .nd (.lenL 4) []], vv 3]) (.int ((cs ws.length).fmod R)) := fun h => val_op (.two (next_cell h) (y := .int R) fun _ h => h) (n_mod (by omega))
  refine loop22 (N := ws.length + 4) (s := s2) lc (fun _ h => h) (by omega) (by omega) hw (fun ws x mx hl => ⟨.on i x ((cs ws.length).fmod R), ⟨hi, mx, in' _⟩, fun Kt n => app22 hl (val_op (.cons (fun _ h => h) (.cons (fun _ h => h) (.two (fun _ h => h) (md hl)))) rfl) n⟩) fun ws1 b1 h1 hw1 => ?_
  refine loop22 (N := ws.length + 8) (s := s0) la (fun _ h => h) (by omega) (by omega) hw1 (fun ws x mx hl => ⟨.op i x ((cs ws.length).fmod R) (((cs ws.length).fdiv 4).fmod R), ⟨hi, mx, in' _, in' _⟩, fun Kt n => app22 hl (val_op (.cons (fun _ h => h) (.cons (fun _ h => h) (.cons (fun _ h => h) (.two (md hl) (val_op (.two (val_op (.two (next_cell hl) fun _ h => h) (n_div (by decide) (by decide))) (y := .int R) fun _ h => h) (n_mod (by omega))))))) rfl) n⟩) fun ws2 b2 h2 hw2 => ?_
  refine x_for (xs := rangeL 0 R) (P := fun xs G => ∃ ws' b c, (∀ x ∈ xs, ∃ j : Int, In R j ∧ x = .int j) ∧ ws'.length + 4 * xs.length ≤ ws.length + 24 ∧ (∀ w ∈ ws', W.ok s0 s1 s2 R w) ∧ G = g22 scr s0 s1 s2 R cs ws' (.v (.int i)) b c) (val_range (n := R) (fun _ h => h) (by omega) (by omega)) (seq_range (by omega)) ⟨ws2, b2, c, fun x m => ?_, by rw [range_len]; omega, hw2, rfl⟩ (fun G ⟨ws', b, c, _, hl, hw, e⟩ => ?_) fun x xs' G Kt hP nx _ => ?_
  · rw [range_eq] at m
    obtain ⟨j, mj, rfl⟩ := List.mem_map.mp m
    have := List.mem_range.mp mj
    exact ⟨_, ⟨by omega, by omega⟩, rfl⟩
  · subst e; exact done ws' b c hl hw
  · obtain ⟨ws', b, c, hx, hl', hw', rfl⟩ := hP
    rw [List.length_cons] at hl'
    obtain ⟨j, hj, rfl⟩ := hx x (.head _)
    exact loop22 (N := ws'.length + 4) (s := s1) (c := .v (.int j)) lb (fun _ h => h) (by omega) (by omega) hw' (fun ws x mx hl => ⟨.cl i j x ((cs ws.length).fmod R), ⟨hi, hj, mx, in' _⟩, fun Kt n => app22 hl (val_op (.cons (fun _ h => h) (.cons (fun _ h => h) (.cons (fun _ h => h) (.two (fun _ h => h) (md hl))))) rfl) n⟩) fun ws3 b3 h3 hw3 => x_nil (nx _ ⟨ws3, b3, _, fun x m => hx x (.tail _ m), by omega, hw3, rfl⟩)
end
theorem p22 (cf : CallF) (h15 : S15 cf) (h16 : S16 cf) : S22 (step cf) := fun scr s0 s1 s2 R K hs sk r1 r4 h => by
  refine run (fn := f22) rfl rfl rfl (x_own0 ?_)
  obtain ⟨cs, hcs⟩ : ∃ cs : Nat → Int, ∀ i : Nat, cs i = mixI (cellI scr (4 + (0 + (i : Int)).fmod 40)) (0 + i) := ⟨_, fun _ => rfl⟩
  refine x_assign (v := .list ((List.range 200).map fun i : Nat => .int (cs i))) (val_comp0 (ws := List.range 200) (val_range (n := 200) (fun _ h => h) (by decide) (by decide)) ((seq_range (by decide)).trans (congrArg some (range_eq 200))) fun i m => ?_) ?_
  · have := fmod_lo (0 + (i : Int)) (b := 40) (by decide)
    rw [hcs]
    exact val_call (.two (val_call (vs := [scrV scr, .int (4 + (0 + (i : Int)).fmod 40)]) (.two (fun _ h => h) fun _ h => h) fun K h => h15 scr _ K hs (by omega) h) (y := .int (0 + (i : Int))) fun _ h => h) fun K h => h16 _ _ K h
  refine x_for (xs := rangeL 0 R) (P := fun xs G => ∃ ws a b c, (∀ x ∈ xs, ∃ j : Int, In R j ∧ x = .int j) ∧ ws.length + 24 * xs.length ≤ 96 ∧ (∀ w ∈ ws, W.ok s0 s1 s2 R w) ∧ G = g22 scr s0 s1 s2 R cs ws a b c) (val_range (n := R) (fun _ h => h) (by omega) (by omega)) (seq_range (by omega)) ⟨[], .unset, .unset, .unset, fun x m => ?_, by rw [range_len, List.length_nil]; omega, fun w m => (nomatch m), rfl⟩ (fun G ⟨ws, a, b, c, _, hl, hw, e⟩ => ?_) fun x xs' G Kt hP nx _ => ?_
  · rw [range_eq] at m
    obtain ⟨j, mj, rfl⟩ := List.mem_map.mp m
    have := List.mem_range.mp mj
    exact ⟨_, ⟨by omega, by omega⟩, rfl⟩
  · subst e
    exact x_freeze (l := ws.map W.v) rfl (x_ret (fun _ h => h) (h ws hl hw))
  · obtain ⟨ws, a, b, c, hx, hl, hw, rfl⟩ := hP
    rw [List.length_cons] at hl
    obtain ⟨j, hj, rfl⟩ := hx x (.head _)
    exact turn22 (r := []) (b := b) (c := c) sk r1 r4 hj (by omega) hw fun ws' b c hl' hw' => x_nil (nx _ ⟨ws', _, b, c, fun x m => hx x (.tail _ m), by omega, hw', rfl⟩)
end Mine.L04
end

noncomputable section
set_option maxRecDepth 100000
set_option linter.unusedVariables false
namespace Mine.L04
open PySem

theorem few_of {α : Type} : ∀ {us ws : List α}, us.Nodup → (∀ u ∈ us, u ∈ ws) → us.length ≤ ws.length
  | [], _, _, _ => Nat.zero_le _
  | u :: us, ws, h, s => by
    obtain ⟨h1, h2⟩ := List.nodup_cons.mp h
    obtain ⟨a, b, rfl⟩ := List.append_of_mem (s u (.head _))
    have := few_of (ws := a ++ b) h2 fun x m => by
      rcases List.mem_append.mp (s x (.tail _ m)) with q | q
      · exact List.mem_append_left _ q
      · rcases List.mem_cons.mp q with q | q
        · exact absurd (q ▸ m) h1
        · exact List.mem_append_right _ q
    rw [List.length_append] at this ⊢
    rw [List.length_cons, List.length_cons]; omega
theorem preimage {ws : List W} : ∀ {r : List V}, (∀ y ∈ r, y ∈ ws.map W.v) → ∃ us : List W, r = us.map W.v ∧ ∀ u ∈ us, u ∈ ws
  | [], _ => ⟨[], rfl, fun u m => nomatch m⟩
  | y :: r, h => by
    obtain ⟨us, rfl, hu⟩ := preimage (r := r) fun y m => h y (.tail _ m)
    obtain ⟨w, mw, rfl⟩ := List.mem_map.mp (h y (.head _))
    exact ⟨w :: us, rfl, fun u m => by cases m with | head => exact mw | tail _ m => exact hu u m⟩
theorem c_neB {b : Bool} : cmpOp .NotEq (.bool b) (.bool b) = some false := by cases b <;> rfl
section
variable {cf : CallF} {scr : List Int} {s0 s1 s2 : List Nat} {R : Int}
theorem tail24 (h14 : S14 cf) (h21 : S21 cf) (h23 : S23 cf) {st en : List Int} {ws : List W} {g0 g1 g2 g3 g5 g6 g7 g8 g9 g10 g11 g12 : Slot} {K : V → Prop} (sk : SgOk s0 s1 s2) (ok : PartsOk s0 s1 s2 R st en ws) (h : K (.bool true)) :
    exs cf (f24.body.drop 5) [g0, g1, g2, g3, .v (partsV (sg s0 s1 s2) R st en ws), g5, g6, g7, g8, g9, g10, g11, g12] fun fl _ => K (fl.getD .none) := by
  have r1 := ok.r1
  have r4 := ok.r4
  have l1 := ok.st.len
  have l3 := ok.len
  refine x_assignK (ev_callK (.one (v := partsV (sg s0 s1 s2) R st en ws) fun _ h => h) (h21 s0 s1 s2 R st en ws _ sk ok fun st' en' r p3 p4 hn hm => ?_))
  obtain ⟨us, rfl, hu⟩ := preimage fun y m => (hm y).mp m
  have nd : us.Nodup := (List.pairwise_map.mp hn).imp fun h e => h (by rw [e])
  have lu := few_of nd hu
  have hmem : ∀ w, w ∈ us ↔ w ∈ ws := fun w => ⟨hu w, fun m => by
    obtain ⟨u, mu, e⟩ := List.mem_map.mp ((hm w.v).mpr (List.mem_map.mpr ⟨w, m, rfl⟩))
    exact v_inj' e ▸ mu⟩
  refine x_for (xs := rangeL 0 2) (P := fun xs G => ∃ a b, G = [g0, g1, g2, g3, .v (partsV (sg s0 s1 s2) R st en ws), g5, g6, g7, g8, .v (machV (sg s0 s1 s2) R st' en' (us.map W.v)), a, b, g12]) (val_range (n := 2) (fun _ h => h) (by decide) (by decide)) (seq_range (by decide)) ⟨_, _, rfl⟩ (fun G ⟨a, b, e⟩ => ?_) fun x xs' G Kt ⟨a, b, e⟩ nx _ => ?_
  · subst e; exact x_ret (fun _ h => h) h
  · subst e
    refine x_assign (v := .bool (((st'.length : Int) == 1) && plainK (us.map kk) (due s0 s1 s2 R))) (val_call (.one (v := machV (sg s0 s1 s2) R st' en' (us.map W.v)) fun _ h => h) fun K h => h14 s0 s1 s2 R st' en' us K sk r1 (by omega) (by rw [p3.length_eq]; exact l1) (by omega) (fun w m => ok.ok w (hu w m)) h) ?_
    refine x_ifF (val_or (.go (val_not (t := true) fun _ h => h) (.go (val_cmp (fun _ h => h) (val_call (.one (v := partsV (sg s0 s1 s2) R st en ws) fun _ h => h) fun K h => h23 s0 s1 s2 R st en ws (((st'.length : Int) == 1) && plainK (us.map kk) (due s0 s1 s2 R)) K sk r1 (by omega) l1 (by omega) ok.ok (fun ds hd md => ?_) h) c_neB) .nil))) (x_nil (nx _ ⟨_, _, rfl⟩))
    rw [p3.length_eq, plain_perm (((List.perm_ext_iff_of_nodup hd nd).mpr fun w => (md w).trans (hmem w).symm).map kk)]
theorem end_min {d n : Nat} {i : Int} (h0 : 0 ≤ i) : endO d n (some (.int i)) = some (min i.toNat n) := by
  show some (if 0 ≤ i then min i.toNat n else _) = _
  rw [if_pos h0]
theorem n_addL {a b : List V} (h : (a ++ b).length ≤ 1000) : opN (.bin .Add) [.list a, .list b] = some (.list (a ++ b)) := if_pos (sz_of h)
noncomputable def W.up (R : Int) : W → W
  | .on a c b => .on a c ((b + 1).fmod R)
  | .op a c b t => .op a c b ((t + 1).fmod R)
  | .cl a b c t => .cl a b c ((t + 1).fmod R)
noncomputable def g24 (scr : List Int) (sv : V) (R cell : Int) (p : V) (ws : List W) (en : List Int) (at' : Int) (s8 : Slot) : Gs := [.v (scrV scr), .v sv, .v (.int R), .v (.int cell), .v p, .v (waysV ws), .v (roomsV en), .v (.int at'), s8, .unset, .unset, .unset, .unset]
theorem ifs24 {cell at' : Int} {en st : List Int} {ws : List W} {s8 : Slot} {K : Option V → Gs → Prop} {r : List S} (sk : SgOk s0 s1 s2) (ok : PartsOk s0 s1 s2 R st en ws) (l96 : ws.length ≤ 96) (h0 : 0 ≤ at') (h1 : ws ≠ [] → at' < ws.length)
    (done : ∀ st' ws' s8, PartsOk s0 s1 s2 R st' en ws' → exs cf r (g24 scr (sg s0 s1 s2) R cell (partsV (sg s0 s1 s2) R st' en ws') ws en at' s8) K) :
    exs cf (f24c3.drop 4 ++ r) (g24 scr (sg s0 s1 s2) R cell (partsV (sg s0 s1 s2) R st en ws) ws en at' s8) K := by
  have r1 := ok.r1
  have hz : (ws.map W.v).length ≤ 1000 := by rw [List.length_map]; omega
  have q : ∀ {p s8} {k : Int}, Val cf (g24 scr (sg s0 s1 s2) R cell p ws en at' s8) (.nd (.cmp .Eq) [.nd (.bin .Mod) [vv 3, ii 8], ii k]) (.bool (cell.fmod 8 == k)) := fun K h => h
  have k4 : ∀ st' ws' s8, PartsOk s0 s1 s2 R st' en ws' → exs cf (f24c3.drop 7 ++ r) (g24 scr (sg s0 s1 s2) R cell (partsV (sg s0 s1 s2) R st' en ws') ws en at' s8) K := fun st' ws' s8 ok' => by
    refine x_if (val_and (.and q fun _ => .and (val_cmp (x := .int R) (y := .int 1) (fun _ h => h) (fun _ h => h) rfl) fun _ => .nil)) (fun t => ?_) fun _ => done st' ws' s8 ok'
    have hR : 1 < R := of_decide_eq_true ((Bool.and_eq_true _ _).mp ((Bool.and_eq_true _ _).mp t).2).1
    refine x_assign (v := partsV (sg s0 s1 s2) R [0, R - 1] en ws) (fun _ h => h) (done [0, R - 1] ws s8 ⟨r1, ok.r4, ⟨by show 2 ≤ 40; decide, ?_, fun i m => ?_⟩, ok.en, ok.len, ok.ok⟩)
    · exact List.nodup_cons.mpr ⟨fun m => by have := List.mem_singleton.mp m; omega, List.pairwise_singleton _ _⟩
    · rcases List.mem_cons.mp m with rfl | m
      · exact ⟨Int.le_refl _, by omega⟩
      · cases List.mem_singleton.mp m; exact ⟨by omega, by omega⟩
  have k3 : ∀ st' ws' s8, PartsOk s0 s1 s2 R st' en ws' → exs cf (f24c3.drop 6 ++ r) (g24 scr (sg s0 s1 s2) R cell (partsV (sg s0 s1 s2) R st' en ws') ws en at' s8) K := fun st' ws' s8 ok' =>
    x_if q (fun _ => x_assign (v := partsV (sg s0 s1 s2) R [] en ws) (fun _ h => h) (k4 [] ws s8 ⟨r1, ok.r4, ⟨by decide, List.nodup_nil, fun i m => (nomatch m)⟩, ok.en, ok.len, ok.ok⟩)) fun _ => k4 st' ws' s8 ok'
  have k2 : ∀ st' ws' s8, PartsOk s0 s1 s2 R st' en ws' → exs cf (f24c3.drop 5 ++ r) (g24 scr (sg s0 s1 s2) R cell (partsV (sg s0 s1 s2) R st' en ws') ws en at' s8) K := fun st' ws' s8 ok' => by
    refine x_if (val_and (.and q fun _ => .and (val_cmp (x := .list (ws.map W.v)) (fun _ h => h) (fun _ h => h) (list_ne fun x m => ?_)) fun _ => .nil)) (fun t => ?_) fun _ => k3 st' ws' s8 ok'
    · obtain ⟨w, mw, rfl⟩ := List.mem_map.mp m
      exact flat_way sk (ok.ok w mw)
    · have ne : ws ≠ [] := fun e => by subst e; have := ((Bool.and_eq_true _ _).mp ((Bool.and_eq_true _ _).mp t).2).1; cases this
      have hlt : at'.toNat < ws.length := by have := h1 ne; omega
      have hw : (ws.map W.v)[at'.toNat]? = some (W.v ws[at'.toNat]) := by rw [List.getElem?_map, List.getElem?_eq_getElem hlt]; rfl
      have ow := ok.ok _ (List.getElem_mem hlt)
      generalize ws[at'.toNat] = w at hw ow
      refine x_assign (v := w.v) (val_op (.two (x := .list (ws.map W.v)) (fun _ h => h) fun _ h => h) (n_subL hz h0 hw)) ?_
      have hv : Val cf (g24 scr (sg s0 s1 s2) R cell (partsV (sg s0 s1 s2) R st' en ws') ws en at' (.v w.v)) (.nd (.bin .Add) [.nd (.slice false true) [vv 8, .nd .neg [ii 1]], .nd .tuple [.nd (.bin .Mod) [.nd (.bin .Add) [.nd .sub [vv 8, .nd .neg [ii 1]], ii 1], vv 2]]]) (W.up R w).v := by
        cases w with
        | on a c b => exact val_op (.two (x := .tuple [.str kOn, .int a, text [c]]) (fun _ h => h) (val_op (.one (val_op (.two (x := .int (b + 1)) (fun _ h => h) fun _ h => h) (n_mod (by omega)))) rfl)) rfl
        | op a c b t => exact val_op (.two (x := .tuple [.str kOpen, .int a, text [c], .int b]) (fun _ h => h) (val_op (.one (val_op (.two (x := .int (t + 1)) (fun _ h => h) fun _ h => h) (n_mod (by omega)))) rfl)) rfl
        | cl a b c t => exact val_op (.two (x := .tuple [.str kClose, .int a, .int b, text [c]]) (fun _ h => h) (val_op (.one (val_op (.two (x := .int (t + 1)) (fun _ h => h) fun _ h => h) (n_mod (by omega)))) rfl)) rfl
      have in' : ∀ x : Int, In R (x.fmod R) := fun x => ⟨fmod_lo x (by omega), fmod_hi x (by omega)⟩
      refine x_assign (v := partsV (sg s0 s1 s2) R st' en (ws ++ [W.up R w])) ?_ (k3 st' (ws ++ [W.up R w]) _ ⟨r1, ok.r4, ok'.st, ok.en, by rw [List.length_append, List.length_singleton]; omega, fun u m => ?_⟩)
      · unfold partsV waysV
        rw [List.map_append]
        exact val_op (.cons (fun _ h => h) (.cons (fun _ h => h) (.cons (fun _ h => h) (.two (fun _ h => h) (val_op (.two (x := .list (ws.map W.v)) (fun _ h => h) (val_op (.one hv) rfl)) (n_addL (by rw [List.length_append, List.length_singleton, List.length_map]; omega))))))) rfl
      · rcases List.mem_append.mp m with m | m
        · exact ok.ok u m
        · cases List.mem_singleton.mp m
          cases w with
          | on a c b => exact ⟨ow.1, ow.2.1, in' _⟩
          | op a c b t => exact ⟨ow.1, ow.2.1, ow.2.2.1, in' _⟩
          | cl a b c t => exact ⟨ow.1, ow.2.1, ow.2.2.1, in' _⟩
  refine x_if q (fun _ => ?_) fun _ => k2 st ws s8 ok
  have e1 : opN (.slice false true) [.list (ws.map W.v), .int at'] = some (.list ((ws.take (min at'.toNat (ws.map W.v).length)).map W.v)) := by
    rw [List.map_take]
    exact cut_at (l := ws.map W.v) (f := PyData.list) (lo := none) hz rfl (end_min h0) (Nat.zero_le _)
  have e2 : opN (.slice true false) [.list (ws.map W.v), .int (at' + 1)] = some (.list ((ws.drop (min (at' + 1).toNat (ws.map W.v).length)).map W.v)) := by
    have := cut_at (l := ws.map W.v) (f := PyData.list) (hi := none) hz (end_min (i := at' + 1) (by omega)) rfl (Nat.min_le_right _ _)
    rw [List.take_of_length_le (by rw [List.length_drop]; exact Nat.le_refl _)] at this
    rw [List.map_drop]
    exact this
  have hij : min at'.toNat (ws.map W.v).length ≤ min (at' + 1).toNat (ws.map W.v).length := by omega
  generalize min at'.toNat (ws.map W.v).length = i at e1 hij
  generalize min (at' + 1).toNat (ws.map W.v).length = j at e2 hij
  have hl : (ws.take i ++ ws.drop j).length ≤ 96 := by
    rw [List.length_append, List.length_drop, List.length_take]
    omega
  refine x_assign (v := partsV (sg s0 s1 s2) R st en (ws.take i ++ ws.drop j)) ?_ (k2 st (ws.take i ++ ws.drop j) s8 ⟨r1, ok.r4, ok.st, ok.en, by omega, fun u m => ?_⟩)
  · unfold partsV waysV
    rw [List.map_append]
    exact val_op (.cons (fun _ h => h) (.cons (fun _ h => h) (.cons (fun _ h => h) (.two (fun _ h => h) (val_op (.two (val_op (.two (fun _ h => h) fun _ h => h) e1) (val_op (.two (fun _ h => h) (y := .int (at' + 1)) fun _ h => h) e2)) (n_addL (by rw [← List.map_append, List.length_map]; omega))))))) rfl
  · exact (List.mem_append.mp m).elim (fun m => ok.ok u (List.mem_of_mem_take m)) fun m => ok.ok u (List.mem_of_mem_drop m)
theorem block24 (h22 : S22 cf) {cell : Int} {p : V} {K : Option V → Gs → Prop} {r : List S} (hs : scr.length ≤ 63) (sk : SgOk s0 s1 s2) (r1 : 1 ≤ R) (r4 : R ≤ 4)
    (done : ∀ st en ws ws0 at' s8, PartsOk s0 s1 s2 R st en ws → exs cf r (g24 scr (sg s0 s1 s2) R cell (partsV (sg s0 s1 s2) R st en ws) ws0 en at' s8) K) :
    exs cf (f24c3 ++ r) [.v (scrV scr), .v (sg s0 s1 s2), .v (.int R), .v (.int cell), .v p, .unset, .unset, .unset, .unset, .unset, .unset, .unset, .unset] K := by
  refine x_assignK (ev_callK (vs := [scrV scr, .int 4, sg s0 s1 s2, .int R]) (.cons (fun _ h => h) (.cons (fun _ h => h) (.two (fun _ h => h) fun _ h => h))) (h22 scr s0 s1 s2 R _ hs sk r1 r4 fun ws hl hw => ?_))
  refine x_assign (val_rooms (R := R) (p := fun i => (cell.fdiv (0 + (i : Int) + 9)).fmod 2 == 0) (fun _ h => h) (by omega) r4 (fun i hi => val_cmp (val_op (.two (val_op (.two (x := .int cell) (fun _ h => h) (y := .int (0 + (i : Int) + 9)) fun _ h => h) (n_div (by omega) (by omega))) fun _ h => h) (n_mod (by decide))) (fun _ h => h) rfl) fun i => fun _ h => h) ?_
  have oen := pickR_ok (R := R) (p := fun i => (cell.fdiv (0 + (i : Int) + 9)).fmod 2 == 0) r4
  generalize pickR R.toNat (fun i => (cell.fdiv (0 + (i : Int) + 9)).fmod 2 == 0) = en at oen
  have b1 := fmod_lo (cell.fdiv 8) (b := R) (by omega)
  have b2 := fmod_hi (cell.fdiv 8) (b := R) (by omega)
  have hz : (ws.map W.v).length ≤ 1000 := by rw [List.length_map]; omega
  refine x_assign (v := partsV (sg s0 s1 s2) R [(cell.fdiv 8).fmod R] en ws) (val_op (.cons (fun _ h => h) (.cons (fun _ h => h) (.cons (val_op (.one (val_op (.two (x := .int (cell.fdiv 8)) (fun _ h => h) (y := .int R) fun _ h => h) (n_mod (by omega)))) rfl) (.two (fun _ h => h) fun _ h => h)))) rfl) ?_
  have m0 : 0 < max 1 ((ws.map W.v).length : Int) := by omega
  refine x_assign (v := .int ((cell.fdiv 32).fmod (max 1 ((ws.map W.v).length : Int)))) (val_op (.two (x := .int (cell.fdiv 32)) (fun _ h => h) (val_op (.two (x := .int 1) (fun _ h => h) (val_op (.one (v := .list (ws.map W.v)) fun _ h => h) (n_len hz))) rfl)) (n_mod m0)) ?_
  have a1 := fmod_lo (cell.fdiv 32) m0
  have a2 := fmod_hi (cell.fdiv 32) m0
  refine ifs24 sk ⟨r1, r4, ⟨by show 1 ≤ 40; decide, List.pairwise_singleton _ _, fun i m => by cases List.mem_singleton.mp m; exact ⟨b1, b2⟩⟩, oen, by omega, hw⟩ hl a1 (fun ne => ?_) fun st' ws' s8 ok => done st' en ws' ws _ s8 ok
  have := List.length_pos_iff.mpr ne
  have e : (ws.map W.v).length = ws.length := List.length_map ..
  omega
end
noncomputable def S24 (cf : CallF) : Prop := ∀ scr K, scr.length ≤ 63 → K (.bool true) → cf 24 [scrV scr] K
theorem p24 (cf : CallF) (h14 : S14 cf) (h15 : S15 cf) (h16 : S16 cf) (h18 : S18 18 cf) (h20 : S20 cf) (h21 : S21 cf) (h22 : S22 cf) (h23 : S23 cf) : S24 (step cf) := fun scr K hs h => by
  have m1 := fmod_lo (cellI scr 1) (b := 4) (by decide)
  have m2 := fmod_hi (cellI scr 1) (b := 4) (by decide)
  have c15 : ∀ {G a b} {i : Int}, Val cf G a (scrV scr) → Val cf G b (.int i) → 0 ≤ i → Val cf G (.nd (.call 15) [a, b]) (.int (cellI scr i)) := fun ha hb hi => val_call (.two ha hb) fun K h => h15 scr _ K hs hi h
  refine run (fn := f24) rfl rfl rfl ?_
  obtain ⟨s0, s1, s2, sk, h18⟩ := h18 (cellI scr 0)
  refine x_assign (v := sg s0 s1 s2) (val_call (.one (c15 (i := 0) (fun _ h => h) (fun _ h => h) (by decide))) h18) ?_
  generalize hR : 1 + (cellI scr 1).fmod 4 = R
  refine x_assign (v := .int R) (hR ▸ val_op (.two (fun _ h => h) (val_op (.two (c15 (fun _ h => h) (fun _ h => h) (by decide)) fun _ h => h) (n_mod (by decide)))) rfl) ?_
  refine x_assign (val_call (.two (c15 (i := 2) (fun _ h => h) (fun _ h => h) (by decide)) (y := .int 1) fun _ h => h) fun K h => h16 _ _ K h) ?_
  generalize mixI (cellI scr 2) 1 = cell
  refine x_assignK (ev_callK (vs := [scrV scr, .int 3, sg s0 s1 s2, .int 4]) (.cons (fun _ h => h) (.cons (fun _ h => h) (.two (fun _ h => h) fun _ h => h))) (h20 scr s0 s1 s2 _ hs sk fun R' st en ws ok => ?_))
  refine x_if (t := decide (cell.fmod 8 < 7)) (fun _ h => h) (fun _ => block24 h22 hs sk (by omega) (by omega) fun st en ws ws0 at' s8 ok => tail24 h14 h21 h23 sk ok h) fun _ => tail24 h14 h21 h23 sk ok h
theorem step_eq (d : Nat) : step (callN prog d) = callN prog (d + 1) := rfl
theorem up {S : CallF → Prop} {d : Nat} (h : S (step (callN prog d))) : S (callN prog (d + 1)) := step_eq d ▸ h
theorem call24 (scr : List Int) (hs : scr.length ≤ 63) : callN prog 6 24 [.list (scr.map .int)] fun y => y = .bool true := by
  have c0 : ∀ d, S0 (callN prog (d + 1)) := fun d => up (S := S0) (p0 (callN prog d))
  have c1 : ∀ d, S1 (callN prog (d + 2)) := fun d => up (S := S1) (p1 (callN prog (d + 1)) (c0 d))
  have c2 : ∀ d, S2 (callN prog (d + 3)) := fun d => up (S := S2) (p2 (callN prog (d + 2)) (c1 d))
  have c3 : ∀ d, S3 (callN prog (d + 1)) := fun d => up (S := S3) (p3 (callN prog d))
  have c4 : ∀ d, S4 (callN prog (d + 1)) := fun d => up (S := S4) (p4 (callN prog d))
  have c5 : ∀ d, S5 (callN prog (d + 2)) := fun d => up (S := S5) (p5 (callN prog (d + 1)) (c4 d))
  have c6 : ∀ d, S6 (callN prog (d + 2)) := fun d => up (S := S6) (p6 (callN prog (d + 1)) (c3 d) (c4 d))
  have c7 : ∀ d, S7 (callN prog (d + 3)) := fun d => up (S := S7) (p7 (callN prog (d + 2)) (c6 d))
  have c8 : ∀ d, S8 (callN prog (d + 4)) := fun d => up (S := S8) (p8 (callN prog (d + 3)) (c2 d) (c4 (d + 2)) (c5 (d + 1)) (c7 d))
  have c15 : ∀ d, S15 (callN prog (d + 1)) := fun d => up (S := S15) (p15 (callN prog d))
  have c16 : ∀ d, S16 (callN prog (d + 1)) := fun d => up (S := S16) (p16 (callN prog d))
  have c14 : ∀ d, S14 (callN prog (d + 2)) := fun d => up (S := S14) (p14 (callN prog (d + 1)) (fun sv R st en r K h => up (S := fun cf => cf 9 [machV sv R st en r] K) (p9 h)) (fun sv R st en r K h => up (S := fun cf => cf 10 [machV sv R st en r] K) (p10 h)) (fun sv R st en r K h h' => up (S := fun cf => cf 11 [machV sv R st en r] K) (p11 h h')) fun sv R st en r K h h' => up (S := fun cf => cf 13 [machV sv R st en r] K) (p13 h h'))
  have c17 : S18 17 (callN prog 4) := up (S := S18 17) (p17 (callN prog 3))
  have c18 : S18 18 (callN prog 5) := up (S := S18 18) (p18 (callN prog 4) c17)
  have c19 : S19 (callN prog 4) := up (S := S19) (p19 (callN prog 3))
  have c20 : S20 (callN prog 5) := up (S := S20) (p20 (callN prog 4) (c15 3) (c16 3) c19)
  have c21 : S21 (callN prog 5) := up (S := S21) (p21 (callN prog 4) (c8 0))
  have c22 : S22 (callN prog 5) := up (S := S22) (p22 (callN prog 4) (c15 3) (c16 3))
  have c23 : S23 (callN prog 5) := up (S := S23) (p23 (callN prog 4))
  have c24 : S24 (callN prog 6) := up (S := S24) (p24 (callN prog 5) (c14 3) (c15 4) (c16 4) c18 c20 c21 c22 c23)
  exact c24 scr _ hs rfl
end Mine.L04
end

noncomputable section
set_option maxRecDepth 100000
set_option maxHeartbeats 4000000
namespace Mine.L04
open PySem PySem.Calls PyProof.Rows PySem.W
/-! what is asked of the heap behind the text's top -/
noncomputable def Z : Zx := ⟨fnN, conN, fldN, metN⟩
noncomputable def clsA : Addr := 159
noncomputable def fnA : List Addr := [58, 65, 72, 79, 86, 93, 100, 107, 159, 128, 135, 142, 149, 156, 170, 177, 184, 189, 194, 201, 206, 213, 218, 223, 228]
noncomputable def fnB : List Addr := [58, 65, 72, 79, 86, 93, 100, 107, 121, 128, 135, 142, 149, 156, 170, 177, 184, 189, 194, 201, 206, 213, 218, 223, 228]
noncomputable def adrs : List Addr := [3, 1, 159, 158, 58, 65, 72, 79, 86, 93, 100, 107, 121, 128, 135, 142, 149, 156, 170, 177, 184, 189, 194, 201, 206, 213, 218, 223, 228, 57, 64, 71, 78, 85, 92, 99, 106, 120, 127, 134, 141, 148, 155, 169, 176, 183, 188, 193, 200, 205, 212, 217, 222, 227]
noncomputable def nms : List (List Str) := [n0, n1, n2, n3, n4, n5, n6, n7, n8, n9, n10, n11, n12, n13, n14, n15, n16, n17, n18, n19, n20, n21, n22, n23, n24]
noncomputable def fnsChk (K : Frag) : List Fn → List (List Str) → List Addr → Bool
  | [], _, _ => true
  | fn :: r, n :: m, a :: b => fnChk K Z a fn n && fnsChk K r m b
  | _, _, _ => false
noncomputable def chk (K : Frag) : Bool :=
  (K.lookup sysModules).isSome && (clsChk K clsA fldN && (fnN.all (fun p => nsIn K mainGlobals p.1 == some (some (.ref (fnA.getD p.2 0)))) && (conN.all (conChk K) && (bltNames.all (fun p => nsIn K mainGlobals p.1 == some none) && (fnN.all (fun p => keepIn K (.ref (fnA.getD p.2 0))) &&
  (metN.all (metChk K clsA fldN fun f => fnA.getD f 0) && (findIn K (.ref clsA) "__init__" == some (some (.ref 121)) && (typeIn K (.ref 121) == some (.type "function") && fnsChk K prog nms fnB))))))))
noncomputable def fragOf (h : Heap) : List Addr → Frag
  | [] => []
  | a :: r => match h.get? a with
    | some o => (a, o) :: fragOf h r
    | none => fragOf h r
theorem fragOf_in (h : Heap) : ∀ as : List Addr, Frag.In (fragOf h as) h
  | [], a, o, e => nomatch e
  | b :: r, a, o, e => by
    unfold fragOf at e
    cases hb : h.get? b with
    | none => rw [hb] at e; exact fragOf_in h r a o e
    | some p =>
      rw [hb] at e
      by_cases q : a = b
      · subst q
        have : List.lookup a ((a, p) :: fragOf h r) = some p := List.lookup_cons_self
        rw [hb]; exact this.symm.trans e
      · have : List.lookup a ((b, p) :: fragOf h r) = List.lookup a (fragOf h r) := by rw [List.lookup_cons, beq_false_of_ne q]
        exact fragOf_in h r a o (this.symm.trans e)
noncomputable def hook : Hook := ⟨Bool, fun s => chk (fragOf s.heap adrs), fun _ => true, fun _ h => ∃ K : Frag, K.In h ∧ chk K = true, fun _ s e => ⟨fragOf s.heap adrs, fragOf_in _ _, e⟩, fun _ _ _ y k => y.elim fun K x => ⟨K, fun a o e => k a o (x.1 a o e), x.2⟩⟩
theorem fns_of {K : Frag} : ∀ {fns : List Fn} {n : List (List Str)} {A : List Addr}, fnsChk K fns n A = true → ∀ {f : Nat} {fn : Fn}, fns[f]? = some fn → ∃ m, fnChk K Z (A.getD f 0) fn m = true
  | [], _, _, _, _, _, h => nomatch h
  | _ :: _, [], _, e, _, _, _ => nomatch e
  | _ :: _, _ :: _, [], e, _, _, _ => nomatch e
  | fn :: r, n :: m, a :: b, e, 0, _, h => by cases h; exact ⟨n, (a2 e).1⟩
  | fn :: r, n :: m, a :: b, e, f + 1, _, h => fns_of (a2 e).2 (f := f) h
theorem init_ok : (List.range 25).all (fun f => (prog[f]?).all fun fn => if fn.init = true then f == 8 else fnB.getD f 0 == fnA.getD f 0) = true := rfl
theorem init_at {f : Nat} {fn : Fn} (h : prog[f]? = some fn) : (if fn.init = true then f == 8 else fnB.getD f 0 == fnA.getD f 0) = true := by
  have := List.all_eq_true.mp init_ok f (List.mem_range.mpr (List.getElem?_eq_some_iff.mp h).1)
  rw [h] at this
  exact this
theorem call_of {g : Gl} (KX : g.K.In g.h0) (e : chk g.K = true) (hf : g.fn = fun f => fnA.getD f 0) (hC : g.C = clsA) (hfl : g.flds = fldN) (hfn : g.fns = fnN) (hcn : g.cons = conN) (hP : g.P = prog) (hm : g.h0.Ns mainGlobals g.mg) (hb : g.h0.Ns builtinsNs g.mb) (hl : g.h0.NoLimit) (hbt : ∀ x : Str, x ≠ "__name__" → g.mb x = bootBuiltins x) (d : Nat) :
    Ground g ∧ CallOk g (callN g.P d) d := by
  obtain ⟨e1, e⟩ := a2 e
  obtain ⟨e2, e⟩ := a2 e
  obtain ⟨e3, e⟩ := a2 e
  obtain ⟨e4, e⟩ := a2 e
  obtain ⟨e5, e⟩ := a2 e
  obtain ⟨e6, e⟩ := a2 e
  obtain ⟨e7, e⟩ := a2 e
  obtain ⟨e8, e⟩ := a2 e
  obtain ⟨e9, e10⟩ := a2 e
  have gr : Mine.Ground g := ground_of KX hm hb hl hbt e1 (by rw [hC, hfl]; exact e2) (by rw [hfn, hf]; exact e3) (by rw [hcn]; exact e4) e5
  have ok : GOk g Z := gok_of hfn hcn hfl (by rw [hf]; exact e6) (by rw [hC, hfl, hf]; exact e7)
  refine ⟨gr, callOk_all ok gr (fun f fn h hi => ?_) (fun f fn h hi => ?_) d⟩
  · rw [hP] at h
    obtain ⟨m, q⟩ := fns_of e10 h
    have i := init_at h
    rw [hi, if_neg Bool.false_ne_true] at i
    rw [eq_of_beq i] at q
    exact fnAt_of KX (by rw [hf]; exact q)
  · rw [hP] at h
    obtain ⟨m, q⟩ := fns_of e10 h
    have i := init_at h
    rw [hi, if_pos rfl] at i
    obtain rfl := eq_of_beq i
    obtain ⟨fd, body, nm, F⟩ := fnAt_of (g := g) KX q
    exact ⟨by rw [hf, hC]; rfl, ⟨121, fd, body, nm, by rw [hC]; exact eq_of_beq e8, eq_of_beq e9, F⟩⟩
end Mine.L04
end

noncomputable section
open PySem PySem.W PyProof.Rows
set_option maxRecDepth 100000
set_option maxHeartbeats 8000000
namespace Mine.L04
theorem said : PySem.Challenge.rw_uf010006_04.wellSaid = true := by kernel_rfl
theorem law04 : PySem.Challenge.rw_uf010006_04.Holds := by
  w_on
  refine holds_law said fun said => ?_
  o_head hook
  case hw => w_witness2
  intro w s₀ s₁ mg mb G Y fa o pm cd doc dV kV ho hd hcd hD hmg hg args vals as hpre hlay hrd hwl hlo
  obtain ⟨K, KX, e⟩ := Y
  have c := call_of (g := ⟨PySem.Challenge.rw_uf010006_04.row.prog, w, s₁.heap, mg, mb, fun f => fnA.getD f 0, clsA, K, fldN, s₁.os, prog, fnN, conN⟩) KX e rfl rfl rfl rfl rfl rfl G.T.g G.T.b G.T.nolimit G.T.builtins 6
  have hm : some (Value.ref fa) = some (Value.ref 228) := hmg.symm.trans (c.1.fns "law" 24 rfl)
  cases hm
  exact law_ends (l := PySem.Challenge.rw_uf010006_04) rfl rfl c.2 rfl rfl rfl hg (f := 24) (by decide) hpre hwl (fun scr hs => call24 scr hs)
end Mine.L04
theorem PySem.Challenge.cw_uf010006_04_holds : PySem.Challenge.rw_uf010006_04.Holds :=
  Mine.L04.law04
end

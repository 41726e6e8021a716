import PyProof.Rows.All
import Wide.All
import OpenK.AllK
import Wide.FinOn
import HandS.ForMost
import HandS.ForExc
import HandS.EndBits
import HandS.Flow
import HandS.TryOnly
import HandS.TryMany
import HandS.DictComp
import HandS.SetKeys
import HandS.Strs
import HandS.StrMore
import HandS.StrSplit
import HandS.Conv
import HandS.Codes
import HandS.IsInst
import HandS.TupAny
import HandS.TupMul
import HandS.Defaults
import HandS.ExcInit
import HandS.WideBits
import KE.DataEq
import KE.SortData
import KE.LtData
import HandS.Style
import PyProof.ListStr
import PyProof.TupleOfStr
import PyProof.Rows.SortWalk
import PyProof.Rows.RegReprOcc
import HandS.ExcIs
import KE.GoesEnum
import KE.GoesMore
import PyProof.Rows.StrRev
import PyProof.Rows.StrFit
import PySem.Challenge.RW_leastwords_k04_whole_turns_of_words
set_option Elab.async false
set_option linter.all false
set_option maxRecDepth 100000
set_option maxHeartbeats 4000000
set_option autoImplicit false
/-! Mr: values without addresses, states, results, operations: what the given program computes, told by plain functions. -/
namespace Mr
noncomputable section
inductive PV where
  | non | bl (b : Bool) | int (i : Int) | str (l : List Nat)
  | tup (l : List PV) | lst (l : List PV)
  | dct (t : Bool) (ks vs : List PV) | set (l : List PV)
  | scr (l : List PV) | obj (i : Nat) | fn (n : String) | clo (n : Nat) (l : List PV) | ty (n : String)
  deriving Inhabited
/-- a thing that changes -/
inductive PO where
  | lst (l : List PV) | dct (t : Bool) (ks vs : List PV) | ins (c : String) (fs : List (String × PV))
structure MS where
  n : Nat
  m : Nat → Option PO
inductive Res (α : Type) where
  | ok (a : α) (s : MS)
  | exc (c : String) (v : PV) (s : MS)
  | stuck
abbrev Env := List (Option PV)
abbrev EX := Env → MS → Res PV
abbrev ET := Env → MS → Res Bool
abbrev FN := List PV → MS → Res PV
inductive SRes where
  | nx (e : Env) (s : MS) | rt (v : PV) (s : MS) | bk (e : Env) (s : MS) | ct (e : Env) (s : MS)
  | ex (c : String) (v : PV) (e : Env) (s : MS) | stuck
abbrev SX := Env → MS → SRes
def Res.bind {α β : Type} (r : Res α) (k : α → MS → Res β) : Res β := match r with
  | .ok a s => k a s
  | .exc c v s => .exc c v s
  | .stuck => .stuck
@[simp] theorem bind_ok {α β : Type} (a : α) (s : MS) (k : α → MS → Res β) : (Res.ok a s).bind k = k a s := rfl
@[simp] theorem bind_exc {α β : Type} (c : String) (v : PV) (s : MS) (k : α → MS → Res β) : (Res.exc c v s : Res α).bind k = .exc c v s := rfl
@[simp] theorem bind_stuck {α β : Type} (k : α → MS → Res β) : (Res.stuck : Res α).bind k = .stuck := rfl
def Res.sbind {α : Type} (r : Res α) (e : Env) (k : α → MS → SRes) : SRes := match r with
  | .ok a s => k a s
  | .exc c v s => .ex c v e s
  | .stuck => .stuck
@[simp] theorem sbind_ok {α : Type} (a : α) (s : MS) (e : Env) (k : α → MS → SRes) : (Res.ok a s).sbind e k = k a s := rfl
@[simp] theorem sbind_exc {α : Type} (c : String) (v : PV) (s : MS) (e : Env) (k : α → MS → SRes) : (Res.exc c v s : Res α).sbind e k = .ex c v e s := rfl
@[simp] theorem sbind_stuck {α : Type} (e : Env) (k : α → MS → SRes) : (Res.stuck : Res α).sbind e k = .stuck := rfl
def ofO {α : Type} : Option α → MS → Res α
  | some v, s => .ok v s
  | none, _ => .stuck
@[simp] theorem ofO_some {α : Type} (v : α) (s : MS) : ofO (some v) s = .ok v s := rfl
@[simp] theorem ofO_none {α : Type} (s : MS) : (ofO none s : Res α) = .stuck := rfl
/-- the longest list or text; told by its equation alone, so that nothing counts up to it -/
def LIM : Nat := Classical.choose (⟨16777216, rfl⟩ : ∃ n : Nat, n = 16777216)
theorem LIM_eq : LIM = 16777216 := Classical.choose_spec (⟨16777216, rfl⟩ : ∃ n : Nat, n = 16777216)
/-- what is read where a value stands -/
def deref (s : MS) : PV → PV
  | .obj i => match s.m i with
    | some (.lst l) => .lst l
    | some (.dct t ks vs) => .dct t ks vs
    | _ => .obj i
  | v => v
/-! ### operations -/
def truth : PV → Option Bool
  | .non => some false
  | .bl b => some b
  | .int i => some (i != 0)
  | .str l => if l.length ≤ LIM then some (!l.isEmpty) else none
  | .tup l => some (!l.isEmpty)
  | .lst l => some (!l.isEmpty)
  | _ => none
/-- between -2^k and 2^k, sealed -/
def fits (k : Nat) : Int → Bool := Classical.choose (⟨fun i => decide (-(2 ^ k) < i) && decide (i < 2 ^ k), rfl⟩ : ∃ f : Int → Bool, f = fun i => decide (-(2 ^ k) < i) && decide (i < 2 ^ k))
theorem fits_iff {k : Nat} {i : Int} : fits k i = true ↔ -(2 ^ k) < i ∧ i < 2 ^ k := by
  have h : fits k = _ := Classical.choose_spec (⟨fun i => decide (-(2 ^ k) < i) && decide (i < 2 ^ k), rfl⟩ : ∃ f : Int → Bool, f = fun i => decide (-(2 ^ k) < i) && decide (i < 2 ^ k))
  rw [h, Bool.and_eq_true, decide_eq_true_eq, decide_eq_true_eq]
def small (i : Int) : Bool := fits 64 i
def pAdd : PV → PV → Option PV
  | .int i, .int j => some (.int (i + j))
  | .str a, .str b => if a.length + b.length ≤ LIM then some (.str (a ++ b)) else none
  | .tup a, .tup b => if a.length + b.length ≤ LIM then some (.tup (a ++ b)) else none
  | .lst a, .lst b => if a.length + b.length ≤ LIM then some (.lst (a ++ b)) else none
  | _, _ => none
def pSub : PV → PV → Option PV
  | .int i, .int j => some (.int (i - j))
  | _, _ => none
def pMul : PV → PV → Option PV
  | .int i, .int j => if small i || small j then some (.int (i * j)) else none
  | .str a, .int k => if a.length * k.toNat ≤ LIM ∧ fits 62 k = true then some (.str (List.replicate k.toNat a).flatten) else none
  | .lst a, .int k => if a.length * k.toNat ≤ LIM ∧ fits 62 k = true then some (.lst (List.replicate k.toNat a).flatten) else none
  | _, _ => none
def pFdiv : PV → PV → Option PV
  | .int i, .int j => if 0 < j ∧ fits 30 j = true then some (.int (i / j)) else none
  | _, _ => none
def pMod : PV → PV → Option PV
  | .int i, .int j => if 0 < j then some (.int (i % j)) else none
  | _, _ => none
def pPow : PV → PV → Option PV
  | .int i, .int j => if 0 ≤ j ∧ fits 19 j = true ∧ fits 64 i = true then some (.int (i ^ j.toNat)) else none
  | _, _ => none
def pNeg : PV → Option PV
  | .int i => some (.int (-i))
  | _ => none
/-! data -/
mutual
def isD : PV → Bool
  | .non | .bl _ | .int _ | .str _ => true
  | .tup l | .lst l => isDs l
  | _ => false
def isDs : List PV → Bool
  | [] => true
  | x :: xs => isD x && isDs xs
end
mutual
def dep : PV → Nat
  | .tup l | .lst l => deps l + 1
  | _ => 0
def deps : List PV → Nat
  | [] => 0
  | x :: xs => max (dep x) (deps xs)
end
mutual
/-- == of data: bools are the ints 0 and 1 -/
def eqB : PV → PV → Bool
  | .non, .non => true
  | .bl a, .bl b => a == b
  | .bl a, .int b => (if a then 1 else 0) == b
  | .int a, .bl b => a == (if b then 1 else 0)
  | .int a, .int b => a == b
  | .str a, .str b => a == b
  | .tup a, .tup b => eqBs a b
  | .lst a, .lst b => eqBs a b
  | _, _ => false
def eqBs : List PV → List PV → Bool
  | [], [] => true
  | x :: xs, y :: ys => eqB x y && eqBs xs ys
  | _, _ => false
end
def pEq (x y : PV) : Option Bool := if isD x && isD y && decide (min (dep x) (dep y) ≤ 64) then some (eqB x y) else none
def pNe (x y : PV) : Option Bool := (pEq x y).map (!·)
mutual
/-- data that can be compared, place by place -/
def alikeB : PV → PV → Bool
  | .non, .non => true
  | .bl _, .bl _ => true
  | .int _, .int _ => true
  | .str _, .str _ => true
  | .tup a, .tup b => alikeBs a b
  | .lst a, .lst b => alikeBs a b
  | _, _ => false
def alikeBs : List PV → List PV → Bool
  | x :: xs, y :: ys => alikeB x y && alikeBs xs ys
  | [], _ => true
  | _ :: _, [] => true
end
mutual
def ltB : PV → PV → Bool
  | .bl a, .bl b => !a && b
  | .int a, .int b => decide (a < b)
  | .str a, .str b => decide (a < b)
  | .tup a, .tup b => ltBs a b
  | .lst a, .lst b => ltBs a b
  | _, _ => false
def ltBs : List PV → List PV → Bool
  | [], [] => false
  | [], _ :: _ => true
  | _ :: _, [] => false
  | x :: xs, y :: ys => if eqB x y then ltBs xs ys else ltB x y
end
def pLt : PV → PV → Option Bool
  | .int a, .int b => some (decide (a < b))
  | .str a, .str b => some (decide (a < b))
  | .tup a, .tup b => if isDs a && isDs b && alikeBs a b && decide (min (deps a) (deps b) ≤ 60) then some (ltBs a b) else none
  | _, _ => none
def qLt : PV → PV → Option Bool
  | .int a, .int b => some (decide (a < b))
  | .str a, .str b => some (decide (a < b))
  | _, _ => none
def pGt (x y : PV) : Option Bool := qLt y x
def pLe (x y : PV) : Option Bool := (qLt y x).map (!·)
def pGe (x y : PV) : Option Bool := (qLt x y).map (!·)
def isNon : PV → Bool
  | .non => true
  | _ => false
def isBl (c : Bool) : PV → Bool
  | .bl a => a == c
  | _ => false
/-- is: None, and the bools -/
def pIs (x : PV) : PV → Option Bool
  | .non => some (isNon x)
  | .bl b => some (isBl b x)
  | _ => none
def pIsN (x y : PV) : Option Bool := (pIs x y).map (!·)
/-- a text within another one -/
def isIn (a : List Nat) : List Nat → Bool
  | [] => a.isEmpty
  | x :: xs => a.isPrefixOf (x :: xs) || isIn a xs
def seqOf : PV → Option (List PV)
  | .tup l | .lst l | .scr l => some l
  | _ => none
def pIn (x y : PV) : Option Bool := match y with
  | .str b => match x with
    | .str [c] => some (b.contains c)
    | .str a => some (isIn a b)
    | _ => none
  | .tup l | .lst l => if isD x && isDs l && decide (min (deps l) (dep x) ≤ 64) then some (l.any fun y => eqB y x) else none
  | _ => none
def pNin (x y : PV) : Option Bool := (pIn x y).map (!·)
/-! places -/
def sIx (n d : Nat) : Option Int → Nat
  | none => d
  | some v => if v < 0 then (v + (n : Int)).toNat else min v.toNat n
def cutL {α : Type} (xs : List α) (lo hi : Option Int) : List α := (xs.drop (sIx xs.length 0 lo)).take (sIx xs.length xs.length hi - sIx xs.length 0 lo)
def ixL (n : Nat) (i : Int) : Option Nat := if 0 ≤ i then (if i < n then some i.toNat else none) else if -(n : Int) ≤ i then some (i + n).toNat else none
def atL {α : Type} (xs : List α) (i : Int) : Option α := (ixL xs.length i).bind fun j => xs[j]?
def aeq : PV → PV → Bool
  | .int i, .int j => i == j
  | .str a, .str b => a == b
  | _, _ => false
def aeqs : List PV → List PV → Bool
  | [], [] => true
  | x :: xs, y :: ys => aeq x y && aeqs xs ys
  | _, _ => false
def keq : PV → PV → Bool
  | .tup a, .tup b => aeqs a b
  | x, y => aeq x y
def isAt : PV → Bool
  | .int _ | .str _ => true
  | _ => false
/-- what may be a key of a dict of that kind -/
def isKey (t : Bool) : PV → Bool
  | .int _ | .str _ => !t
  | .tup l => t && l.all isAt
  | _ => false
def dget : List PV → List PV → PV → Option PV
  | k :: ks, v :: vs, x => if keq k x then some v else dget ks vs x
  | _, _, _ => none
def dset : List PV → List PV → PV → PV → List PV
  | k :: ks, v :: vs, x, y => (if keq k x = true then y else v) :: dset ks vs x y
  | _, _, _, _ => []
def dput (ks vs : List PV) (x y : PV) : List PV × List PV := if (ks.any fun k => keq k x) = true then (ks, dset ks vs x y) else (ks ++ [x], vs ++ [y])
def pIx (x y : PV) : Option PV := match x, y with
  | .tup l, .int i => atL l i
  | .lst l, .int i => atL l i
  | .scr l, .int i => atL l i
  | .str l, .int i => if l.length ≤ LIM then (atL l i).map (fun c => .str [c]) else none
  | .dct t ks vs, k => if isKey t k then dget ks vs k else none
  | _, _ => none
def pCut (x : PV) (lo hi : Option Int) : Option PV := match x with
  | .str l => if l.length ≤ LIM then some (.str (cutL l lo hi)) else none
  | .tup l => some (.tup (cutL l lo hi))
  | .lst l => some (.lst (cutL l lo hi))
  | .scr l => some (.lst (cutL l lo hi))
  | _ => none
def pRev (x : PV) : Option PV := match x with
  | .str l => if l.length ≤ LIM then some (.str l.reverse) else none
  | .lst l => some (.lst l.reverse)
  | _ => none
/-! built-in functions -/
def tyOf : PV → Option String
  | .non => some "NoneType" | .bl _ => some "bool" | .int _ => some "int" | .str _ => some "str"
  | .tup _ => some "tuple" | .lst _ => some "list" | .dct false _ _ => some "dict"
  | _ => none
def isSub (t c : String) : Bool := t == c || (t == "bool" && c == "int")
def tyNames : List PV → Option (List String)
  | [] => some []
  | .ty n :: r => (tyNames r).map (n :: ·)
  | _ => none
def kinds : List String := ["bool", "int", "str", "tuple", "list", "dict"]
def bIsi : List PV → Option PV
  | [x, .ty c] => (tyOf x).bind fun t => if kinds.contains c then some (.bl (isSub t c)) else none
  | _ => none
def bLen : List PV → Option PV
  | [.str l] => if l.length ≤ LIM then some (.int l.length) else none
  | [.dct false ks _] => some (.int ks.length)
  | [x] => (seqOf x).map fun l => .int l.length
  | _ => none
def allBl : List PV → Option (List Bool)
  | [] => some []
  | .bl b :: r => (allBl r).map (b :: ·)
  | _ => none
def allInt : List PV → Option (List Int)
  | [] => some []
  | .int b :: r => (allInt r).map (b :: ·)
  | _ => none
def allStr : List PV → Option (List (List Nat))
  | [] => some []
  | .str b :: r => (allStr r).map (b :: ·)
  | _ => none
def bAll : List PV → Option PV
  | [.lst l] => (allBl l).map fun bs => .bl (bs.all id)
  | _ => none
def bAny : List PV → Option PV
  | [.lst l] => (allBl l).map fun bs => .bl (bs.any id)
  | _ => none
def bSum : List PV → Option PV
  | [.lst l] => (allInt l).map fun ns => .int ns.sum
  | _ => none
def bAbs : List PV → Option PV
  | [.int i] => some (.int (if i < 0 then -i else i))
  | _ => none
def bInt : List PV → Option PV
  | [.int i] => some (.int i)
  | [.bl b] => some (.int (if b then 1 else 0))
  | _ => none
/-- min, max of two -/
def bMin2 : List PV → Option PV
  | [.int i, .int j] => some (.int (if j < i then j else i))
  | _ => none
def bMax2 : List PV → Option PV
  | [.int i, .int j] => some (.int (if j > i then j else i))
  | _ => none
def bTuple : List PV → Option PV
  | [.tup l] => some (.tup l)
  | [.lst l] => some (.tup l)
  | [.str l] => if l.length ≤ LIM then some (.tup (l.map fun c => .str [c])) else none
  | _ => none
def bList : List PV → Option PV
  | [.tup l] => some (.lst l)
  | [.lst l] => some (.lst l)
  | [.str l] => if l.length ≤ LIM then some (.lst (l.map fun c => .str [c])) else none
  | [.dct false ks _] => some (.lst ks)
  | _ => none
def bDivmod : List PV → Option PV
  | [.int i, .int j] => if 0 < j ∧ fits 30 j = true then some (.tup [.int (i / j), .int (i % j)]) else none
  | _ => none
def leV (x y : PV) : Bool := !ltB y x
def isTupC : PV → Bool
  | .tup (_ :: _) => true
  | _ => false
def isTup : PV → Bool
  | .tup _ => true
  | _ => false
/-- what can be sorted -/
def sortable (l : List PV) : Bool := isDs l && (l.all fun x => l.all fun y => alikeB x y) && ((l.all isTupC) || (l.all fun x => !isNon x && !isTup x)) && decide (deps l ≤ 60) && decide (l.length ≤ LIM)
def sortV (l : List PV) : List PV := l.mergeSort leV
def bSorted : List PV → Option PV
  | [.lst l] => if sortable l then some (.lst (sortV l)) else none
  | [.dct false ks _] => if sortable ks && decide (ks.length < 64) && ks.all (fun k => match k with | .str _ => true | _ => false) then some (.lst (sortV ks)) else none
  | _ => none
def joinL (S : List Nat) : List (List Nat) → List Nat
  | [] => []
  | [p] => p
  | p :: q :: r => p ++ (S ++ joinL S (q :: r))
def mJoin : PV → List PV → Option PV
  | .str a, [.lst l] | .str a, [.tup l] => (allStr l).bind fun ss => if (ss.map (·.length)).sum + ss.length * a.length ≤ LIM then some (.str (joinL a ss)) else none
  | _, _ => none
def mCount : PV → List PV → Option PV
  | .str a, [.str [c]] => some (.int (a.count c))
  | _, _ => none
end
end Mr
/-! how the plain values lie in the machine's heap -/
namespace Mr
noncomputable section
open PySem PySem.Spec PyProof.Rows L2
theorem sizeLIM : LIM = sizeLine := by rw [LIM_eq, sizeLine_eq]
theorem toSz {n : Nat} (h : n ≤ LIM) : n ≤ sizeLine := by rw [sizeLIM] at h; exact h
structure G where
  H : Hp
  Z : Addr → Prop
  ρ : Nat → Addr
  s : MS
def pvKey : Key → PV
  | .inl i => .int i
  | .inr x => .str x.cps.toList
abbrev MG := Str → Option Value
def DkF (R : HO → Prop) (P : List V → Prop) (t : Bool) (ks : List PV) : Prop :=
  (t = false ∧ ∃ kvs : List (Key × V), R (.dK kvs) ∧ ks = kvs.map (fun p => pvKey p.1) ∧ P (kvs.map (·.2))) ∨
  (t = true ∧ ∃ kvs : List (List Key × V), R (.dT kvs) ∧ ks = kvs.map (fun p => PV.tup (p.1.map pvKey)) ∧ P (kvs.map (·.2)))
section
variable (K : PySem.W.Frag) (mg : MG)
def ScrP (g : G) (a : Addr) (vs : List V) : Prop := (∃ o, g.H a = some (.frz o (.lst vs))) ∨
  ∃ (o : Obj) (its : Array Value) (n : Nat), K.lookup a = some o ∧ o.cls = .type "list" ∧ o.dict = none ∧ o.data = .seq its n ∧ its.size ≤ sizeLine ∧ Vals vs its.toList
mutual
def RelP (g : G) : PV → V → Prop
  | .non, v => v = .non
  | .bl b, v => v = .bl b
  | .int i, v => v = .int i
  | .str l, v => v = .str ⟨l.toArray⟩
  | .tup l, v => ∃ a vs, v = .ref a ∧ g.H a = some (.tup vs) ∧ RelPs g l vs
  | .lst l, v => ∃ a vs, v = .ref a ∧ (g.H a = some (.lst vs) ∧ g.Z a) ∧ RelPs g l vs
  | .scr l, v => ∃ a vs, v = .ref a ∧ ScrP K g a vs ∧ RelPs g l vs
  | .dct t ks vs, v => ∃ a, v = .ref a ∧ DkF (fun u => ∃ o, g.H a = some (.frz o u)) (RelPs g vs) t ks
  | .obj i, v => i < g.s.n ∧ v = .ref (g.ρ i)
  | .fn n, v => ∃ f, v = .ref f ∧ mg (Str.ofString n) = some (.ref f)
  | .ty n, v => v = .ty n
  | .set _, _ => False
  | .clo _ _, _ => False
def RelPs (g : G) : List PV → List V → Prop
  | [], vs => vs = []
  | p :: ps, vs => ∃ v r, vs = v :: r ∧ RelP g p v ∧ RelPs g ps r
end
/-- as it is read -/
def RelD (g : G) : PV → V → Prop
  | .lst l, v => ∃ a vs, v = .ref a ∧ g.H a = some (.lst vs) ∧ RelPs K mg g l vs
  | .dct t ks vs, v => ∃ a, v = .ref a ∧ DkF (fun u => Rd g.H a u) (RelPs K mg g vs) t ks
  | p, v => RelP K mg g p v
def RelO (g : G) : PO → Addr → Prop
  | .lst l, a => ∃ vs, g.H a = some (.lst vs) ∧ RelPs K mg g l vs
  | .dct t ks vs, a => DkF (fun u => g.H a = some u) (RelPs K mg g vs) t ks
  | .ins c fs, a => ∃ C dx fv, g.H a = some (.ins C dx fv) ∧ mg (Str.ofString c) = some (.ref C) ∧ fv.map (·.1) = fs.map (fun p => Str.ofString p.1) ∧ RelPs K mg g (fs.map (·.2)) (fv.map (·.2))
structure G.Ok (g : G) : Prop where
  wf : ∀ i, g.s.n ≤ i → g.s.m i = none
  inj : ∀ i j, g.s.m i ≠ none → g.s.m j ≠ none → g.ρ i = g.ρ j → i = j
  out : ∀ i, g.s.m i ≠ none → ¬ g.Z (g.ρ i)
  zd : ∀ a, g.Z a → g.H a ≠ none
  obj : ∀ i o, g.s.m i = some o → RelO K mg g o (g.ρ i)
end
def Live (g : G) (a : Addr) : Prop := ∃ i, g.s.m i ≠ none ∧ g.ρ i = a
structure Ext (g g' : G) : Prop where
  n : g.s.n ≤ g'.s.n
  ρ : ∀ i, i < g.s.n → g'.ρ i = g.ρ i
  Z : ∀ a, g.Z a → g'.Z a
  H : ∀ a o, g.H a = some o → ¬ Live g a → g'.H a = some o
  dom : ∀ a, g.H a ≠ none → g'.H a ≠ none
  zNew : ∀ a, g'.Z a → g.Z a ∨ g.H a = none ∨ Live g a
  mNew : ∀ i, g'.s.m i ≠ none → g.s.m i ≠ none ∨ (g.s.n ≤ i ∧ g.H (g'.ρ i) = none)
section
variable {K : PySem.W.Frag} {mg : MG} {g g' g1 g2 : G}
theorem G.Ok.lt (ok : g.Ok K mg) {i : Nat} (h : g.s.m i ≠ none) : i < g.s.n := by
  rcases Nat.lt_or_ge i g.s.n with q | q
  · exact q
  · exact absurd (ok.wf i q) h
theorem Ext.refl (g : G) : Ext g g := ⟨Nat.le_refl _, fun _ _ => rfl, fun _ h => h, fun _ _ h _ => h, fun _ h => h, fun _ h => .inl h, fun _ h => .inl h⟩
theorem Ext.trans (ok : g.Ok K mg) (ok1 : g1.Ok K mg) (a : Ext g g1) (b : Ext g1 g2) : Ext g g2 := by
  have l1 : ∀ x, g.H x ≠ none → Live g1 x → Live g x := fun x hx ⟨i, hi, e⟩ => by
    rcases a.mNew i hi with q | ⟨_, q⟩
    · exact ⟨i, q, (a.ρ i (ok.lt q)).symm.trans e⟩
    · rw [e] at q; exact absurd q hx
  refine ⟨Nat.le_trans a.n b.n, fun i h => (b.ρ i (Nat.lt_of_lt_of_le h a.n)).trans (a.ρ i h), fun x h => b.Z x (a.Z x h), fun x o h nl => ?_, fun x h => b.dom x (a.dom x h), fun x h => ?_, fun i h => ?_⟩
  · exact b.H x o (a.H x o h nl) fun q => nl (l1 x (by rw [h]; simp) q)
  · rcases b.zNew x h with q | q | q
    · exact a.zNew x q
    · refine .inr (.inl ?_)
      rcases Classical.em (g.H x = none) with z | z
      · exact z
      · exact absurd q (a.dom x z)
    · rcases Classical.em (g.H x = none) with z | z
      · exact .inr (.inl z)
      · exact .inr (.inr (l1 x z q))
  · rcases b.mNew i h with q | ⟨q1, q2⟩
    · rcases a.mNew i q with z | ⟨z1, z2⟩
      · exact .inl z
      · refine .inr ⟨z1, ?_⟩
        rw [b.ρ i (ok1.lt q)]; exact z2
    · refine .inr ⟨Nat.le_trans a.n q1, ?_⟩
      rcases Classical.em (g.H (g2.ρ i) = none) with z | z
      · exact z
      · exact absurd q2 (a.dom _ z)
/-- what kinds stand at live places -/
def Ob : HO → Prop
  | .lst _ => True | .dK _ => True | .dT _ => True | .ins _ _ _ => True | _ => False
theorem G.Ok.kind (ok : g.Ok K mg) {a : Addr} (l : Live g a) : ∃ o, g.H a = some o ∧ Ob o := by
  obtain ⟨i, hi, rfl⟩ := l
  cases e : g.s.m i with
  | none => exact absurd e hi
  | some o =>
    have r := ok.obj i o e
    cases o with
    | lst l => obtain ⟨vs, h, _⟩ := r; exact ⟨_, h, trivial⟩
    | dct t ks vs =>
      rcases r with ⟨_, kvs, h, _⟩ | ⟨_, kvs, h, _⟩
      · exact ⟨_, h, trivial⟩
      · exact ⟨_, h, trivial⟩
    | ins c fs => obtain ⟨C, dx, fv, h, _⟩ := r; exact ⟨_, h, trivial⟩
theorem G.Ok.stay (ok : g.Ok K mg) (x : Ext g g') {a : Addr} {o : HO} (h : g.H a = some o) (hk : ¬ Ob o) : g'.H a = some o :=
  x.H a o h fun l => by
    obtain ⟨u, e, k⟩ := ok.kind l
    rw [h] at e; cases e; exact hk k
theorem G.Ok.stayZ (ok : g.Ok K mg) (x : Ext g g') {a : Addr} {o : HO} (h : g.H a = some o) (hz : g.Z a) : g'.H a = some o :=
  x.H a o h fun ⟨i, hi, e⟩ => ok.out i hi (e ▸ hz)
theorem G.Ok.sqT (ok : g.Ok K mg) (x : Ext g g') {a : Addr} {vs : List V} (h : SqT K g.H a vs) : SqT K g'.H a vs := by
  rcases h with (h | ⟨o, h⟩) | h
  · exact .inl (.inl (ok.stay x h id))
  · exact .inl (.inr ⟨o, ok.stay x h id⟩)
  · exact .inr h
theorem ScrP.sq {a : Addr} {vs : List V} (h : ScrP K g a vs) : SqL K g.H a vs := by
  rcases h with ⟨o, h⟩ | h
  · exact .inl (.inr ⟨o, h⟩)
  · exact .inr h
theorem DkF.mono {R R' : HO → Prop} {P P' : List V → Prop} {t : Bool} {ks : List PV} (h : DkF R P t ks) (hr : ∀ u, R u → R' u) (hp : ∀ l, P l → P' l) : DkF R' P' t ks := by
  rcases h with ⟨e, kvs, a, b, c⟩ | ⟨e, kvs, a, b, c⟩
  · exact .inl ⟨e, kvs, hr _ a, b, hp _ c⟩
  · exact .inr ⟨e, kvs, hr _ a, b, hp _ c⟩
/-- what the plain values lean on stays -/
structure Keeps (g g' : G) : Prop where
  n : g.s.n ≤ g'.s.n
  ρ : ∀ i, i < g.s.n → g'.ρ i = g.ρ i
  tup : ∀ a vs, g.H a = some (.tup vs) → g'.H a = some (.tup vs)
  frz : ∀ a o u, g.H a = some (.frz o u) → g'.H a = some (.frz o u)
  lst : ∀ a vs, g.H a = some (.lst vs) → g.Z a → g'.H a = some (.lst vs) ∧ g'.Z a
theorem Ext.keeps (ok : g.Ok K mg) (x : Ext g g') : Keeps g g' :=
  ⟨x.n, x.ρ, fun a vs h => ok.stay x h id, fun a o u h => ok.stay x h id, fun a vs h z => ⟨ok.stayZ x h z, x.Z a z⟩⟩
mutual
theorem RelP.keep (x : Keeps g g') : ∀ (p : PV) (v : V), RelP K mg g p v → RelP K mg g' p v
  | .non, _, h => by simpa only [RelP] using h
  | .bl _, _, h => by simpa only [RelP] using h
  | .int _, _, h => by simpa only [RelP] using h
  | .str _, _, h => by simpa only [RelP] using h
  | .tup l, v, h => by
    simp only [RelP] at h ⊢
    obtain ⟨a, vs, e, h1, h2⟩ := h
    exact ⟨a, vs, e, x.tup a vs h1, RelPs.keep x l vs h2⟩
  | .lst l, v, h => by
    simp only [RelP] at h ⊢
    obtain ⟨a, vs, e, h1, h2⟩ := h
    refine ⟨a, vs, e, ?_, RelPs.keep x l vs h2⟩
    exact x.lst a vs h1.1 h1.2
  | .scr l, v, h => by
    simp only [RelP] at h ⊢
    obtain ⟨a, vs, e, h1, h2⟩ := h
    refine ⟨a, vs, e, ?_, RelPs.keep x l vs h2⟩
    rcases h1 with ⟨o, h⟩ | h
    · exact .inl ⟨o, x.frz a o _ h⟩
    · exact .inr h
  | .dct t ks vs, v, h => by
    simp only [RelP] at h ⊢
    obtain ⟨a, e, h⟩ := h
    exact ⟨a, e, h.mono (fun u ⟨o, q⟩ => ⟨o, x.frz a o u q⟩) fun l q => RelPs.keep x vs l q⟩
  | .obj i, v, h => by
    simp only [RelP] at h ⊢
    exact ⟨Nat.lt_of_lt_of_le h.1 x.n, by rw [x.ρ i h.1]; exact h.2⟩
  | .fn n, _, h => by simpa only [RelP] using h
  | .ty n, _, h => by simpa only [RelP] using h
  | .set _, _, h => by simp only [RelP] at h
  | .clo _ _, _, h => by simp only [RelP] at h
theorem RelPs.keep (x : Keeps g g') : ∀ (l : List PV) (vs : List V), RelPs K mg g l vs → RelPs K mg g' l vs
  | [], vs, h => by simpa only [RelPs] using h
  | p :: ps, vs, h => by
    simp only [RelPs] at h ⊢
    obtain ⟨v, r, e, h1, h2⟩ := h
    exact ⟨v, r, e, RelP.keep x p v h1, RelPs.keep x ps r h2⟩
end
theorem RelP.ext (ok : g.Ok K mg) (x : Ext g g') {p : PV} {v : V} (h : RelP K mg g p v) : RelP K mg g' p v := h.keep (x.keeps ok)
theorem RelPs.ext (ok : g.Ok K mg) (x : Ext g g') {l : List PV} {vs : List V} (h : RelPs K mg g l vs) : RelPs K mg g' l vs := h.keep (x.keeps ok)
theorem RelP.d {p : PV} {v : V} (h : RelP K mg g p v) : RelD K mg g p v := by
  cases p with
  | lst l =>
    simp only [RelP] at h
    obtain ⟨a, vs, e, h1, h2⟩ := h
    exact ⟨a, vs, e, h1.1, h2⟩
  | dct t ks vs =>
    simp only [RelP] at h
    obtain ⟨a, e, h⟩ := h
    exact ⟨a, e, h.mono (fun u q => .inr q) fun _ q => q⟩
  | _ => exact h
/-- what is read where a value stands -/
theorem RelP.deref (ok : g.Ok K mg) {p : PV} {v : V} (h : RelP K mg g p v) : RelD K mg g (deref g.s p) v := by
  cases p with
  | obj i =>
    have h0 := h
    simp only [RelP] at h
    obtain ⟨hi, rfl⟩ := h
    cases e : g.s.m i with
    | none =>
      have q : Mr.deref g.s (.obj i) = .obj i := by simp [Mr.deref, e]
      rw [q]; exact h0
    | some o =>
      have r := ok.obj i o e
      cases o with
      | lst l =>
        have q : Mr.deref g.s (.obj i) = .lst l := by simp [Mr.deref, e]
        rw [q]
        obtain ⟨vs, h1, h2⟩ := r
        exact ⟨_, vs, rfl, h1, h2⟩
      | dct t ks vs =>
        have q : Mr.deref g.s (.obj i) = .dct t ks vs := by simp [Mr.deref, e]
        rw [q]
        have r' : DkF (fun u => g.H (g.ρ i) = some u) (RelPs K mg g vs) t ks := r
        exact ⟨_, rfl, DkF.mono r' (fun u q => .inl q) fun _ q => q⟩
      | ins c fs =>
        have q : Mr.deref g.s (.obj i) = .obj i := by simp [Mr.deref, e]
        rw [q]; exact h0
  | _ => exact h.d
theorem RelPs.length : ∀ {l : List PV} {vs : List V}, RelPs K mg g l vs → l.length = vs.length
  | [], vs, h => by simp only [RelPs] at h; subst h; rfl
  | p :: ps, vs, h => by
    simp only [RelPs] at h
    obtain ⟨v, r, rfl, _, h2⟩ := h
    simp [RelPs.length h2]
theorem RelPs.get : ∀ {l : List PV} {vs : List V} {i : Nat} {v : V}, RelPs K mg g l vs → vs[i]? = some v → ∃ p, l[i]? = some p ∧ RelP K mg g p v
  | [], vs, i, v, h, e => by simp only [RelPs] at h; subst h; simp at e
  | p :: ps, vs, i, v, h, e => by
    simp only [RelPs] at h
    obtain ⟨u, r, rfl, h1, h2⟩ := h
    cases i with
    | zero => simp at e; subst e; exact ⟨p, rfl, h1⟩
    | succ j => simpa using RelPs.get h2 (by simpa using e)
theorem RelPs.get' : ∀ {l : List PV} {vs : List V} {i : Nat} {p : PV}, RelPs K mg g l vs → l[i]? = some p → ∃ v, vs[i]? = some v ∧ RelP K mg g p v
  | [], vs, i, p, h, e => by simp at e
  | q :: ps, vs, i, p, h, e => by
    simp only [RelPs] at h
    obtain ⟨u, r, rfl, h1, h2⟩ := h
    cases i with
    | zero => simp at e; subst e; exact ⟨u, rfl, h1⟩
    | succ j => simpa using RelPs.get' h2 (by simpa using e)
theorem RelPs.cons {p : PV} {v : V} {l : List PV} {vs : List V} (h : RelP K mg g p v) (hs : RelPs K mg g l vs) : RelPs K mg g (p :: l) (v :: vs) := by
  simp only [RelPs]; exact ⟨v, vs, rfl, h, hs⟩
theorem RelPs.nil : RelPs K mg g [] [] := by simp only [RelPs]
theorem RelPs.append : ∀ {l l' : List PV} {vs vs' : List V}, RelPs K mg g l vs → RelPs K mg g l' vs' → RelPs K mg g (l ++ l') (vs ++ vs')
  | [], _, vs, _, h, h' => by simp only [RelPs] at h; subst h; exact h'
  | p :: ps, _, vs, _, h, h' => by
    simp only [RelPs] at h
    obtain ⟨v, r, rfl, h1, h2⟩ := h
    exact RelPs.cons h1 (RelPs.append h2 h')
theorem RelPs.drop : ∀ {l : List PV} {vs : List V} (n : Nat), RelPs K mg g l vs → RelPs K mg g (l.drop n) (vs.drop n)
  | [], vs, n, h => by simp only [RelPs] at h; subst h; simpa using RelPs.nil
  | p :: ps, vs, n, h => by
    have h0 := h
    simp only [RelPs] at h
    obtain ⟨v, r, rfl, h1, h2⟩ := h
    cases n with
    | zero => exact h0
    | succ k => simpa using RelPs.drop k h2
theorem RelPs.take : ∀ {l : List PV} {vs : List V} (n : Nat), RelPs K mg g l vs → RelPs K mg g (l.take n) (vs.take n)
  | [], vs, n, h => by simp only [RelPs] at h; subst h; simpa using RelPs.nil
  | p :: ps, vs, n, h => by
    simp only [RelPs] at h
    obtain ⟨v, r, rfl, h1, h2⟩ := h
    cases n with
    | zero => exact RelPs.nil
    | succ k => simpa using RelPs.cons h1 (RelPs.take k h2)
theorem RelPs.set : ∀ {l : List PV} {vs : List V} (n : Nat) {p : PV} {v : V}, RelPs K mg g l vs → RelP K mg g p v → RelPs K mg g (l.set n p) (vs.set n v)
  | [], vs, n, _, _, h, _ => by simp only [RelPs] at h; subst h; simpa using RelPs.nil
  | p :: ps, vs, n, _, _, h, hp => by
    simp only [RelPs] at h
    obtain ⟨v, r, rfl, h1, h2⟩ := h
    cases n with
    | zero => simpa using RelPs.cons hp h2
    | succ k => simpa using RelPs.cons h1 (RelPs.set k h2 hp)
theorem RelPs.reverse : ∀ {l : List PV} {vs : List V}, RelPs K mg g l vs → RelPs K mg g l.reverse vs.reverse
  | [], vs, h => by simp only [RelPs] at h; subst h; simpa using RelPs.nil
  | p :: ps, vs, h => by
    simp only [RelPs] at h
    obtain ⟨v, r, rfl, h1, h2⟩ := h
    simpa using RelPs.append (RelPs.reverse h2) (RelPs.cons h1 RelPs.nil)
/-! ### new things -/
theorem upd_ext {a : Addr} {u : HO} {Z : Addr → Prop} (hp : g.H a = none) (hz : ∀ b, g.Z b → Z b) (hz' : ∀ b, Z b → g.Z b ∨ b = a) : Ext g { g with H := upd g.H a u, Z := Z } where
  n := Nat.le_refl _
  ρ := fun _ _ => rfl
  Z := hz
  H := fun b o h _ => by
    show upd g.H a u b = some o
    rw [upd_ne (ne_of_none h hp)]; exact h
  dom := fun b h => by
    show upd g.H a u b ≠ none
    rcases Classical.em (b = a) with q | q
    · rw [q, upd_same]; simp
    · rw [upd_ne q]; exact h
  zNew := fun b h => by
    rcases hz' b h with q | q
    · exact .inl q
    · exact .inr (.inl (q ▸ hp))
  mNew := fun i h => .inl h
theorem RelO.keep (x : Keeps g g') {o : PO} {a : Addr} (hs : ∀ u, g.H a = some u → g'.H a = some u) (h : RelO K mg g o a) : RelO K mg g' o a := by
  cases o with
  | lst l => obtain ⟨vs, h1, h2⟩ := h; exact ⟨vs, hs _ h1, h2.keep x⟩
  | dct t ks vs =>
    have h' : DkF (fun u => g.H a = some u) (RelPs K mg g vs) t ks := h
    exact DkF.mono h' (fun u q => hs u q) fun l q => RelPs.keep x vs l q
  | ins c fs => obtain ⟨C, dx, fv, h1, h2, h3, h4⟩ := h; exact ⟨C, dx, fv, hs _ h1, h2, h3, h4.keep x⟩
theorem RelO.ext (ok : g.Ok K mg) (x : Ext g g') {o : PO} {a : Addr} (hs : ∀ u, g.H a = some u → g'.H a = some u) (h : RelO K mg g o a) : RelO K mg g' o a := h.keep (x.keeps ok) hs
theorem upd_ok {a : Addr} {u : HO} {Z : Addr → Prop} (ok : g.Ok K mg) (hp : g.H a = none) (hz : ∀ b, g.Z b → Z b) (hz' : ∀ b, Z b → g.Z b ∨ b = a) : G.Ok K mg { g with H := upd g.H a u, Z := Z } where
  zd := fun b h => by
    show upd g.H a u b ≠ none
    rcases Classical.em (b = a) with q | q
    · rw [q, upd_same]; simp
    · rw [upd_ne q]
      rcases hz' b h with z | z
      · exact ok.zd b z
      · exact absurd z q
  wf := ok.wf
  inj := ok.inj
  out := fun i h z => by
    rcases hz' _ z with q | q
    · exact ok.out i h q
    · obtain ⟨o, e, _⟩ := ok.kind ⟨i, h, q⟩
      rw [hp] at e; cases e
  obj := fun i o h => RelO.ext ok (upd_ext hp hz hz') (fun w q => by
    show upd g.H a u _ = some w
    rw [upd_ne (ne_of_none q hp)]; exact q) (ok.obj i o h)
/-- a new tuple, or any thing that is not listed -/
abbrev G.new (g : G) (a : Addr) (u : HO) : G := { g with H := upd g.H a u }
abbrev G.newZ (g : G) (a : Addr) (u : HO) : G := { g with H := upd g.H a u, Z := fun b => g.Z b ∨ b = a }
theorem G.new_ext {a : Addr} {u : HO} (hp : g.H a = none) : Ext g (g.new a u) := upd_ext hp (fun _ h => h) fun _ h => .inl h
theorem G.new_ok {a : Addr} {u : HO} (ok : g.Ok K mg) (hp : g.H a = none) : (g.new a u).Ok K mg := upd_ok ok hp (fun _ h => h) fun _ h => .inl h
theorem G.newZ_ext {a : Addr} {u : HO} (hp : g.H a = none) : Ext g (g.newZ a u) := upd_ext hp (fun _ h => .inl h) fun _ h => h
theorem G.newZ_ok {a : Addr} {u : HO} (ok : g.Ok K mg) (hp : g.H a = none) : (g.newZ a u).Ok K mg := upd_ok ok hp (fun _ h => .inl h) fun _ h => h
theorem G.new_tup {a : Addr} {l : List PV} {vs : List V} (ok : g.Ok K mg) (hp : g.H a = none) (h : RelPs K mg g l vs) : RelP K mg (g.new a (.tup vs)) (.tup l) (.ref a) := by
  simp only [RelP]
  exact ⟨a, vs, rfl, upd_same, h.ext ok (G.new_ext hp)⟩
theorem G.newZ_lst {a : Addr} {l : List PV} {vs : List V} (ok : g.Ok K mg) (hp : g.H a = none) (h : RelPs K mg g l vs) : RelP K mg (g.newZ a (.lst vs)) (.lst l) (.ref a) := by
  simp only [RelP]
  exact ⟨a, vs, rfl, ⟨upd_same, .inr rfl⟩, h.ext ok (G.newZ_ext hp)⟩
end
end
end Mr
/-! readings by plain functions -/
namespace Mr
noncomputable section
open PySem PySem.Spec PyProof.Rows L2
def attrOf (c : String) : Str := if ["InvalidMix", "InvalidRings", "InvalidLot", "InvalidParts", "InvalidDeeds"].contains c then Str.ofString "index" else Str.ofString "given"
/-- where an exception is going to, and the exception that is being handled: its slot, itself, its dict, its class, what it keeps -/
structure WY where
  w : WX
  b : Option (Nat × Addr × Addr × String × PV)
structure RelEnv (K : PySem.W.Frag) (mg : MG) (B : Option (Nat × Addr × Addr × String × PV)) (g : G) (env : Env) (σ : L2.St) : Prop where
  len : env.length = σ.length
  er : ∀ (i : Nat) (a dd : Addr) (c : String) (p : PV), B = some (i, a, dd, c, p) → σ[i]? = some (some (.ref a)) ∧ ∃ w, g.H dd = some (.xd [(attrOf c, w)]) ∧ RelP K mg g p w
  at_ : ∀ (i : Nat) (p : PV), env[i]? = some (some p) → ∃ v, σ[i]? = some (some v) ∧ RelP K mg g p v
/-- an error of the program's own: its class, what it keeps -/
def ExcR (K : PySem.W.Frag) (mg : MG) (c : String) (p : PV) (g : G) (cls : Value) (d : Option Addr) : Prop :=
  ∃ C dd v, cls = .ref C ∧ mg (Str.ofString c) = some (.ref C) ∧ d = some dd ∧ g.H dd = some (.xd [(attrOf c, v)]) ∧ RelP K mg g p v
section
variable (K : PySem.W.Frag) (mg : MG)
def OutA {α β : Type} (R : G → α → β → Prop) (g : G) (σ : L2.St) (W : WY) (r : Res α) (Q : β → Hp → Prop) : Prop := match r with
  | .ok p s' => ∀ g' v, Ext g g' → g'.Ok K mg → g'.s = s' → R g' p v → Q v g'.H
  | .exc c p s' => ∀ g' cls d, Ext g g' → g'.Ok K mg → g'.s = s' → ExcR K mg c p g' cls d → W.w cls d σ g'.H
  | .stuck => False
def RdA {α β : Type} (R : G → α → β → Prop) (W : WY) (f : Env → MS → Res α) : L2.St → Hp → (β → Hp → Prop) → Prop := fun σ H Q =>
  ∃ g env, g.H = H ∧ g.Ok K mg ∧ RelEnv K mg W.b g env σ ∧ OutA K mg R g σ W (f env g.s) Q
abbrev RdE (W : WY) (f : EX) : TE := RdA K mg (fun g p v => RelP K mg g p v) W f
abbrev RdT (W : WY) (f : ET) : TT := RdA K mg (fun _ (b : Bool) c => b = c) W f
abbrev RdL (W : WY) (f : Env → MS → Res (List PV)) : TA := RdA K mg (fun g ps vs => RelPs K mg g ps vs) W f
end
abbrev IE (X : Cx) (W : WY) (e : Expr) (f : EX) : Prop := PE X e (RdE X.K X.mg W f)
abbrev IT (X : Cx) (W : WY) (e : Expr) (f : ET) : Prop := PT X e (RdT X.K X.mg W f)
abbrev IW (X : Cx) (W : WY) (e : Expr) (f : ET) : Prop := PW X e (RdT X.K X.mg W f)
abbrev IA (X : Cx) (W : WY) (es : List Expr) (f : Env → MS → Res (List PV)) : Prop := PA X es (RdL X.K X.mg W f)
section
variable {K : PySem.W.Frag} {mg : MG} {g g' g1 g2 : G} {env : Env} {σ : L2.St} {W : WY}
theorem RelEnv.ext {B : Option (Nat × Addr × Addr × String × PV)} (ok : g.Ok K mg) (x : Ext g g') (h : RelEnv K mg B g env σ) : RelEnv K mg B g' env σ :=
  ⟨h.len, fun i a dd c p e => let ⟨e1, w, e2, r⟩ := h.er i a dd c p e; ⟨e1, w, ok.stay x e2 (fun z => z), r.ext ok x⟩, fun i p e => let ⟨v, q, r⟩ := h.at_ i p e; ⟨v, q, r.ext ok x⟩⟩
theorem OutA.back {α β : Type} {R : G → α → β → Prop} {r : Res α} {Q : β → Hp → Prop} (ok : g.Ok K mg) (ok1 : g1.Ok K mg) (x : Ext g g1) (h : OutA K mg R g σ W r Q) : OutA K mg R g1 σ W r Q := by
  cases r with
  | ok p s' => exact fun g' v x' ok' e r => h g' v (x.trans ok ok1 x') ok' e r
  | exc c p s' => exact fun g' cls d x' ok' e r => h g' cls d (x.trans ok ok1 x') ok' e r
  | stuck => exact h
/-- the first of two in a row -/
theorem RdA.seq {α β γ δ : Type} {R : G → α → β → Prop} {R' : G → γ → δ → Prop} {f : Env → MS → Res α} {k : α → Env → MS → Res γ} {H : Hp} {Q : δ → Hp → Prop}
    (h : RdA K mg R' W (fun e s => (f e s).bind fun p s' => k p e s') σ H Q) : RdA K mg R W f σ H (fun v H1 => ∃ p, ∃ g env, g.H = H1 ∧ g.Ok K mg ∧ RelEnv K mg W.b g env σ ∧ R g p v ∧ OutA K mg R' g σ W (k p env g.s) Q) := by
  obtain ⟨g, env, e, ok, re, h⟩ := h
  refine ⟨g, env, e, ok, re, ?_⟩
  dsimp only at h
  cases hf : f env g.s with
  | ok p s' =>
    rw [hf] at h
    intro g' v x ok' es r
    refine ⟨p, g', env, rfl, ok', re.ext ok x, r, ?_⟩
    have h2 : OutA K mg R' g σ W (k p env s') Q := h
    rw [es]
    exact h2.back ok ok' x
  | exc c p s' => rw [hf] at h; exact h
  | stuck => rw [hf] at h; exact h
theorem RdA.keep {α β γ : Type} {R : G → α → β → Prop} {R2 : G → γ → Prop} {f : Env → MS → Res α} {H : Hp} {Q : β → Hp → Prop} : True := trivial
theorem OutA.ok {α β : Type} {R : G → α → β → Prop} {p : α} {v : β} {Q : β → Hp → Prop} (ok : g.Ok K mg) (h : OutA K mg R g σ W (.ok p g.s) Q) (r : R g p v) : Q v g.H := h g v (Ext.refl g) ok rfl r
end
section
variable {X : Cx} {W : WY} {e : Expr} {f : EX}
theorem PE.weak {t t' : TE} (h : PE X e t) (w : ∀ σ H Q, t' σ H Q → t σ H Q) : PE X e t' := ⟨fun pins s σ H Q I q => h.run pins s σ H Q I (w σ H Q q)⟩
theorem PT.weak {t t' : TT} (h : PT X e t) (w : ∀ σ H Q, t' σ H Q → t σ H Q) : PT X e t' := ⟨fun pins s σ H Q I q => h.run pins s σ H Q I (w σ H Q q)⟩
theorem PW.weak {t t' : TT} (h : PW X e t) (w : ∀ σ H Q, t' σ H Q → t σ H Q) : PW X e t' := ⟨fun wh pins s σ H Q I q => h.run wh pins s σ H Q I (w σ H Q q)⟩
theorem PA.weak {es : List Expr} {t t' : TA} (h : PA X es t) (w : ∀ σ H Q, t' σ H Q → t σ H Q) : PA X es t' := ⟨fun pos pins s σ H Q I q => h.run pos pins s σ H Q I (w σ H Q q)⟩
theorem PS.weak {st : Stmt} {t t' : TS} (h : PS X st t) (w : ∀ D σ H, t' D σ H → t D σ H) : PS X st t' := ⟨fun pins s σ H D I q => h.run pins s σ H D I (w D σ H q)⟩
theorem PSs.weak {st : List Stmt} {t t' : TS} (h : PSs X st t) (w : ∀ D σ H, t' D σ H → t D σ H) : PSs X st t' := ⟨fun pins s σ H D I q => h.run pins s σ H D I (w D σ H q)⟩
end
end
end Mr
namespace Mr
noncomputable section
open PySem PySem.Spec PyProof.Rows L2
/-! ### names and constants -/
def eVar (i : Nat) : EX := fun e s => match e[i]? with
  | some (some p) => .ok p s
  | _ => .stuck
def eC (p : PV) : EX := fun _ s => .ok p s
section
variable {X : Cx} {W : WY} {pos : Pos}
theorem ie_var (i : Nat) {x : Str} (hN : X.N[i]? = some x := by rfl) (hv : Vis X.env.scope x := by first | exact Or.inl rfl | exact Or.inr (Or.inl rfl) | exact Or.inr (Or.inr rfl)) (hd : (x == ("__debug__" : Str)) = false := by decide)
    (hcd : (x == ("__classdict__" : Str)) = false := by decide) : IE X W (.Name x pos) (eVar i) :=
  PE.weak (pe_var hN hv hd hcd) fun σ H Q h => by
    obtain ⟨g, env, rfl, ok, re, h⟩ := h
    unfold eVar at h
    cases e : env[i]? with
    | none => rw [e] at h; exact h.elim
    | some o =>
      cases o with
      | none => rw [e] at h; exact h.elim
      | some p =>
        rw [e] at h
        obtain ⟨v, q, r⟩ := re.at_ i p e
        exact ⟨v, q, OutA.ok ok h r⟩
theorem ie_c {e : Expr} {v : V} {p : PV} (h : PE X e (tC v)) (r : ∀ g, RelP X.K X.mg g p v) : IE X W e (eC p) :=
  PE.weak h fun σ H Q h => by
    obtain ⟨g, env, rfl, ok, re, h⟩ := h
    exact OutA.ok ok h (r g)
theorem ie_int {i : Int} {j : Nat} : IE X W (.Constant (.int i) j pos) (eC (.int i)) := ie_c pe_int fun _ => by simp only [RelP]
theorem ie_bl {b : Bool} {j : Nat} : IE X W (.Constant (.bool b) j pos) (eC (.bl b)) := ie_c pe_bl fun _ => by simp only [RelP]
theorem ie_non {j : Nat} : IE X W (.Constant .none j pos) (eC .non) := ie_c pe_non fun _ => by simp only [RelP]
theorem ie_str {x : Str} {j : Nat} (l : List Nat) (h : x = ⟨l.toArray⟩ := by decide +kernel) : IE X W (.Constant (.str x) j pos) (eC (.str l)) := ie_c pe_str fun _ => by subst h; simp only [RelP]
/-! ### two operands -/
def eBin (op : PV → PV → Option PV) (f h : EX) : EX := fun e s => (f e s).bind fun x s => (h e s).bind fun y s => ofO (op (deref s x) (deref s y)) s
/-- a value made of two, by values -/
def OpM (K : PySem.W.Frag) (mg : MG) (op : PV → PV → Option PV) : R2 := fun x y H Q =>
  ∃ g px py z, g.H = H ∧ g.Ok K mg ∧ RelD K mg g px x ∧ RelD K mg g py y ∧ op px py = some z ∧ ∀ g' v, Ext g g' → g'.Ok K mg → g'.s = g.s → RelP K mg g' z v → Q v g'.H
theorem RdE.op2 {K : PySem.W.Frag} {mg : MG} {op : PV → PV → Option PV} {f h : EX} {σ : L2.St} {H : Hp} {Q : VK} (q : RdE K mg W (eBin op f h) σ H Q) : tOp (OpM K mg op) (RdE K mg W f) (RdE K mg W h) σ H Q := by
  unfold tOp
  have q1 := RdA.seq (R := fun g p v => RelP K mg g p v) (f := f) (k := fun x e s => (h e s).bind fun y s => ofO (op (deref s x) (deref s y)) s) q
  obtain ⟨g, env, e, ok, re, q1⟩ := q1
  refine ⟨g, env, e, ok, re, ?_⟩
  revert q1
  cases f env g.s with
  | exc c p s' => exact id
  | stuck => exact id
  | ok x s1 =>
    intro q1 g' v x' ok' es r
    obtain ⟨px, g2, env2, e2, ok2, re2, r2, q2⟩ := q1 g' v x' ok' es r
    refine ⟨g2, env2, e2, ok2, re2, ?_⟩
    revert q2
    cases h env2 g2.s with
    | exc c p s' => exact id
    | stuck => exact id
    | ok y s2 =>
      intro q2 g3 w x3 ok3 es3 r3
      have rx := r2.ext ok2 x3
      change OutA K mg _ g2 σ W (ofO (op (deref s2 px) (deref s2 y)) s2) Q at q2
      cases ho : op (deref s2 px) (deref s2 y) with
      | none => rw [ho] at q2; exact q2.elim
      | some z =>
        rw [ho] at q2
        rw [← es3] at ho
        exact ⟨g3, _, _, z, rfl, ok3, rx.deref ok3, r3.deref ok3, ho, fun g4 u x4 ok4 es4 r4 => q2 g4 u (x3.trans ok2 ok3 x4) ok4 (es4.trans es3) r4⟩
theorem ie_bin {op : Operator} {m : PV → PV → Option PV} {a b : Expr} {f h : EX} (ho : OpR X (binaryOp op) (OpM X.K X.mg m)) (ha : IE X W a f) (hb : IE X W b h) : IE X W (.BinOp a op b pos) (eBin m f h) :=
  PE.weak (pe_op ho ha hb) fun σ H Q q => RdE.op2 q
theorem ie_cmp {op : CmpOp} {m : PV → PV → Option PV} {a b : Expr} {f h : EX} (ho : OpR X (compareOp op) (OpM X.K X.mg m)) (ha : IE X W a f) (hb : IE X W b h) (hm : behindInMarks op b = false) : IE X W (.Compare a [op] [b] pos) (eBin m f h) :=
  PE.weak (pe_cmpR ho ha hb hm) fun σ H Q q => RdE.op2 q
end
end
end Mr
namespace Mr
noncomputable section
open PySem PySem.Spec PyProof.Rows L2
/-! ### tests -/
def tTru (f : EX) : ET := fun e s => (f e s).bind fun x s => ofO (truth (deref s x)) s
def tCm (m : PV → PV → Option Bool) (f h : EX) : ET := fun e s => (f e s).bind fun x s => (h e s).bind fun y s => ofO (m (deref s x) (deref s y)) s
def eCm (m : PV → PV → Option Bool) (f h : EX) : EX := eBin (fun x y => (m x y).map .bl) f h
def tAnd2 (c d : ET) : ET := fun e s => (c e s).bind fun b s => if b = true then d e s else .ok false s
def tOr2 (c d : ET) : ET := fun e s => (c e s).bind fun b s => if b = true then .ok true s else d e s
def tNt (c : ET) : ET := fun e s => (c e s).bind fun b s => .ok (!b) s
def eAnd2 (f h : EX) : EX := fun e s => (f e s).bind fun x s => (ofO (truth (deref s x)) s).bind fun b s => if b = true then h e s else .ok x s
def eOr2 (f h : EX) : EX := fun e s => (f e s).bind fun x s => (ofO (truth (deref s x)) s).bind fun b s => if b = true then .ok x s else h e s
def eNt (f : EX) : EX := fun e s => (f e s).bind fun x s => (ofO (truth (deref s x)) s).bind fun b s => .ok (.bl (!b)) s
def eIf (c : ET) (f h : EX) : EX := fun e s => (c e s).bind fun b s => if b = true then f e s else h e s
def eChain (m m' : PV → PV → Option Bool) (f h k : EX) : EX := fun e s => (f e s).bind fun x s => (h e s).bind fun y s => (ofO (m (deref s x) (deref s y)) s).bind fun b s =>
  if b = true then (k e s).bind fun z s => (ofO (m' (deref s y) (deref s z)) s).bind fun b s => .ok (.bl b) s else .ok (.bl false) s
def tChain' (m m' : PV → PV → Option Bool) (f h k : EX) : ET := fun e s => (f e s).bind fun x s => (h e s).bind fun y s => (ofO (m (deref s x) (deref s y)) s).bind fun b s =>
  if b = true then (k e s).bind fun z s => ofO (m' (deref s y) (deref s z)) s else .ok false s
section
variable {K : PySem.W.Frag} {mg : MG} {g : G} {X : Cx} {W : WY} {pos : Pos} {a b c : Expr} {rest : List Expr} {f h k : EX} {t u : ET}
theorem strlen (l : List Nat) : (⟨l.toArray⟩ : Str).length = l.length := by simp [Str.length]
theorem truV_of {p : PV} {v : V} {b : Bool} (r : RelD K mg g p v) (h : truth p = some b) : TruV K v g.H b := by
  cases p with
  | non => simp only [RelD, RelP] at r; subst r; simp [truth] at h; subst h; rfl
  | bl c => simp only [RelD, RelP] at r; subst r; simp [truth] at h; subst h; rfl
  | int i => simp only [RelD, RelP] at r; subst r; simp [truth] at h; subst h; rfl
  | str l =>
    simp only [RelD, RelP] at r; subst r
    simp only [truth] at h
    split at h
    · rename_i hl
      cases h
      refine ⟨by rw [strlen]; exact toSz hl, ?_⟩
      rw [strlen]
      cases l with
      | nil => rfl
      | cons x xs => rfl
    · cases h
  | tup l =>
    simp only [RelD, RelP] at r
    obtain ⟨q, vs, rfl, h1, h2⟩ := r
    have h : b = !l.isEmpty := (Option.some.inj h).symm
    subst h
    refine .inr (.inl ⟨vs, SqT.of h1, ?_⟩)
    have := h2.length
    cases l <;> cases vs <;> simp_all
  | lst l =>
    simp only [RelD] at r
    obtain ⟨q, vs, rfl, h1, h2⟩ := r
    have h : b = !l.isEmpty := (Option.some.inj h).symm
    subst h
    refine .inl ⟨vs, SqL.of h1, ?_⟩
    have := h2.length
    cases l <;> cases vs <;> simp_all
  | _ => simp [truth] at h
/-- a value in its test -/
theorem RdT.tru {σ : L2.St} {H : Hp} {Q : Bool → Hp → Prop} (q : RdT K mg W (tTru f) σ H Q) : RdE K mg W f σ H fun x H' => ∃ k, TruV K x H' k ∧ Q k H' := by
  have q1 := RdA.seq (R := fun g p v => RelP K mg g p v) (f := f) (k := fun x e s => ofO (truth (deref s x)) s) q
  obtain ⟨g, env, e, ok, re, q1⟩ := q1
  refine ⟨g, env, e, ok, re, ?_⟩
  revert q1
  cases f env g.s with
  | exc c p s' => exact id
  | stuck => exact id
  | ok x s1 =>
    intro q1 g' v x' ok' es r
    obtain ⟨px, g2, env2, e2, ok2, re2, r2, q2⟩ := q1 g' v x' ok' es r
    cases ho : truth (deref g2.s px) with
    | none => rw [ho] at q2; exact q2.elim
    | some z =>
      rw [ho] at q2
      refine ⟨z, e2 ▸ truV_of (r2.deref ok2) ho, e2 ▸ OutA.ok ok2 q2 rfl⟩
theorem it_tru (ha : IE X W a f) (he : ∀ whole, isTrue a X.env whole = (do let v ← whole; standAt a.pos; holding [v] (truthy v)) := by intro _; rfl) : IT X W a (tTru f) :=
  PT.weak (pt_truth ha he) fun σ H Q q => RdT.tru q
theorem it_cm {op : CmpOp} {m : PV → PV → Option Bool} (ho : OpR X (compareOp op) (OpM X.K X.mg fun x y => (m x y).map .bl)) (ha : IE X W a f) (hb : IE X W b h) (hm : behindInMarks op b = false) : IT X W (.Compare a [op] [b] pos) (tCm m f h) :=
  PT.weak (pt_cmpR ho ha hb hm) fun σ H Q q => by
    unfold tTest
    have q' : RdE X.K X.mg W (eCm m f h) σ H (fun x H' => ∃ k, x = .bl k ∧ Q k H') := by
      obtain ⟨g, env, e, ok, re, q⟩ := q
      refine ⟨g, env, e, ok, re, ?_⟩
      revert q
      unfold tCm eCm eBin
      cases f env g.s with
      | exc c p s' => exact id
      | stuck => exact id
      | ok x s1 =>
        simp only [bind_ok]
        cases h env s1 with
        | exc c p s' => exact id
        | stuck => exact id
        | ok y s2 =>
          simp only [bind_ok]
          cases m (deref s2 x) (deref s2 y) with
          | none => exact id
          | some k =>
            intro q g' v x' ok' es r
            have r' : RelP X.K X.mg g' (.bl k) v := r
            simp only [RelP] at r'
            exact ⟨k, r', q g' k x' ok' es rfl⟩
    exact RdE.op2 q'
theorem ie_cm {op : CmpOp} {m : PV → PV → Option Bool} (ho : OpR X (compareOp op) (OpM X.K X.mg fun x y => (m x y).map .bl)) (ha : IE X W a f) (hb : IE X W b h) (hm : behindInMarks op b = false) : IE X W (.Compare a [op] [b] pos) (eCm m f h) :=
  ie_cmp ho ha hb hm
theorem RdT.two {γ δ : Type} {R' : G → γ → δ → Prop} {σ : L2.St} {H : Hp} {Q : δ → Hp → Prop} {d : Bool → Env → MS → Res γ} (q : RdA K mg R' W (fun e s => (t e s).bind fun b s => d b e s) σ H Q) :
    RdT K mg W t σ H fun b H1 => RdA K mg R' W (d b) σ H1 Q := by
  obtain ⟨g, env, e, ok, re, q1⟩ := RdA.seq (R := fun _ (b : Bool) c => b = c) (f := t) (k := fun b e s => d b e s) q
  refine ⟨g, env, e, ok, re, ?_⟩
  revert q1
  cases t env g.s with
  | exc c p s' => exact id
  | stuck => exact id
  | ok x s1 =>
    intro q1 g' v x' ok' es r
    obtain ⟨px, g2, env2, e2, ok2, re2, r2, q2⟩ := q1 g' v x' ok' es r
    subst r2
    exact ⟨g2, env2, e2, ok2, re2, q2⟩
theorem RdA.pure {α β : Type} {R : G → α → β → Prop} {σ : L2.St} {H : Hp} {Q : β → Hp → Prop} {p : α} {v : β} (r : ∀ g, R g p v) (q : RdA K mg R W (fun _ s => .ok p s) σ H Q) : Q v H := by
  obtain ⟨g, env, e, ok, re, q1⟩ := q
  exact e ▸ OutA.ok ok q1 (r g)
theorem iw_and1 (ha : IT X W a t) : IW X W (.BoolOp .And [a] pos) t := pw_and1 ha
theorem iw_or1 (ha : IT X W a t) : IW X W (.BoolOp .Or [a] pos) t := pw_or1 ha
theorem iw_and (ha : IT X W a t) (hb : IW X W (.BoolOp .And (b :: rest) pos) u) : IW X W (.BoolOp .And (a :: b :: rest) pos) (tAnd2 t u) :=
  PW.weak (pw_and ha hb) fun σ H Q q => by
    have q := RdT.two (d := fun b e s => if b = true then u e s else .ok false s) q
    unfold L2.tAnd
    obtain ⟨g, env, e, ok, re, q⟩ := q
    refine ⟨g, env, e, ok, re, ?_⟩
    revert q
    cases t env g.s with
    | exc c p s' => exact id
    | stuck => exact id
    | ok x s1 =>
      intro q g' v x' ok' es r
      have q := q g' v x' ok' es r
      cases v with
      | true => exact q
      | false => exact RdA.pure (fun _ => rfl) q
theorem iw_or (ha : IT X W a t) (hb : IW X W (.BoolOp .Or (b :: rest) pos) u) : IW X W (.BoolOp .Or (a :: b :: rest) pos) (tOr2 t u) :=
  PW.weak (pw_or ha hb) fun σ H Q q => by
    have q := RdT.two (d := fun b e s => if b = true then .ok true s else u e s) q
    unfold L2.tOr
    obtain ⟨g, env, e, ok, re, q⟩ := q
    refine ⟨g, env, e, ok, re, ?_⟩
    revert q
    cases t env g.s with
    | exc c p s' => exact id
    | stuck => exact id
    | ok x s1 =>
      intro q g' v x' ok' es r
      have q := q g' v x' ok' es r
      cases v with
      | false => exact q
      | true => exact RdA.pure (fun _ => rfl) q
theorem it_w (h : IW X W a t) : IT X W a t := PW.pt h
theorem it_not (ha : IT X W a t) : IT X W (.UnaryOp .Not a pos) (tNt t) :=
  PT.weak (pt_not ha) fun σ H Q q => by
    have q := RdT.two (d := fun b e s => .ok (!b) s) q
    unfold L2.tNot
    obtain ⟨g, env, e, ok, re, q⟩ := q
    refine ⟨g, env, e, ok, re, ?_⟩
    revert q
    cases t env g.s with
    | exc c p s' => exact id
    | stuck => exact id
    | ok x s1 =>
      intro q g' v x' ok' es r
      exact RdA.pure (fun _ => rfl) (q g' v x' ok' es r)
/-- the value's truth, then on -/
theorem RdE.truThen {γ δ : Type} {R' : G → γ → δ → Prop} {σ : L2.St} {H : Hp} {Q : δ → Hp → Prop} {d : PV → Bool → Env → MS → Res γ}
    (q : RdA K mg R' W (fun e s => (f e s).bind fun x s => (ofO (truth (deref s x)) s).bind fun b s => d x b e s) σ H Q) :
    RdE K mg W f σ H fun v H1 => ∃ k, TruV K v H1 k ∧ ∃ p g env, g.H = H1 ∧ g.Ok K mg ∧ RelEnv K mg W.b g env σ ∧ RelP K mg g p v ∧ OutA K mg R' g σ W (d p k env g.s) Q := by
  obtain ⟨g, env, e, ok, re, q1⟩ := RdA.seq (R := fun g p v => RelP K mg g p v) (f := f) (k := fun x e s => (ofO (truth (deref s x)) s).bind fun b s => d x b e s) q
  refine ⟨g, env, e, ok, re, ?_⟩
  revert q1
  cases f env g.s with
  | exc c p s' => exact id
  | stuck => exact id
  | ok x s1 =>
    intro q1 g' v x' ok' es r
    obtain ⟨px, g2, env2, e2, ok2, re2, r2, q2⟩ := q1 g' v x' ok' es r
    cases ho : truth (deref g2.s px) with
    | none => rw [ho] at q2; exact q2.elim
    | some z =>
      rw [ho] at q2
      exact ⟨z, e2 ▸ truV_of (r2.deref ok2) ho, px, g2, env2, e2, ok2, re2, r2, q2⟩
theorem RdA.imp {α β : Type} {R : G → α → β → Prop} {σ : L2.St} {H : Hp} {Q Q' : β → Hp → Prop} {m : Env → MS → Res α} (q : RdA K mg R W m σ H Q) (h : ∀ v H, Q v H → Q' v H) : RdA K mg R W m σ H Q' := by
  obtain ⟨g, env, e, ok, re, q⟩ := q
  refine ⟨g, env, e, ok, re, ?_⟩
  revert q
  cases m env g.s with
  | exc c p s' => exact id
  | stuck => exact id
  | ok x s1 => exact fun q g' v x' ok' es r => h _ _ (q g' v x' ok' es r)
theorem ie_one {op : BoolOp} (ha : IE X W a f) : IE X W (.BoolOp op [a] pos) f := pe_one ha
theorem ie_and (ha : IE X W a f) (hb : IE X W (.BoolOp .And (b :: rest) pos) h) : IE X W (.BoolOp .And (a :: b :: rest) pos) (eAnd2 f h) :=
  PE.weak (pe_andT ha hb) fun σ H Q q => by
    refine (RdE.truThen (d := fun x b e s => if b = true then h e s else .ok x s) q).imp fun v H1 ⟨k, tr, p, g, env, e, ok, re, r, q⟩ => ⟨k, tr, ?_⟩
    cases k with
    | true => exact ⟨g, env, e, ok, re, q⟩
    | false => exact e ▸ OutA.ok ok q r
theorem ie_or (ha : IE X W a f) (hb : IE X W (.BoolOp .Or (b :: rest) pos) h) : IE X W (.BoolOp .Or (a :: b :: rest) pos) (eOr2 f h) :=
  PE.weak (pe_orT ha hb) fun σ H Q q => by
    refine (RdE.truThen (d := fun x b e s => if b = true then .ok x s else h e s) q).imp fun v H1 ⟨k, tr, p, g, env, e, ok, re, r, q⟩ => ⟨k, tr, ?_⟩
    cases k with
    | false => exact ⟨g, env, e, ok, re, q⟩
    | true => exact e ▸ OutA.ok ok q r
theorem ie_not (ha : IE X W a f) : IE X W (.UnaryOp .Not a pos) (eNt f) :=
  PE.weak (pe_notT ha) fun σ H Q q => by
    refine (RdE.truThen (d := fun x b e s => Res.ok (PV.bl (!b)) s) (R' := fun g p v => RelP X.K X.mg g p v) q).imp fun v H1 ⟨k, tr, p, g, env, e, ok, re, r, q⟩ => ⟨k, tr, ?_⟩
    exact e ▸ OutA.ok ok q (by simp only [RelP])
theorem ie_if (hc : IT X W c t) (ha : IE X W a f) (hb : IE X W b h) : IE X W (.IfExp c a b pos) (eIf t f h) :=
  PE.weak (pe_ifExp hc ha hb) fun σ H Q q => by
    unfold tIf
    refine (RdT.two (d := fun b e s => if b = true then f e s else h e s) q).imp fun v H1 q => ?_
    cases v with
    | true => exact q
    | false => exact q
end
end
end Mr
namespace Mr
noncomputable section
open PySem PySem.Spec PyProof.Rows L2
/-! ### argument lists, displays, calls -/
def eList : List EX → Env → MS → Res (List PV)
  | [], _, s => .ok [] s
  | f :: fs, e, s => (f e s).bind fun x s => (eList fs e s).bind fun xs s => .ok (x :: xs) s
def eTup (fs : List EX) : EX := fun e s => (eList fs e s).bind fun xs s => if xs.length ≤ LIM then .ok (.tup xs) s else .stuck
/-- a list that nobody changes -/
def eLst (fs : List EX) : EX := fun e s => (eList fs e s).bind fun xs s => if xs.length ≤ LIM then .ok (.lst xs) s else .stuck
def MS.put (s : MS) (i : Nat) (o : PO) : MS := ⟨s.n, fun j => if j = i then some o else s.m j⟩
def MS.del (s : MS) (i : Nat) : MS := ⟨s.n, fun j => if j = i then none else s.m j⟩
def MS.new (s : MS) (o : PO) : MS := ⟨s.n + 1, fun j => if j = s.n then some o else s.m j⟩
/-- a list that will be changed -/
def eLstM (fs : List EX) : EX := fun e s => (eList fs e s).bind fun xs s => if xs.length ≤ LIM then .ok (.obj s.n) (s.new (.lst xs)) else .stuck
def eCall (F : FN) (fs : List EX) : EX := fun e s => (eList fs e s).bind fun xs s => F xs s
def eCallK (F : FN) (order : List Nat) (fs : List EX) : EX := fun e s => (eList fs e s).bind fun xs s => F (order.map fun j => xs.getD j .non) s
section
variable {K : PySem.W.Frag} {mg : MG} {g : G} {X : Cx} {W : WY} {pos : Pos} {a b c : Expr} {es : List Expr} {f h k : EX} {fs : List EX}
theorem RdA.val {α β : Type} {R : G → α → β → Prop} {σ : L2.St} {H : Hp} {Q : β → Hp → Prop} {m : Env → MS → Res α} (q : RdA K mg R W m σ H Q) : RdA K mg R W m σ H (fun v H1 => ∃ p g env, g.H = H1 ∧ g.Ok K mg ∧ RelEnv K mg W.b g env σ ∧ R g p v ∧ ∀ g' w, Ext g g' → g'.Ok K mg → g'.s = g.s → R g' p w → Q w g'.H) := by
  obtain ⟨g, env, e, ok, re, q⟩ := q
  refine ⟨g, env, e, ok, re, ?_⟩
  revert q
  cases m env g.s with
  | exc c p s' => exact id
  | stuck => exact id
  | ok x s1 => exact fun q g' v x' ok' es r => ⟨x, g', env, rfl, ok', re.ext ok x', r, fun g2 w x2 ok2 es2 r2 => q g2 w (x'.trans ok ok' x2) ok2 (es2.trans es) r2⟩
theorem ia_nil : IA X W [] (eList []) := PA.weak pa_nil fun σ H Q q => RdA.pure (fun g => RelPs.nil) q
theorem ia_cons (ha : IE X W a f) (hr : IA X W es (eList fs)) (hs : starEach (a :: es) X.env = (false, eval a X.env) :: starEach es X.env := by rfl) : IA X W (a :: es) (eList (f :: fs)) :=
  PA.weak (pa_cons ha hr hs) fun σ H Q q => by
    unfold tCons
    refine (RdA.seq (R := fun g p v => RelP X.K X.mg g p v) (f := f) (k := fun x e s => (eList fs e s).bind fun xs s => .ok (x :: xs) s) q).imp fun v H1 q => ?_
    obtain ⟨p, g, env, e, ok, re, r, q⟩ := q
    refine ⟨g, env, e, ok, re, ?_⟩
    revert q
    cases eList fs env g.s with
    | exc c p s' => exact id
    | stuck => exact id
    | ok xs s2 => exact fun q g' v x' ok' es r2 => q g' _ x' ok' es (RelPs.cons (r.ext ok x') r2)
theorem ie_tup {x1 : Nat} (ha : IA X W es (eList fs)) : IE X W (.Tuple es x1 pos) (eTup fs) :=
  PE.weak (pe_tup ha) fun σ H Q q => by
    unfold tTup
    refine (RdA.seq (R := fun g p v => RelPs X.K X.mg g p v) (f := eList fs) (k := fun xs e s => if xs.length ≤ LIM then Res.ok (PV.tup xs) s else Res.stuck) q).imp fun v H1 q => ?_
    obtain ⟨p, g, env, rfl, ok, re, r, q⟩ := q
    by_cases hl : p.length ≤ LIM
    · simp only [hl, if_true] at q
      refine ⟨by rw [← r.length]; exact toSz hl, fun a ha => ?_⟩
      exact q (g.new a (.tup v)) _ (G.new_ext ha) (G.new_ok ok ha) rfl (G.new_tup ok ha r)
    · simp only [hl, if_false] at q
      exact q.elim
theorem ie_lst (ha : IA X W es (eList fs)) : IE X W (.List es pos) (eLst fs) :=
  PE.weak (pe_lst ha) fun σ H Q q => by
    unfold tLst
    refine (RdA.seq (R := fun g p v => RelPs X.K X.mg g p v) (f := eList fs) (k := fun xs e s => if xs.length ≤ LIM then Res.ok (PV.lst xs) s else Res.stuck) q).imp fun v H1 q => ?_
    obtain ⟨p, g, env, rfl, ok, re, r, q⟩ := q
    by_cases hl : p.length ≤ LIM
    · simp only [hl, if_true] at q
      refine ⟨by rw [← r.length]; exact toSz hl, fun a ha => ?_⟩
      exact q (g.newZ a (.lst v)) _ (G.newZ_ext ha) (G.newZ_ok ok ha) rfl (G.newZ_lst ok ha r)
    · simp only [hl, if_false] at q
      exact q.elim
/-- a new changing thing -/
abbrev G.newM (g : G) (a : Addr) (u : HO) (o : PO) : G := { H := upd g.H a u, Z := g.Z, ρ := fun i => if i = g.s.n then a else g.ρ i, s := g.s.new o }
theorem newM_ext {a : Addr} {u : HO} {o : PO} (hp : g.H a = none) : Ext g (g.newM a u o) where
  n := Nat.le_succ _
  ρ := fun i h => by
    show (if i = g.s.n then a else g.ρ i) = g.ρ i
    rw [if_neg (Nat.ne_of_lt h)]
  Z := fun _ h => h
  H := fun b o h _ => by
    show upd g.H a u b = some o
    rw [upd_ne (ne_of_none h hp)]; exact h
  dom := fun b h => by
    show upd g.H a u b ≠ none
    rcases Classical.em (b = a) with q | q
    · rw [q, upd_same]; simp
    · rw [upd_ne q]; exact h
  zNew := fun b h => .inl h
  mNew := fun i h => by
    by_cases e : i = g.s.n
    · refine .inr ⟨Nat.le_of_eq e.symm, ?_⟩
      show g.H (if i = g.s.n then a else g.ρ i) = none
      rw [if_pos e]; exact hp
    · refine .inl fun q => h ?_
      show (if i = g.s.n then some o else g.s.m i) = none
      rw [if_neg e]; exact q
theorem newM_ok {a : Addr} {u : HO} {o : PO} (ok : g.Ok K mg) (hp : g.H a = none) (hn : RelO K mg (g.newM a u o) o a) : (g.newM a u o).Ok K mg := by
  have old : ∀ i, (g.newM a u o).s.m i ≠ none → i ≠ g.s.n → g.s.m i ≠ none := fun i h e q => h (by
    show (if i = g.s.n then some o else g.s.m i) = none
    rw [if_neg e]; exact q)
  have ρo : ∀ i, i ≠ g.s.n → (g.newM a u o).ρ i = g.ρ i := fun i e => if_neg e
  have ρn : (g.newM a u o).ρ g.s.n = a := if_pos rfl
  refine ⟨fun i h => ?_, fun i j hi hj e => ?_, fun i hi z => ?_, fun b h => ?_, fun i o' h => ?_⟩
  · show (if i = g.s.n then some o else g.s.m i) = none
    have h' : g.s.n + 1 ≤ i := h
    rw [if_neg (by omega)]
    exact ok.wf i (by omega)
  · by_cases ei : i = g.s.n
    · by_cases ej : j = g.s.n
      · omega
      · rw [ei, ρn, ρo j ej] at e
        obtain ⟨w, q, _⟩ := ok.kind ⟨j, old j hj ej, e.symm⟩
        rw [hp] at q; cases q
    · by_cases ej : j = g.s.n
      · rw [ej, ρn, ρo i ei] at e
        obtain ⟨w, q, _⟩ := ok.kind ⟨i, old i hi ei, e⟩
        rw [hp] at q; cases q
      · rw [ρo i ei, ρo j ej] at e
        exact ok.inj i j (old i hi ei) (old j hj ej) e
  · by_cases ei : i = g.s.n
    · rw [ei, ρn] at z; exact ok.zd a z hp
    · rw [ρo i ei] at z; exact ok.out i (old i hi ei) z
  · exact (newM_ext (o := o) hp).dom b (ok.zd b h)
  · by_cases ei : i = g.s.n
    · have h' : (if i = g.s.n then some o else g.s.m i) = some o' := h
      rw [if_pos ei] at h'
      cases h'
      rw [ei, ρn]; exact hn
    · have h' : (if i = g.s.n then some o else g.s.m i) = some o' := h
      rw [if_neg ei] at h'
      rw [ρo i ei]
      exact RelO.ext ok (newM_ext hp) (fun w q => by
        show upd g.H a u _ = some w
        rw [upd_ne (ne_of_none q hp)]; exact q) (ok.obj i o' h')
end
end
end Mr
namespace Mr
noncomputable section
open PySem PySem.Spec PyProof.Rows L2
section
variable {K : PySem.W.Frag} {mg : MG} {g : G} {X : Cx} {W : WY} {pos : Pos} {a b c : Expr} {es : List Expr} {f h k : EX} {fs : List EX}
theorem ie_lstM (ha : IA X W es (eList fs)) : IE X W (.List es pos) (eLstM fs) :=
  PE.weak (pe_lst ha) fun σ H Q q => by
    unfold tLst
    refine (RdA.seq (R := fun g p v => RelPs X.K X.mg g p v) (f := eList fs) (k := fun xs e s => if xs.length ≤ LIM then Res.ok (PV.obj s.n) (s.new (.lst xs)) else Res.stuck) q).imp fun v H1 q => ?_
    obtain ⟨p, g, env, rfl, ok, re, r, q⟩ := q
    by_cases hl : p.length ≤ LIM
    · simp only [hl, if_true] at q
      refine ⟨by rw [← r.length]; exact toSz hl, fun a ha => ?_⟩
      have x := newM_ext (g := g) (u := .lst v) (o := .lst p) ha
      exact q (g.newM a (.lst v) (.lst p)) _ x (newM_ok ok ha ⟨v, upd_same, r.ext ok x⟩) rfl (by
        simp only [RelP]
        exact ⟨Nat.lt_succ_self _, by simp⟩)
    · simp only [hl, if_false] at q
      exact q.elim
/-- what a def promises: it computes F -/
def SpM (K : PySem.W.Frag) (mg : MG) (ps : List Str) (F : FN) : Sp := fun vs H Q E => vs.length = ps.length ∧ ∃ g args, g.H = H ∧ g.Ok K mg ∧ RelPs K mg g args vs ∧
  match F args g.s with
  | .ok p s' => ∀ g' v, Ext g g' → g'.Ok K mg → g'.s = s' → RelP K mg g' p v → Q v g'.H
  | .exc c p s' => ∀ g' cls d, Ext g g' → g'.Ok K mg → g'.s = s' → ExcR K mg c p g' cls d → E cls d g'.H
  | .stuck => False
/-- the def x stands, and computes F -/
structure Def (P : Program) (w : World) (K : PySem.W.Frag) (mg : MG) (base : Heap) (k : Nat) (x : Str) (st : Stmt) (ps : List Str) (F : FN) : Prop where
  ex : ∃ f fd, mg x = some (.ref f) ∧ PySem.W.keepIn K (.ref f) = true ∧ Fun K x x st f fd ∧ Binds K fd ps [] ∧ FnOk P w K mg base (L2.CX P w) k f fd ps (SpM K mg ps F)
theorem SpM.of {ps : List Str} {F : FN} {xs : List PV} {vs : List V} {H : Hp} {Q : VK} {σ : L2.St} (hl : vs.length = ps.length) (e : g.H = H) (ok : g.Ok K mg) (r : RelPs K mg g xs vs)
    (q : OutA K mg (fun g p v => RelP K mg g p v) g σ W (F xs g.s) Q) : SpM K mg ps F vs H Q (WE W.w σ) := by
  refine ⟨hl, g, xs, e, ok, r, ?_⟩
  revert q
  cases F xs g.s with
  | exc c p s' => exact id
  | stuck => exact id
  | ok x s1 => exact id
theorem ia_len {σ : L2.St} {H : Hp} {Q : List V → Hp → Prop} : ∀ {fs : List EX} {n : Nat}, fs.length = n → RdL K mg W (eList fs) σ H Q → RdL K mg W (eList fs) σ H (fun vs H => vs.length = n ∧ Q vs H) := by
  intro fs n hn q
  have len : ∀ (fs : List EX) (env : Env) (s : MS) (xs : List PV) (s' : MS), eList fs env s = .ok xs s' → xs.length = fs.length := by
    intro fs
    induction fs with
    | nil => intro env s xs s' h; simp only [eList] at h; cases h; rfl
    | cons f fs ih =>
      intro env s xs s' h
      simp only [eList] at h
      cases hf : f env s with
      | exc c p s' => rw [hf] at h; cases h
      | stuck => rw [hf] at h; cases h
      | ok x s1 =>
        rw [hf] at h
        simp only [bind_ok] at h
        cases hr : eList fs env s1 with
        | exc c p s' => rw [hr] at h; cases h
        | stuck => rw [hr] at h; cases h
        | ok ys s2 =>
          rw [hr] at h
          simp only [bind_ok] at h
          cases h
          simp [ih env s1 ys _ hr]
  obtain ⟨g, env, e, ok, re, q⟩ := q
  refine ⟨g, env, e, ok, re, ?_⟩
  revert q
  cases hf : eList fs env g.s with
  | exc c p s' => exact id
  | stuck => exact id
  | ok xs s1 => exact fun q g' v x' ok' es r => ⟨by rw [← r.length, len fs env g.s xs s1 hf, hn], q g' v x' ok' es r⟩
/-- f(..) of a def of the program -/
theorem ie_call {lv : Nat} {x : Str} {st : Stmt} {ps : List Str} {F : FN} {p : Pos} (D : Def X.prog X.w X.K X.mg X.base lv x st ps F) (hr : Room lv X.A) (hg : Gl X x) (tk : Takes X W.w) (ha : IA X W (a :: es) (eList fs)) (hn : fs.length = ps.length := by rfl)
    (hdb : (x == ("__debug__" : Str)) = false := by decide) (he : starEach (a :: es) X.env = (false, eval a X.env) :: starEach es X.env := by rfl) (hpl : (backTo pos (starEach es X.env)).any (·.1) = false := by rfl) :
    IE X W (.Call (.Name x p) (a :: es) [] pos) (eCall F fs) := by
  obtain ⟨fa, fd, hm, hk, _, hb, D⟩ := D.ex
  refine PE.weak (pe_callS D hr hg hm hk hb (fun σ => passAt tk σ) ha hdb he hpl) fun σ H Q q => ?_
  unfold tCallS
  have q1 := RdA.seq (R := fun g p v => RelPs X.K X.mg g p v) (f := eList fs) (k := fun xs e s => F xs s) q
  refine (ia_len hn q1).imp fun v H1 ⟨hl, q⟩ => ?_
  obtain ⟨xs, g, env, e, ok, re, r, q⟩ := q
  exact SpM.of hl e ok r q
/-- f() -/
theorem ie_call0 {lv : Nat} {x : Str} {st : Stmt} {F : FN} {p : Pos} (D : Def X.prog X.w X.K X.mg X.base lv x st [] F) (hr : Room lv X.A) (hg : Gl X x) (tk : Takes X W.w)
    (hdb : (x == ("__debug__" : Str)) = false := by decide) : IE X W (.Call (.Name x p) [] [] pos) (eCall F []) := by
  obtain ⟨fa, fd, hm, hk, _, hb, D⟩ := D.ex
  refine ⟨fun pins s σ H Q I q => ?_⟩
  refine wpAny_Call_Name_kw (ld_glob I hg hm ?_ hdb)
  obtain ⟨g, env, e, ok, re, q⟩ := q
  exact PySem.W.callWith_K0 I.kIn hk (run_fnS (us := []) (E := WE W.w) D hr hb (passAt tk σ) I .nil (SpM.of (xs := []) rfl e ok RelPs.nil q))
/-! keywords -/
abbrev IK (X : Cx) (W : WY) (kws : List Keyword) (f : Env → MS → Res (List PV)) : Prop := PK X kws (RdL X.K X.mg W f)
theorem PK.weak {kws : List Keyword} {t t' : TA} (h : PK X kws t) (w : ∀ σ H Q, t' σ H Q → t σ H Q) : PK X kws t' := ⟨fun pos pins s σ H Q I q => h.run pos pins s σ H Q I (w σ H Q q)⟩
theorem ik_nil : IK X W [] (eList []) := PK.weak pk_nil fun σ H Q q => RdA.pure (fun g => RelPs.nil) q
theorem ik_cons {nm : Option Str} {kpos : Pos} {kws : List Keyword} (ha : IE X W a f) (hr : IK X W kws (eList fs)) : IK X W (⟨nm, a, kpos⟩ :: kws) (eList (f :: fs)) :=
  PK.weak (pk_cons ha hr) fun σ H Q q => by
    unfold tCons
    refine (RdA.seq (R := fun g p v => RelP X.K X.mg g p v) (f := f) (k := fun x e s => (eList fs e s).bind fun xs s => .ok (x :: xs) s) q).imp fun v H1 q => ?_
    obtain ⟨p, g, env, e, ok, re, r, q⟩ := q
    refine ⟨g, env, e, ok, re, ?_⟩
    revert q
    cases eList fs env g.s with
    | exc c p s' => exact id
    | stuck => exact id
    | ok xs s2 => exact fun q g' v x' ok' es r2 => q g' _ x' ok' es (RelPs.cons (r.ext ok x') r2)
/-- the arguments in the parameters' order -/
def kwG {α : Type} (n m : Nat) (order : List Nat) (d : α) (us ws : List α) : List α := if us.length = n ∧ ws.length = m then order.map (fun j => (us ++ ws).getD j d) else []
def eCallKw (F : FN) (order : List Nat) (fs hs : List EX) : EX := fun e s => (eList fs e s).bind fun xs s => (eList hs e s).bind fun ys s => F (order.map fun j => (xs ++ ys).getD j .non) s
theorem vals_getD {us : List V} {ws : List Value} (r : Vals us ws) (j : Nat) : RelV (us.getD j .non) (ws.getD j .none) := by
  cases e : us[j]? with
  | none =>
    have e2 := r.none_of e
    rw [List.getD_eq_getElem?_getD, List.getD_eq_getElem?_getD, e, e2]; rfl
  | some v =>
    obtain ⟨u, e2, q⟩ := r.get e
    rw [List.getD_eq_getElem?_getD, List.getD_eq_getElem?_getD, e, e2]; exact q
theorem vals_map {us : List V} {ws : List Value} (r : Vals us ws) : ∀ order : List Nat, Vals (order.map fun j => us.getD j .non) (order.map fun j => ws.getD j .none)
  | [] => .nil
  | j :: js => .cons (vals_getD r j) (vals_map r js)
theorem kb_of {K : PySem.W.Frag} {x qual : Str} {st : Stmt} {f : Addr} {fd : FuncData} {ps ks : List Str} {n m : Nat} {order : List Nat} (F : Fun K x qual st f fd) (hp : ps ≠ [])
    (h : ∀ (kV doc pm : Value) (an : Option Addr) (cdv ct : Value) (us ws : List Value), us.length = n → ws.length = m →
      bindArgs (PySem.W.fnOf x qual (defArgs st) (defBody st) (defScope st) .none kV doc pm an cdv ct) ⟨us, ks.zip ws⟩ = pure (ps.zip (order.map fun j => (us ++ ws).getD j .none))) :
    KBinds K fd ps ks (kwG n m order .none) (kwG n m order .non) := by
  obtain ⟨oc, od, kV, doc, pm, an, cdv, ct, osl, rfl, lk, cd⟩ := F.ex
  refine ⟨fun s us ws hk hl => ?_, fun {vs us zs ws} r1 r2 => ?_⟩
  · unfold kwG at hl ⊢
    by_cases c : us.length = n ∧ ws.length = m
    · rw [if_pos c]
      exact BindsTo.of_eq (h kV doc pm an cdv ct us ws c.1 c.2)
    · rw [if_neg c] at hl
      cases ps with
      | nil => exact absurd rfl hp
      | cons _ _ => simp at hl
  · unfold kwG
    rw [← r1.length, ← r2.length]
    by_cases c : vs.length = n ∧ zs.length = m
    · rw [if_pos c, if_pos c]
      exact vals_map (Vals.append r1 r2) order
    · rw [if_neg c, if_neg c]
      exact .nil
theorem RelPs.getD {l : List PV} {vs : List V} (r : RelPs K mg g l vs) (j : Nat) : RelP K mg g (l.getD j .non) (vs.getD j .non) := by
  cases e : l[j]? with
  | none =>
    have e2 : vs[j]? = none := by
      rw [List.getElem?_eq_none_iff] at e ⊢
      rw [← r.length]; exact e
    rw [List.getD_eq_getElem?_getD, List.getD_eq_getElem?_getD, e, e2]; simp only [Option.getD, RelP]
  | some v =>
    obtain ⟨u, e2, q⟩ := r.get' e
    rw [List.getD_eq_getElem?_getD, List.getD_eq_getElem?_getD, e, e2]; exact q
theorem RelPs.order {l : List PV} {vs : List V} (r : RelPs K mg g l vs) : ∀ order : List Nat, RelPs K mg g (order.map fun j => l.getD j .non) (order.map fun j => vs.getD j .non)
  | [] => RelPs.nil
  | j :: js => RelPs.cons (r.getD j) (RelPs.order r js)
theorem run_fnkS {CX : CXT} {k : Nat} {f : Addr} {fd : FuncData} {ps ks : List Str} {sp : Sp} {E : L2.St → XK} {gl : List Value → List Value → List Value} {gV : List V → List V → List V} {pins : List (Addr × Obj)} {σ : L2.St} {H : Hp} {s : Shared} {Q : VK} {us ws : List Value} {vs zs : List V}
    (F : FnOk X.prog X.w X.K X.mg X.base CX k f fd ps sp) (hr : Room k X.A) (hb : KBinds X.K fd ps ks gl gV) (hx : PassesAt CX X σ (E σ))
    (I : Inv X pins σ H s) (r : Vals vs us) (rz : Vals zs ws) (h : sp (gV vs zs) H Q (E σ)) : wpAny (model X.prog X.w) X.A (call (.ref f) us (ks.zip ws)) (EP X pins σ Q) X.xe s := by
  have r2 := hb.rel r rz
  have hl : (gl us ws).length = ps.length := by rw [← r2.length]; exact F.len _ _ _ _ h
  refine wpAny_call (codeAny_mono (F.run X.A X.stack s H ⟨us, ks.zip ws⟩ (gl us ws) (gV vs zs) Q (E σ) hr I.env0 (hb.to s us ws I.kIn hl) r2 h) fun r s' hq => ?_)
  cases r with
  | error e => exact hx pins H s e s' I hq
  | ok fl =>
    cases fl with
    | ret u => exact I.after hq
    | next => exact False.elim hq
    | brk => exact False.elim hq
    | cont => exact False.elim hq
section
variable {lv : Nat} {x : Str} {st : Stmt} {ps ks : List Str} {F : FN} {p : Pos} {kws : List Keyword} {hs : List EX} {order : List Nat} {n m : Nat}
theorem kw_end {σ : L2.St} {H : Hp} {Q : VK} (hn : fs.length = n) (hm : hs.length = m) (ho : order.length = ps.length)
    (q : RdE K mg W (eCallKw F order fs hs) σ H Q) : RdL K mg W (eList fs) σ H fun vs H1 => RdL K mg W (eList hs) σ H1 fun zs H2 => SpM K mg ps F (kwG n m order .non vs zs) H2 Q (WE W.w σ) := by
  have q1 := RdA.seq (R := fun g p v => RelPs K mg g p v) (f := eList fs) (k := fun xs e s => (eList hs e s).bind fun ys s => F (order.map fun j => (xs ++ ys).getD j .non) s) q
  refine (ia_len hn q1).imp fun vs H1 ⟨hl, q⟩ => ?_
  obtain ⟨xs, g, env, e, ok, re, r, q⟩ := q
  have q2 : RdL K mg W (eList hs) σ H1 (fun zs H2 => ∃ ys g, g.H = H2 ∧ g.Ok K mg ∧ RelPs K mg g xs vs ∧ RelPs K mg g ys zs ∧ OutA K mg (fun g p v => RelP K mg g p v) g σ W (F (order.map fun j => (xs ++ ys).getD j .non) g.s) Q) := by
    refine ⟨g, env, e, ok, re, ?_⟩
    revert q
    cases eList hs env g.s with
    | exc c p s' => exact id
    | stuck => exact id
    | ok ys s2 =>
      intro q g' v x' ok' es r2
      refine ⟨ys, g', rfl, ok', r.ext ok x', r2, ?_⟩
      rw [es]
      exact OutA.back ok ok' x' q
  refine (ia_len hm q2).imp fun zs H2 ⟨hl2, q⟩ => ?_
  obtain ⟨ys, g2, e2, ok2, r1, r2, q⟩ := q
  have ek : kwG n m order V.non vs zs = order.map fun j => (vs ++ zs).getD j .non := by
    unfold kwG
    rw [if_pos ⟨hl, hl2⟩]
  rw [ek]
  exact SpM.of (by rw [List.length_map, ho]) e2 ok2 ((r1.append r2).order order) q
/-- f(.., k = ..) -/
theorem ie_callK (D : Def X.prog X.w X.K X.mg X.base lv x st ps F) (hr : Room lv X.A) (hg : Gl X x) (tk : Takes X W.w) (ha : IA X W (a :: es) (eList fs)) (hkw : IK X W kws (eList hs)) (hp : ps ≠ [])
    (hb : ∀ (kV doc pm : Value) (an : Option Addr) (cdv ct : Value) (us ws : List Value), us.length = fs.length → ws.length = hs.length →
      bindArgs (PySem.W.fnOf x x (defArgs st) (defBody st) (defScope st) .none kV doc pm an cdv ct) ⟨us, ks.zip ws⟩ = pure (ps.zip (order.map fun j => (us ++ ws).getD j .none))) (ho : order.length = ps.length := by rfl)
    (hall : (backToKw pos (keywordEach kws X.env)).all (·.1.isSome) = true := by rfl) (hks : (backToKw pos (keywordEach kws X.env)).filterMap (·.1) = ks := by rfl)
    (hdb : (x == ("__debug__" : Str)) = false := by decide) (he : starEach (a :: es) X.env = (false, eval a X.env) :: starEach es X.env := by rfl)
    (hpl : ((backTo pos (starEach (a :: es) X.env)).any (·.1) || (backToKw pos (keywordEach kws X.env)).any (·.1.isNone)) = false := by rfl) :
    IE X W (.Call (.Name x p) (a :: es) kws pos) (eCallKw F order fs hs) := by
  obtain ⟨fa, fd, hm, hk, F0, _, D⟩ := D.ex
  refine ⟨fun pins s σ H Q I q => ?_⟩
  have q := kw_end (ps := ps) rfl rfl ho q
  refine wpAny_Call_Name_kw (ld_glob I hg hm ?_ hdb)
  refine PySem.W.callWith_KW (h₀ := X.base) I.ok.mod.kin hk hall (thn (ha.run pos pins s σ H _ I q) fun us s1 ⟨vs, H1, I1, r, q⟩ => ?_) hpl he
  refine thn (hkw.run pos pins s1 σ H1 _ I1 q) fun ws s2 ⟨zs, H2, I2, rz, q2⟩ => ⟨I2.kIn, ?_⟩
  rw [hks]
  exact run_fnkS (E := WE W.w) D hr (kb_of F0 hp hb) (passAt tk σ) I2 r rz q2
/-- f(k = ..) -/
theorem ie_callK0 (D : Def X.prog X.w X.K X.mg X.base lv x st ps F) (hr : Room lv X.A) (hg : Gl X x) (tk : Takes X W.w) (hkw : IK X W kws (eList hs)) (hp : ps ≠ [])
    (hb : ∀ (kV doc pm : Value) (an : Option Addr) (cdv ct : Value) (us ws : List Value), us.length = 0 → ws.length = hs.length →
      bindArgs (PySem.W.fnOf x x (defArgs st) (defBody st) (defScope st) .none kV doc pm an cdv ct) ⟨us, ks.zip ws⟩ = pure (ps.zip (order.map fun j => (us ++ ws).getD j .none))) (ho : order.length = ps.length := by rfl)
    (hall : (backToKw pos (keywordEach kws X.env)).all (·.1.isSome) = true := by rfl) (hks : (backToKw pos (keywordEach kws X.env)).filterMap (·.1) = ks := by rfl)
    (hdb : (x == ("__debug__" : Str)) = false := by decide)
    (hpl : ((backTo pos (starEach [] X.env)).any (·.1) || (backToKw pos (keywordEach kws X.env)).any (·.1.isNone)) = false := by rfl) :
    IE X W (.Call (.Name x p) [] kws pos) (eCallKw F order [] hs) := by
  obtain ⟨fa, fd, hm, hk, F0, _, D⟩ := D.ex
  refine ⟨fun pins s σ H Q I q => ?_⟩
  have q := kw_end (ps := ps) (n := 0) rfl rfl ho q
  have q : RdL X.K X.mg W (eList hs) σ H fun zs H2 => SpM X.K X.mg ps F (kwG 0 hs.length order .non [] zs) H2 Q (WE W.w σ) := RdA.pure (fun _ => RelPs.nil) q
  refine wpAny_Call_Name_kw (ld_glob I hg hm ?_ hdb)
  refine PySem.W.callWith_KW0 (h₀ := X.base) I.ok.mod.kin hk hall (thn (hkw.run pos pins s σ H _ I q) fun ws s2 ⟨zs, H2, I2, rz, q2⟩ => ⟨I2.kIn, ?_⟩) hpl
  rw [hks]
  exact run_fnkS (E := WE W.w) (us := []) (vs := []) D hr (kb_of F0 hp hb) (passAt tk σ) I2 .nil rz q2
end
end
end
end Mr
namespace Mr
noncomputable section
open PySem PySem.Spec PyProof.Rows L2
/-! ### what is walked -/
section
variable (K : PySem.W.Frag) (mg : MG)
def ItRel (g : G) (xs : List PV) (J : It) : Prop := ∀ g1, Ext g g1 → g1.Ok K mg → ∀ i : Nat,
  (∀ p, xs[i]? = some p → J.go i g1.H ∧ ∀ v H', J.yld i g1.H v H' → ∃ g2, g2.H = H' ∧ Ext g1 g2 ∧ g2.Ok K mg ∧ g2.s = g1.s ∧ RelP K mg g2 p v) ∧ (xs.length ≤ i → J.stop i g1.H)
end
abbrev II (X : Cx) (W : WY) (tg e : Expr) (f : Env → MS → Res (List PV)) : Prop := PI X tg e (RdA X.K X.mg (ItRel X.K X.mg) W f)
abbrev AS := PV → Env → MS → Option (Env × MS)
section
variable (K : PySem.W.Frag) (mg : MG)
def RdG (B : Option (Nat × Addr × Addr × String × PV)) (ts : List Nat) (as : AS) : TG := fun v σ H Q => ∃ g p env env' s', g.H = H ∧ g.Ok K mg ∧ RelP K mg g p v ∧ RelEnv K mg B g env σ ∧ as p env g.s = some (env', s') ∧
  ∀ g' σ', Ext g g' → g'.Ok K mg → g'.s = s' → RelEnv K mg B g' env' σ' → (∀ i : Nat, i ∉ ts → σ'[i]? = σ[i]?) → σ'.length = σ.length → Q σ' g'.H
def RdGs (B : Option (Nat × Addr × Addr × String × PV)) (ts : List Nat) (as : List PV → Env → MS → Option (Env × MS)) : TGs := fun vs σ H Q => ∃ g ps env env' s', g.H = H ∧ g.Ok K mg ∧ RelPs K mg g ps vs ∧ RelEnv K mg B g env σ ∧ as ps env g.s = some (env', s') ∧
  ∀ g' σ', Ext g g' → g'.Ok K mg → g'.s = s' → RelEnv K mg B g' env' σ' → (∀ i : Nat, i ∉ ts → σ'[i]? = σ[i]?) → σ'.length = σ.length → Q σ' g'.H
end
abbrev IG (X : Cx) (B : Option (Nat × Addr × Addr × String × PV)) (tg : Expr) (ts : List Nat) (as : AS) : Prop := PG X tg (RdG X.K X.mg B ts as)
abbrev IGs (X : Cx) (B : Option (Nat × Addr × Addr × String × PV)) (tgs : List Expr) (ts : List Nat) (as : List PV → Env → MS → Option (Env × MS)) : Prop := PGs X tgs (RdGs X.K X.mg B ts as)
def aName (i : Nat) : AS := fun p e s => some (e.set i (some p), s)
def aAll : List AS → List PV → Env → MS → Option (Env × MS)
  | [], [], e, s => some (e, s)
  | a :: as, p :: ps, e, s => match a p e s with
    | some (e', s') => aAll as ps e' s'
    | none => none
  | _, _, _, _ => none
def aTup (as : List AS) : AS := fun p e s => match p with
  | .tup ps => aAll as ps e s
  | _ => none
def aLst (as : List AS) : AS := fun p e s => match deref s p with
  | .lst ps => aAll as ps e s
  | _ => none
section
variable {K : PySem.W.Frag} {mg : MG} {g : G} {X : Cx} {W : WY} {B : Option (Nat × Addr × Addr × String × PV)} {pos : Pos}
theorem PG.weak {tg : Expr} {t t' : TG} (h : PG X tg t) (w : ∀ v σ H Q, t' v σ H Q → t v σ H Q) : PG X tg t' := ⟨fun pins s σ H v u Q I r q => h.run pins s σ H v u Q I r (w v σ H Q q)⟩
theorem PGs.weak {tg : List Expr} {t t' : TGs} (h : PGs X tg t) (w : ∀ v σ H Q, t' v σ H Q → t v σ H Q) : PGs X tg t' := ⟨fun pins s σ H v u Q I r q => h.run pins s σ H v u Q I r (w v σ H Q q)⟩
theorem RelEnv.set {env : Env} {σ : L2.St} (h : RelEnv K mg B g env σ) (i : Nat) {p : PV} {v : V} (r : RelP K mg g p v) (hB : ∀ b, B = some b → b.1 ≠ i) : RelEnv K mg B g (env.set i (some p)) (σ.set i (some v)) := by
  refine ⟨by simp [h.len], fun i' a dd c p e => ?_, fun j q e => ?_⟩
  · obtain ⟨e1, e2⟩ := h.er i' a dd c p e
    exact ⟨by rw [List.getElem?_set_ne (Ne.symm (hB _ e))]; exact e1, e2⟩
  by_cases hj : j = i
  · subst hj
    have hlt : j < env.length := by
      rcases Nat.lt_or_ge j env.length with z | z
      · exact z
      · rw [List.getElem?_eq_none_iff.mpr (by simpa using z)] at e; cases e
    rw [List.getElem?_set_self hlt] at e
    cases e
    exact ⟨v, List.getElem?_set_self (h.len ▸ hlt), r⟩
  · rw [List.getElem?_set_ne (Ne.symm hj)] at e
    obtain ⟨u, a, b⟩ := h.at_ j q e
    exact ⟨u, by rw [List.getElem?_set_ne (Ne.symm hj)]; exact a, b⟩
theorem ig_name (i : Nat) {x : Str} (hN : X.N.Nodup) (hi : X.N[i]? = some x) (hx : Loc X.env.scope x) (hf : X.fn x = true ∨ X.env.scope.names.lookup x = some .local := by first | exact .inl rfl | exact .inr rfl | assumption) (hB : ∀ b, B = some b → b.1 ≠ i := by intro b h; cases h <;> (dsimp only; decide)) : IG X B (.Name x pos) [i] (aName i) :=
  PG.weak (pg_name hN hi hx hf) fun v σ H Q q => by
    obtain ⟨g, p, env, env', s', e, ok, r, re, ha, q⟩ := q
    have ha' : some (env.set i (some p), g.s) = some (env', s') := ha
    cases ha'
    have h := q g (σ.set i (some v)) (Ext.refl g) ok rfl (re.set i r hB) (fun j hj => List.getElem?_set_ne (fun z => hj (by simp [z]))) (by simp)
    exact e ▸ h
theorem igs_nil : IGs X B [] [] (aAll []) := PGs.weak pgs_nil fun vs σ H Q q => by
  obtain ⟨g, ps, env, env', s', e, ok, r, re, ha, q⟩ := q
  cases ps with
  | nil =>
    have hv := r.length
    have ha' : some (env, g.s) = some (env', s') := ha
    cases ha'
    refine ⟨List.length_eq_zero_iff.mp (by simpa using hv.symm), ?_⟩
    exact e ▸ q g σ (Ext.refl g) ok rfl re (fun _ _ => rfl) rfl
  | cons _ _ => exact nomatch ha
theorem igs_cons {a : Expr} {es : List Expr} {t u : List Nat} {as : AS} {bs : List AS} (h1 : IG X B a t as) (h2 : IGs X B es u (aAll bs))
    (hs : (assignEach (a :: es) X.env).map (·.2) = assign a X.env :: (assignEach es X.env).map (·.2) := by rfl) : IGs X B (a :: es) (t ++ u) (aAll (as :: bs)) :=
  PGs.weak (pgs_cons h1 h2 hs) fun vs σ H Q q => by
    obtain ⟨g, ps, env, env', s', e, ok, r, re, ha, q⟩ := q
    cases ps with
    | nil => exact nomatch ha
    | cons p ps =>
      simp only [RelPs] at r
      obtain ⟨v, rs, rfl, r1, r2⟩ := r
      simp only [aAll] at ha
      cases hp : as p env g.s with
      | none => rw [hp] at ha; exact nomatch ha
      | some es1 =>
        obtain ⟨env1, s1⟩ := es1
        rw [hp] at ha
        refine ⟨v, rs, rfl, g, p, env, env1, s1, e, ok, r1, re, hp, fun g1 σ1 x1 ok1 e1 re1 k1 l1 => ?_⟩
        refine ⟨g1, ps, env1, env', s', rfl, ok1, r2.ext ok x1, re1, by rw [e1]; exact ha, fun g2 σ2 x2 ok2 e2 re2 k2 l2 => ?_⟩
        exact q g2 σ2 (x1.trans ok ok1 x2) ok2 e2 re2 (fun i hi => (k2 i (fun z => hi (List.mem_append_right _ z))).trans (k1 i fun z => hi (List.mem_append_left _ z))) (l2.trans l1)
theorem ig_tup {es : List Expr} {k : Nat} {ts : List Nat} {as : List AS} (hc : X.calm = true) (h : IGs X B es ts (aAll as)) (hl : as.length = es.length := by rfl)
    (hn : (assignEach es X.env).length = es.length := by rfl) (hst : (assignEach es X.env).findIdx? (·.1) = none := by rfl) : IG X B (.Tuple es k pos) ts (aTup as) :=
  PG.weak (pg_tup hc h hn hst) fun v σ H Q q => by
    obtain ⟨g, p, env, env', s', e, ok, r, re, ha, q⟩ := q
    cases p with
    | tup ps =>
      simp only [RelP] at r
      obtain ⟨a, vs, rfl, h1, h2⟩ := r
      have len : ∀ (as : List AS) (ps : List PV) (e : Env) (s : MS) (z : Env × MS), aAll as ps e s = some z → ps.length = as.length := by
        intro as
        induction as with
        | nil => intro ps e s z h; cases ps with
          | nil => rfl
          | cons _ _ => exact nomatch h
        | cons a as ih => intro ps e s z h; cases ps with
          | nil => exact nomatch h
          | cons p ps =>
            simp only [aAll] at h
            cases hp : a p e s with
            | none => rw [hp] at h; exact nomatch h
            | some es => rw [hp] at h; simp [ih _ _ _ _ h]
      exact ⟨a, vs, rfl, e ▸ SqT.of h1, by rw [← h2.length, len as ps env g.s _ ha, hl], g, ps, env, env', s', e, ok, h2, re, ha, q⟩
    | _ => exact nomatch ha
end
/-! ### list comprehensions -/
def compM (as : AS) (tt : ET) (te : EX) (env : Env) : List PV → MS → Res (List PV)
  | [], s => .ok [] s
  | x :: xs, s => match as x env s with
    | none => .stuck
    | some (e, s) => (tt e s).bind fun b s => if b = true then (te e s).bind fun y s => (compM as tt te env xs s).bind fun ys s => .ok (y :: ys) s else compM as tt te env xs s
/-- nothing is raised -/
def Res.calm {α : Type} : Res α → Res α
  | .ok a s => .ok a s
  | _ => .stuck
def wipeE (env : Env) : List Nat → Env
  | [] => env
  | v :: vs => (wipeE env vs).set v none
def tYs : ET := fun _ s => .ok true s
def eComp (vs : List Nat) (fi : Env → MS → Res (List PV)) (as : AS) (tt : ET) (te : EX) : EX := fun e s => (fi e s).bind fun xs s => if xs.length ≤ LIM then (compM as tt te (wipeE e vs) xs s).calm.bind fun ys s => .ok (.lst ys) s else .stuck
abbrev W0 : WY := ⟨fun _ _ _ _ => False, none⟩
section
variable {K : PySem.W.Frag} {mg : MG} {g g' : G}
/-- a list that is being made: nobody knows it -/
structure Hid (g : G) (D : Addr) (l : List V) : Prop where
  at_ : g.H D = some (.lst l)
  z : ¬ g.Z D
  live : ¬ Live g D
theorem Hid.ext {D : Addr} {l : List V} (ok : g.Ok K mg) (x : Ext g g') (h : Hid g D l) : Hid g' D l := by
  refine ⟨x.H D _ h.at_ h.live, fun z => ?_, fun ⟨i, hi, e⟩ => ?_⟩
  · rcases x.zNew D z with q | q | q
    · exact h.z q
    · rw [h.at_] at q; cases q
    · exact h.live q
  · rcases x.mNew i hi with q | ⟨_, q⟩
    · exact h.live ⟨i, q, (x.ρ i (ok.lt q)).symm.trans e⟩
    · rw [e, h.at_] at q; cases q
abbrev G.re (g : G) (D : Addr) (l : List V) : G := { g with H := upd g.H D (.lst l) }
section
variable {D : Addr} {l l' : List V}
theorem Hid.keeps (h : Hid g D l) : Keeps g (g.re D l') where
  n := Nat.le_refl _
  ρ := fun _ _ => rfl
  tup := fun a vs t => by
    show upd g.H D _ a = _
    rw [upd_ne (fun z => by rw [z, h.at_] at t; cases t)]; exact t
  frz := fun a o u t => by
    show upd g.H D _ a = _
    rw [upd_ne (fun z => by rw [z, h.at_] at t; cases t)]; exact t
  lst := fun a vs t z => ⟨by
    show upd g.H D _ a = _
    rw [upd_ne (fun q => h.z (by rw [← q]; exact z))]; exact t, z⟩
theorem Hid.re (h : Hid g D l) : Hid (g.re D l') D l' := ⟨upd_same, h.z, h.live⟩
theorem Hid.ok (ok : g.Ok K mg) (h : Hid g D l) : (g.re D l').Ok K mg where
  wf := ok.wf
  inj := ok.inj
  out := ok.out
  zd := fun a z => by
    show upd g.H D _ a ≠ none
    rw [upd_ne (fun q => h.z (by rw [← q]; exact z))]; exact ok.zd a z
  obj := fun i o e => RelO.keep h.keeps (fun u q => by
    show upd g.H D _ _ = _
    rw [upd_ne (fun z => h.live ⟨i, by
      have e' : g.s.m i = some o := e
      rw [e']; simp, z⟩)]; exact q) (ok.obj i o e)
theorem Hid.extRe {g0 : G} (x : Ext g0 g) (h0 : g0.H D = none) : Ext g0 (g.re D l') where
  n := x.n
  ρ := x.ρ
  Z := x.Z
  H := fun a o e nl => by
    show upd g.H D _ a = _
    rw [upd_ne (ne_of_none e h0)]; exact x.H a o e nl
  dom := fun a e => by
    show upd g.H D _ a ≠ none
    by_cases q : a = D
    · rw [q, upd_same]; simp
    · rw [upd_ne q]; exact x.dom a e
  zNew := x.zNew
  mNew := x.mNew
/-- the list is done: it stands as it is -/
abbrev G.seal (g : G) (D : Addr) : G := { g with Z := fun b => g.Z b ∨ b = D }
theorem seal_keeps : Keeps g (g.seal D) := ⟨Nat.le_refl _, fun _ _ => rfl, fun _ _ q => q, fun _ _ _ q => q, fun _ _ q z => ⟨q, .inl z⟩⟩
theorem Hid.seal_ok (ok : g.Ok K mg) (h : Hid g D l) : (g.seal D).Ok K mg where
  wf := ok.wf
  inj := ok.inj
  out := fun i hi z => by
    rcases z with z | z
    · exact ok.out i hi z
    · exact h.live ⟨i, hi, z⟩
  zd := fun a z => by
    rcases z with z | z
    · exact ok.zd a z
    · rw [z]; show g.H D ≠ none; rw [h.at_]; simp
  obj := fun i o e => RelO.keep seal_keeps (fun _ q => q) (ok.obj i o e)
theorem seal_ext {g0 : G} (x : Ext g0 g) (h0 : g0.H D = none) : Ext g0 (g.seal D) where
  n := x.n
  ρ := x.ρ
  Z := fun a z => .inl (x.Z a z)
  H := x.H
  dom := x.dom
  zNew := fun a z => by
    rcases z with z | z
    · exact x.zNew a z
    · exact .inr (.inl (z ▸ h0))
  mNew := x.mNew
end
end
section
variable {X : Cx} {W : WY} {elt tg iter : Expr} {ifs : List Expr} {scope : Scope} {own : List (Str × Nat)} {pos : Pos} {fi : Env → MS → Res (List PV)} {as : AS} {tt : ET} {te : EX} {ts : List Nat}
theorem wipeE_length (e : Env) : ∀ vs : List Nat, (wipeE e vs).length = e.length
  | [] => rfl
  | v :: vs => by simp [wipeE, wipeE_length e vs]
theorem RelEnv.wipe {K : PySem.W.Frag} {mg : MG} {g : G} {B : Option (Nat × Addr × Addr × String × PV)} {env : Env} {σ : L2.St} (h : RelEnv K mg B g env σ) : ∀ vs : List Nat, RelEnv K mg none g (wipeE env vs) (L2.wipe σ vs)
  | [] => ⟨h.len, fun _ _ _ _ _ e => (nomatch e), h.at_⟩
  | v :: vs => by
    have ih := RelEnv.wipe h vs
    refine ⟨by simp [wipeE, L2.wipe, ih.len], fun _ _ _ _ _ e => (nomatch e), fun i p e => ?_⟩
    simp only [wipeE] at e
    by_cases hi : i = v
    · subst hi
      rw [List.getElem?_set] at e
      simp at e
    · rw [List.getElem?_set_ne (Ne.symm hi)] at e
      obtain ⟨u, a, b⟩ := ih.at_ i p e
      exact ⟨u, by simp only [L2.wipe]; rw [List.getElem?_set_ne (Ne.symm hi)]; exact a, b⟩
theorem wipe_congr {σ σ' : L2.St} : ∀ {vs : List Nat}, σ'.length = σ.length → (∀ i, i ∉ vs → σ'[i]? = σ[i]?) → L2.wipe σ' vs = L2.wipe σ vs := by
  intro vs hl h
  have key : ∀ (vs : List Nat) (σ : L2.St) (i : Nat), (L2.wipe σ vs)[i]? = if i ∈ vs then (if i < σ.length then some none else none) else σ[i]? := by
    intro vs
    induction vs with
    | nil => intro σ i; simp [L2.wipe]
    | cons v vs ih =>
      intro σ i
      simp only [L2.wipe]
      by_cases hi : i = v
      · subst hi
        rw [List.getElem?_set]
        simp [L2.wipe_length]
      · rw [List.getElem?_set_ne (Ne.symm hi), ih σ i]
        simp [hi]
  apply List.ext_getElem?
  intro i
  rw [key vs σ' i, key vs σ i, hl]
  by_cases hi : i ∈ vs
  · simp [hi]
  · simp [hi, h i hi]
abbrev ITs (X : Cx) (W : WY) (ifs : List Expr) (f : ET) : Prop := PTs X ifs (RdT X.K X.mg W f)
theorem its_nil : ITs X W [] tYs := by
  refine ⟨fun pins s σ H Q I q => pts_nil.run pins s σ H Q I ?_⟩
  exact RdA.pure (fun _ => rfl) q
theorem its_one {c : Expr} {t : ET} (h : IT X W c t) : ITs X W [c] t := pts_one h
/-- [elt for tg in iter if ..]: a list that nobody changes -/
theorem tLc_of {K : PySem.W.Frag} {mg : MG} {σ : L2.St} {H : Hp} {Q : VK} {vs : List Nat} (hts : ∀ i ∈ ts, i ∈ vs) (q : RdE K mg W (eComp vs fi as tt te) σ H Q) :
    tLc (RdA K mg (ItRel K mg) W fi) (RdG K mg none ts as) (RdT K mg W0 tt) (RdE K mg W0 te) vs σ H Q := by
  unfold tLc
  refine (RdA.seq (R := ItRel K mg) (f := fi) (k := fun xs e s => if xs.length ≤ LIM then (compM as tt te (wipeE e vs) xs s).calm.bind fun ys s => Res.ok (PV.lst ys) s else Res.stuck) q).imp fun J H1 q => ?_
  obtain ⟨xs, g, env, rfl, ok, re, J0, q⟩ := q
  intro D hD
  by_cases hl : xs.length ≤ LIM
  · simp only [hl, if_true] at q
    -- the invariant
    let P : Nat → Hp → Prop := fun i H => ∃ g1 acc accV, g1.H = H ∧ g1.Ok K mg ∧ Ext g g1 ∧ Hid g1 D accV ∧ RelPs K mg g1 acc accV ∧ acc.length ≤ i ∧
      match compM as tt te (wipeE env vs) (xs.drop i) g1.s with
      | .ok ys s' => ∀ g' v, Ext g g' → g'.Ok K mg → g'.s = s' → RelP K mg g' (.lst (acc ++ ys)) v → Q v g'.H
      | _ => False
    refine ⟨fun i m H => m = xs.length - i ∧ i ≤ xs.length ∧ P i H, ⟨xs.length, by simp, Nat.zero_le _, ?_⟩, ?_⟩
    · have h0 : Hid (g.new D (.lst [])) D [] := ⟨upd_same, fun z => ok.zd D z hD, fun ⟨i, hi, e⟩ => by
        obtain ⟨o, e2, _⟩ := ok.kind ⟨i, hi, e⟩
        rw [hD] at e2; cases e2⟩
      refine ⟨g.new D (.lst []), [], [], rfl, G.new_ok ok hD, G.new_ext hD, h0, RelPs.nil, Nat.le_refl _, ?_⟩
      rw [List.drop_zero]
      show (match compM as tt te (wipeE env vs) xs g.s with
        | .ok ys s' => _
        | _ => False)
      revert q
      cases compM as tt te (wipeE env vs) xs g.s with
      | exc c p s' => exact id
      | stuck => exact id
      | ok ys s' =>
        intro q g' v x' ok' es r
        exact q g' v x' ok' es (by simpa using r)
    · rintro i m H ⟨rfl, hi, g1, acc, accV, rfl, ok1, x1, hid, ra, hai, fin⟩
      by_cases hlt : i < xs.length
      · obtain ⟨p, hp⟩ : ∃ p, xs[i]? = some p := ⟨xs[i], by simp [hlt]⟩
        have J1 := J0 g1 x1 ok1 i
        obtain ⟨hgo, hy⟩ := J1.1 p hp
        refine .inr ⟨hgo, P (i + 1), fun H' h => ⟨xs.length - (i + 1), by omega, rfl, hlt, h⟩, fun x H' hyl => ?_⟩
        obtain ⟨g2, rfl, x2, ok2, e2, rp⟩ := hy x H' hyl
        have hdrop : xs.drop i = p :: xs.drop (i + 1) := by
          rw [List.drop_eq_getElem_cons hlt]
          congr 1
          have := (List.getElem?_eq_some_iff.mp hp).2
          exact this
        rw [hdrop] at fin
        simp only [compM] at fin
        cases ha : as p (wipeE env vs) g1.s with
        | none => rw [ha] at fin; exact fin.elim
        | some es =>
          obtain ⟨env', s3⟩ := es
          rw [ha] at fin
          dsimp only at fin
          have x12 := x1.trans ok ok1 x2
          have hid2 := hid.ext ok1 x2
          refine ⟨g2, p, wipeE env vs, env', s3, rfl, ok2, rp, (re.ext ok x12).wipe vs, by rw [e2]; exact ha, fun g3 σ3 x3 ok3 e3 re3 k3 l3 => ?_⟩
          have x13 := x12.trans ok ok2 x3
          have hid3 := hid2.ext ok2 x3
          have l3' : σ3.length = (L2.wipe σ vs).length := l3
          refine ⟨by
            rw [wipe_congr (σ := L2.wipe σ vs) l3' (fun j hj => k3 j fun z => hj (hts j z))]
            exact wipe_congr (L2.wipe_length σ vs) (fun j hj => L2.wipe_out hj), g3, env', rfl, ok3, re3, ?_⟩
          subst e3
          revert fin
          cases tt env' g3.s with
          | exc c p s' => exact fun h => h.elim
          | stuck => exact id
          | ok b s4 =>
            simp only [bind_ok]
            intro fin g4 b' x4 ok4 e4 hb
            subst hb
            have x14 := x13.trans ok ok3 x4
            have hid4 := hid3.ext ok3 x4
            have ra4 := ((ra.ext ok1 x2).ext ok2 x3).ext ok3 x4
            cases b with
            | false =>
              simp only [if_neg Bool.false_ne_true] at fin ⊢
              subst e4
              exact ⟨g4, acc, accV, rfl, ok4, x14, hid4, ra4, by omega, fin⟩
            | true =>
              simp only [if_true] at fin ⊢
              refine ⟨g4, env', rfl, ok4, re3.ext ok3 x4, ?_⟩
              subst e4
              revert fin
              cases te env' g4.s with
              | exc c p s' => exact fun h => h.elim
              | stuck => exact id
              | ok y s5 =>
                simp only [bind_ok]
                intro fin g5 v x5 ok5 e5 r5
                have hid5 := hid4.ext ok4 x5
                have ra5 := ra4.ext ok4 x5
                have x15 := x14.trans ok ok4 x5
                refine ⟨accV, hid5.at_, ?_, ?_⟩
                · rw [← sizeLIM, ← ra.length]
                  omega
                · refine ⟨g5.re D (accV ++ [v]), acc ++ [y], accV ++ [v], rfl, hid5.ok ok5, Hid.extRe x15 hD, hid5.re, (ra5.append (RelPs.cons r5 RelPs.nil)).keep hid5.keeps, by simp; omega, ?_⟩
                  show (match compM as tt te (wipeE env vs) (xs.drop (i + 1)) g5.s with
                    | .ok ys s' => _
                    | _ => False)
                  subst e5
                  revert fin
                  cases compM as tt te (wipeE env vs) (xs.drop (i + 1)) g5.s with
                  | exc c p s' => exact id
                  | stuck => exact id
                  | ok ys s' =>
                    intro fin g' w x' ok' es r
                    exact fin g' w x' ok' es (by simpa using r)
      · have e : i = xs.length := by omega
        subst e
        refine .inl ⟨(J0 g1 x1 ok1 _).2 (Nat.le_refl _), ?_⟩
        rw [List.drop_length] at fin
        simp only [compM, List.append_nil] at fin
        refine fin (g1.seal D) (.ref D) (seal_ext x1 hD) (hid.seal_ok ok1) rfl ?_
        simp only [RelP]
        exact ⟨D, accV, rfl, ⟨hid.at_, .inr rfl⟩, ra.keep seal_keeps⟩
  · simp only [hl, if_false] at q
    exact q.elim
theorem ie_lc (hc : X.calm = true) (hN : X.N.Nodup) (hi : II X W tg iter fi) (ok : BlkOk X.N X.env.scope scope own)
    (hg : ∀ (s : Shared) (H : Hp) (C : Addr) (cl : List (Str × Addr)) (fp : List Addr), IG (X.blk s H scope (compEnvC scope cl C X.env) fp) none tg ts as) (ht : ∀ (s : Shared) (H : Hp) (C : Addr) (cl : List (Str × Addr)) (fp : List Addr), ITs (X.blk s H scope (compEnvC scope cl C X.env) fp) W0 ifs tt)
    (he : ∀ (s : Shared) (H : Hp) (C : Addr) (cl : List (Str × Addr)) (fp : List Addr), IE (X.blk s H scope (compEnvC scope cl C X.env) fp) W0 elt te) (hts : ∀ i ∈ ts, i ∈ own.map (·.2) := by decide) (hs : ∀ x, foldedSetIterable iter X.env x = pure x := by intro _; rfl) :
    IE X W (.ListComp elt [⟨tg, iter, ifs, 0⟩] scope pos) (eComp (own.map (·.2)) fi as tt te) :=
  PE.weak (pe_lc hc hN hi ok hg ht he hs) fun σ H Q q => tLc_of hts q
end
end
end Mr
namespace Mr
noncomputable section
open PySem PySem.Spec PyProof.Rows L2
/-! ### statements -/
section
variable (K : PySem.W.Frag) (mg : MG)
def OutS (g : G) (W : WY) (D : Ends) (r : SRes) : Prop := match r with
  | .nx e s => ∀ g' σ', Ext g g' → g'.Ok K mg → g'.s = s → RelEnv K mg W.b g' e σ' → D.nx σ' g'.H
  | .rt p s => ∀ g' v, Ext g g' → g'.Ok K mg → g'.s = s → RelP K mg g' p v → D.rt v g'.H
  | .bk e s => ∀ g' σ', Ext g g' → g'.Ok K mg → g'.s = s → RelEnv K mg W.b g' e σ' → D.bk σ' g'.H
  | .ct e s => ∀ g' σ', Ext g g' → g'.Ok K mg → g'.s = s → RelEnv K mg W.b g' e σ' → D.ct σ' g'.H
  | .ex c p e s => ∀ g' cls d σ', Ext g g' → g'.Ok K mg → g'.s = s → RelEnv K mg W.b g' e σ' → ExcR K mg c p g' cls d → W.w cls d σ' g'.H
  | .stuck => False
def RdS (W : WY) (h : SX) : TS := fun D σ H => ∃ g env, g.H = H ∧ g.Ok K mg ∧ RelEnv K mg W.b g env σ ∧ OutS K mg g W D (h env g.s)
end
abbrev IS (X : Cx) (W : WY) (st : Stmt) (h : SX) : Prop := PS X st (RdS X.K X.mg W h)
abbrev ISs (X : Cx) (W : WY) (st : List Stmt) (h : SX) : Prop := PSs X st (RdS X.K X.mg W h)
def sNil : SX := fun e s => .nx e s
def sSeq (h k : SX) : SX := fun e s => match h e s with
  | .nx e s => k e s
  | r => r
def sRet (f : EX) : SX := fun e s => (f e s).sbind e fun x s => .rt x s
def sRetN : SX := fun _ s => .rt .non s
def sDo (f : EX) : SX := fun e s => (f e s).sbind e fun _ s => .nx e s
def sIf (c : ET) (h k : SX) : SX := fun e s => (c e s).sbind e fun b s => if b = true then h e s else k e s
def sSet (f : EX) (as : AS) : SX := fun e s => (f e s).sbind e fun x s => match as x e s with
  | some (e, s) => .nx e s
  | none => .stuck
def forM (as : AS) (body : SX) : List PV → SX
  | [], e, s => .nx e s
  | x :: xs, e, s => match as x e s with
    | none => .stuck
    | some (e, s) => match body e s with
      | .nx e s => forM as body xs e s
      | .ct e s => forM as body xs e s
      | .bk e s => .nx e s
      | r => r
def sFor (fi : Env → MS → Res (List PV)) (as : AS) (body : SX) : SX := fun e s => (fi e s).sbind e fun xs s => forM as body xs e s
def whileM (c : ET) (body : SX) : Nat → SX
  | 0, _, _ => .stuck
  | n + 1, e, s => (c e s).sbind e fun b s => if b = true then (match body e s with
      | .nx e s => whileM c body n e s
      | .ct e s => whileM c body n e s
      | .bk e s => .nx e s
      | r => r) else .nx e s
def sBreak : SX := fun e s => .bk e s
section
variable {K : PySem.W.Frag} {mg : MG} {g g1 : G} {X : Cx} {W : WY} {D : Ends} {pos : Pos} {st : Stmt} {sts body : List Stmt} {a c tg iter : Expr} {h k u : SX} {f : EX} {t : ET}
theorem OutS.back {r : SRes} (ok : g.Ok K mg) (ok1 : g1.Ok K mg) (x : Ext g g1) (h : OutS K mg g W D r) : OutS K mg g1 W D r := by
  cases r with
  | nx e s => exact fun g' σ' x' => h g' σ' (x.trans ok ok1 x')
  | rt p s => exact fun g' v x' => h g' v (x.trans ok ok1 x')
  | bk e s => exact fun g' σ' x' => h g' σ' (x.trans ok ok1 x')
  | ct e s => exact fun g' σ' x' => h g' σ' (x.trans ok ok1 x')
  | ex c p e s => exact fun g' cls d σ' x' => h g' cls d σ' (x.trans ok ok1 x')
  | stuck => exact h
theorem iss_nil : ISs X W [] sNil := PSs.weak pss_nil fun D σ H q => by
  obtain ⟨g, env, e, ok, re, q⟩ := q
  exact e ▸ q g σ (Ext.refl g) ok rfl re
theorem iss_cons (h1 : IS X W st h) (h2 : ISs X W sts k) : ISs X W (st :: sts) (sSeq h k) := PSs.weak (pss_cons h1 h2) fun D σ H q => by
  obtain ⟨g, env, e, ok, re, q⟩ := q
  refine ⟨g, env, e, ok, re, ?_⟩
  revert q
  unfold sSeq
  cases h env g.s with
  | nx e s =>
    intro q g' σ' x ok' es re'
    refine ⟨g', e, rfl, ok', re', ?_⟩
    rw [es]
    exact OutS.back ok ok' x q
  | rt p s => exact id
  | bk e s => exact id
  | ct e s => exact id
  | ex c p e s => exact id
  | stuck => exact id
theorem iss_one (h1 : IS X W st h) : ISs X W [st] h := pss_one h1
/-- an expression, then on -/
theorem RdS.seq {α β : Type} {R : G → α → β → Prop} {m : Env → MS → Res α} {d : α → Env → MS → SRes} {σ : L2.St} {H : Hp} (q : RdS K mg W (fun e s => (m e s).sbind e fun x s => d x e s) D σ H) :
    RdA K mg R W m σ H fun v H1 => ∃ p g env, g.H = H1 ∧ g.Ok K mg ∧ RelEnv K mg W.b g env σ ∧ R g p v ∧ OutS K mg g W D (d p env g.s) := by
  obtain ⟨g, env, e, ok, re, q⟩ := q
  refine ⟨g, env, e, ok, re, ?_⟩
  dsimp only at q
  revert q
  cases m env g.s with
  | ok p s' =>
    intro q g' v x ok' es r
    refine ⟨p, g', env, rfl, ok', re.ext ok x, r, ?_⟩
    rw [es]
    exact OutS.back ok ok' x q
  | exc c p s' =>
    intro q g' cls d x ok' es r
    exact q g' cls d σ x ok' es (re.ext ok x) r
  | stuck => exact id
theorem is_ret (ha : IE X W a f) : IS X W (.Return (some a) pos) (sRet f) := PS.weak (ps_ret ha) fun D σ H q => by
  refine (RdS.seq (R := fun g p v => RelP X.K X.mg g p v) (d := fun x e s => .rt x s) q).imp fun v H1 q => ?_
  obtain ⟨p, g, env, rfl, ok, re, r, q⟩ := q
  exact q g v (Ext.refl g) ok rfl r
theorem is_retN : IS X W (.Return none pos) sRetN := PS.weak ps_retN fun D σ H q => by
  obtain ⟨g, env, rfl, ok, re, q⟩ := q
  exact q g .non (Ext.refl g) ok rfl (by simp only [RelP])
theorem is_do (ha : IE X W a f) (hs : swapsWith a none pos.line X.env = pure false := by rfl) : IS X W (.Expr a pos) (sDo f) := PS.weak (ps_expr ha hs) fun D σ H q => by
  refine (RdS.seq (R := fun g p v => RelP X.K X.mg g p v) (d := fun x e s => .nx e s) q).imp fun v H1 q => ?_
  obtain ⟨p, g, env, rfl, ok, re, r, q⟩ := q
  exact q g σ (Ext.refl g) ok rfl re
theorem is_if {sa sb : List Stmt} (hc : IT X W c t) (ha : ISs X W sa h) (hb : ISs X W sb k) : IS X W (.If c sa sb pos) (sIf t h k) := PS.weak (ps_if hc ha hb) fun D σ H q => by
  unfold tIfS
  refine (RdS.seq (R := fun _ (b : Bool) c => b = c) (d := fun b e s => if b = true then h e s else k e s) q).imp fun v H1 q => ?_
  obtain ⟨p, g, env, e, ok, re, rfl, q⟩ := q
  cases p with
  | true => exact ⟨g, env, e, ok, re, q⟩
  | false => exact ⟨g, env, e, ok, re, q⟩
theorem is_break : IS X W (.Break pos) sBreak := PS.weak ps_break fun D σ H q => by
  obtain ⟨g, env, rfl, ok, re, q⟩ := q
  exact q g σ (Ext.refl g) ok rfl re
theorem is_pass : IS X W (.Pass pos) sNil := PS.weak ps_pass fun D σ H q => by
  obtain ⟨g, env, rfl, ok, re, q⟩ := q
  exact q g σ (Ext.refl g) ok rfl re
/-- target = value -/
theorem asg_of {ts : List Nat} {as : AS} {σ : L2.St} {H : Hp} (q : RdS K mg W (sSet f as) D σ H) : tAsg (RdE K mg W f) (RdG K mg W.b ts as) D σ H := by
  unfold tAsg
  refine (RdS.seq (R := fun g p v => RelP K mg g p v) (d := fun x e s => match as x e s with
    | some (e, s) => .nx e s
    | none => .stuck) q).imp fun v H1 q => ?_
  obtain ⟨p, g, env, e, ok, re, r, q⟩ := q
  cases ha : as p env g.s with
  | none => rw [ha] at q; exact q.elim
  | some es =>
    obtain ⟨env', s'⟩ := es
    rw [ha] at q
    exact ⟨g, p, env, env', s', e, ok, r, re, ha, fun g' σ' x ok' es re' _ _ => q g' σ' x ok' es re'⟩
theorem is_set {ts : List Nat} {as : AS} (he : IE X W a f) (hg : IG X W.b tg ts as) (hs : swapsWithSole [tg] a pos.line X.env = pure false := by rfl) (hw : swappedStores [tg] a X.env = pure none := by rfl)
    (h1 : (assignEach [tg] X.env).map (·.2) = [assign tg X.env] := by rfl) : IS X W (.Assign [tg] a pos) (sSet f as) := PS.weak (ps_asg he hg hs hw h1) fun D σ H q => asg_of q
/-- name = e -/
theorem is_name (i : Nat) {x : Str} {pos' : Pos} (hN : X.N.Nodup) (hi : X.N[i]? = some x) (hx : Loc X.env.scope x) (he : IE X W a f) (hs : swapsWith a (some (.Name x pos')) pos.line X.env = pure false := by rfl) (hf : X.fn x = true ∨ X.env.scope.names.lookup x = some .local := by first | exact .inl rfl | exact .inr rfl | assumption) (hB : ∀ b, W.b = some b → b.1 ≠ i := by intro b h; cases h <;> (dsimp only; decide)) :
    IS X W (.Assign [.Name x pos'] a pos) (sSet f (aName i)) := PS.weak (ps_set hN hi hx he hs hf) fun D σ H q => by
  unfold tAsg
  refine (RdS.seq (R := fun g p v => RelP X.K X.mg g p v) (d := fun x e s => match aName i x e s with
    | some (e, s) => .nx e s
    | none => .stuck) q).imp fun v H1 q => ?_
  obtain ⟨p, g, env, rfl, ok, re, r, q⟩ := q
  exact q g _ (Ext.refl g) ok rfl (re.set i r hB)
/-- name = [..] on one line -/
theorem is_nameLc {i : Nat} {y : Str} {py : Pos} {elt : Expr} {ifs : List Expr} {scope : Scope} {own : List (Str × Nat)} {pos spos : Pos} {fi : Env → MS → Res (List PV)} {as : AS} {tt : ET} {te : EX} {ts : List Nat} (hc : X.calm = true) (hN : X.N.Nodup) (hy : X.N[i]? = some y) (hyl : X.env.scope.names.lookup y = some .local)
    (hsw : swapsWith (.ListComp elt [⟨tg, iter, ifs, 0⟩] scope pos) (some (.Name y py)) spos.line X.env = pure true) (hi : II X W tg iter fi) (ok : BlkOk X.N X.env.scope scope own)
    (hg : ∀ (s : Shared) (H : Hp) (C : Addr) (cl : List (Str × Addr)) (fp : List Addr), IG (X.blk s H scope (compEnvC scope cl C X.env) fp) none tg ts as) (ht : ∀ (s : Shared) (H : Hp) (C : Addr) (cl : List (Str × Addr)) (fp : List Addr), ITs (X.blk s H scope (compEnvC scope cl C X.env) fp) W0 ifs tt)
    (he : ∀ (s : Shared) (H : Hp) (C : Addr) (cl : List (Str × Addr)) (fp : List Addr), IE (X.blk s H scope (compEnvC scope cl C X.env) fp) W0 elt te) (hts : ∀ i ∈ ts, i ∈ own.map (·.2) := by decide) (hs : ∀ x, foldedSetIterable iter X.env x = pure x := by intro _; rfl) (hB : ∀ b, W.b = some b → b.1 ≠ i := by intro b h; cases h <;> (dsimp only; decide)) :
    IS X W (.Assign [.Name y py] (.ListComp elt [⟨tg, iter, ifs, 0⟩] scope pos) spos) (sSet (eComp (own.map (·.2)) fi as tt te) (aName i)) := PS.weak (ps_setLc hc hN hy hyl hsw hi ok hg ht he hs) fun D σ H q => by
  unfold tAsg
  have q1 := RdS.seq (R := fun g p v => RelP X.K X.mg g p v) (d := fun x e s => match aName i x e s with
    | some (e, s) => .nx e s
    | none => .stuck) q
  refine tLc_of hts (q1.imp fun v H1 q => ?_)
  obtain ⟨p, g, env, rfl, ok, re, r, q⟩ := q
  exact q g _ (Ext.refl g) ok rfl (re.set i r hB)
/-- for -/
theorem is_for {fi : Env → MS → Res (List PV)} {as : AS} {ts : List Nat} (hp : PassesOwn (model X.prog X.w) X.A X.env X.xe) (hc : X.calm = true) (hi : II X W tg iter fi) (hg : IG X W.b tg ts as) (hb : ISs X W body h)
    (hs : ∀ x, foldedSetIterable iter X.env x = pure x := by intro _; rfl) : IS X W (.For tg iter body [] pos) (sFor fi as h) := PS.weak (ps_for hp hc hi hg hb hs) fun D σ H q => by
  unfold tFor
  refine (RdS.seq (R := ItRel X.K X.mg) (d := fun xs e s => forM as h xs e s) q).imp fun J H1 q => ?_
  obtain ⟨xs, g, env, rfl, ok, re, J0, q⟩ := q
  refine ⟨fun i m σ H => m = xs.length - i ∧ i ≤ xs.length ∧ ∃ g1 env1, g1.H = H ∧ g1.Ok X.K X.mg ∧ Ext g g1 ∧ RelEnv X.K X.mg W.b g1 env1 σ ∧ OutS X.K X.mg g1 W D (forM as h (xs.drop i) env1 g1.s), ⟨xs.length, by simp, Nat.zero_le _, g, env, rfl, ok, Ext.refl g, re, by rw [List.drop_zero]; exact q⟩, ?_⟩
  rintro i m σ H ⟨rfl, hi, g1, env1, rfl, ok1, x1, re1, fin⟩
  by_cases hlt : i < xs.length
  · obtain ⟨p, hp⟩ : ∃ p, xs[i]? = some p := ⟨xs[i], by simp [hlt]⟩
    obtain ⟨hgo, hy⟩ := (J0 g1 x1 ok1 i).1 p hp
    refine .inr ⟨hgo, fun σ H => ∃ g1 env1, g1.H = H ∧ g1.Ok X.K X.mg ∧ Ext g g1 ∧ RelEnv X.K X.mg W.b g1 env1 σ ∧ OutS X.K X.mg g1 W D (forM as h (xs.drop (i + 1)) env1 g1.s), fun σ' H' h => ⟨xs.length - (i + 1), by omega, rfl, hlt, h⟩, fun x H' hyl => ?_⟩
    obtain ⟨g2, rfl, x2, ok2, e2, rp⟩ := hy x H' hyl
    have hdrop : xs.drop i = p :: xs.drop (i + 1) := by
      rw [List.drop_eq_getElem_cons hlt]
      congr 1
      exact (List.getElem?_eq_some_iff.mp hp).2
    rw [hdrop] at fin
    simp only [forM] at fin
    cases ha : as p env1 g1.s with
    | none => rw [ha] at fin; exact fin.elim
    | some es =>
      obtain ⟨env', s3⟩ := es
      rw [ha] at fin
      dsimp only at fin
      have fin2 := OutS.back ok1 ok2 x2 fin
      have x12 := x1.trans ok ok1 x2
      refine ⟨g2, p, env1, env', s3, rfl, ok2, rp, re1.ext ok1 x2, by rw [e2]; exact ha, fun g3 σ3 x3 ok3 e3 re3 _ _ => ?_⟩
      have fin3 := OutS.back ok2 ok3 x3 fin2
      have x13 := x12.trans ok ok2 x3
      refine ⟨g3, env', rfl, ok3, re3, ?_⟩
      subst e3
      revert fin3
      cases h env' g3.s with
      | nx e s =>
        intro fin3 g4 σ4 x4 ok4 e4 re4
        refine ⟨g4, e, rfl, ok4, x13.trans ok ok3 x4, re4, ?_⟩
        rw [e4]; exact OutS.back ok3 ok4 x4 fin3
      | ct e s =>
        intro fin3 g4 σ4 x4 ok4 e4 re4
        refine ⟨g4, e, rfl, ok4, x13.trans ok ok3 x4, re4, ?_⟩
        rw [e4]; exact OutS.back ok3 ok4 x4 fin3
      | bk e s => exact id
      | rt p s => exact id
      | ex c p e s => exact id
      | stuck => exact id
  · have e : i = xs.length := by omega
    subst e
    rw [List.drop_length] at fin
    refine .inl ⟨(J0 g1 x1 ok1 _).2 (Nat.le_refl _), ?_⟩
    exact fin g1 σ (Ext.refl g1) ok1 rfl re1
theorem is_while (n : Nat) (hp : PassesOwn (model X.prog X.w) X.A X.env X.xe) (hc : IT X W c t) (hb : ISs X W body h) : IS X W (.While c body [] pos) (whileM t h n) := PS.weak (ps_while hp hc hb) fun D σ H q => by
  unfold tWhile
  obtain ⟨g, env, e, ok, re, q⟩ := q
  refine ⟨fun m σ H => ∃ g1 env1, g1.H = H ∧ g1.Ok X.K X.mg ∧ RelEnv X.K X.mg W.b g1 env1 σ ∧ OutS X.K X.mg g1 W D (whileM t h m env1 g1.s), ⟨n, g, env, e, ok, re, q⟩, ?_⟩
  rintro m σ H ⟨g1, env1, rfl, ok1, re1, fin⟩
  cases m with
  | zero => exact fin.elim
  | succ m =>
    refine (RdS.seq (R := fun _ (b : Bool) c => b = c) (m := t) (d := fun b e s => if b = true then (match h e s with
      | .nx e s => whileM t h m e s
      | .ct e s => whileM t h m e s
      | .bk e s => .nx e s
      | r => r) else .nx e s) ⟨g1, env1, rfl, ok1, re1, fin⟩).imp fun v H1 q => ?_
    obtain ⟨p, g2, env2, rfl, ok2, re2, rfl, q⟩ := q
    cases p with
    | false => exact q g2 σ (Ext.refl g2) ok2 rfl re2
    | true =>
      simp only [if_true] at q ⊢
      refine ⟨fun σ H => ∃ g1 env1, g1.H = H ∧ g1.Ok X.K X.mg ∧ RelEnv X.K X.mg W.b g1 env1 σ ∧ OutS X.K X.mg g1 W D (whileM t h m env1 g1.s), fun σ' H' h => ⟨m, Nat.lt_succ_self m, h⟩, g2, env2, rfl, ok2, re2, ?_⟩
      revert q
      cases h env2 g2.s with
      | nx e s =>
        intro q g3 σ3 x3 ok3 e3 re3
        refine ⟨g3, e, rfl, ok3, re3, ?_⟩
        rw [e3]; exact OutS.back ok2 ok3 x3 q
      | ct e s =>
        intro q g3 σ3 x3 ok3 e3 re3
        refine ⟨g3, e, rfl, ok3, re3, ?_⟩
        rw [e3]; exact OutS.back ok2 ok3 x3 q
      | bk e s => exact id
      | rt p s => exact id
      | ex c p e s => exact id
      | stuck => exact id
end
/-! ### defs -/
def startE (n : Nat) (args : List PV) : Env := args.map some ++ List.replicate (n - args.length) none
def defF (n : Nat) (h : SX) : FN := fun args s => match h (startE n args) s with
  | .rt v s => .ok v s
  | .nx _ s => .ok .non s
  | .ex c p _ s => .exc c p s
  | _ => .stuck
section
variable {P : Program} {w : World} {K : PySem.W.Frag} {mg : MG} {base : Heap}
theorem relEnv_start {g : G} {N : List Str} : ∀ {args : List PV} {vs : List V}, RelPs K mg g args vs → RelEnv K mg none g (startE N.length args) (L2.start N vs) := by
  intro args vs r
  have hl := r.length
  refine ⟨by simp [startE, L2.start, hl], fun _ _ _ _ _ e => (nomatch e), fun i p e => ?_⟩
  unfold startE at e
  unfold L2.start
  by_cases hi : i < args.length
  · rw [List.getElem?_append_left (by simpa using hi)] at e
    rw [List.getElem?_append_left (by simpa [← hl] using hi)]
    rw [List.getElem?_map] at e
    cases ea : args[i]? with
    | none => rw [ea] at e; cases e
    | some q =>
      rw [ea] at e
      cases e
      obtain ⟨v, ev, rv⟩ := r.get' ea
      exact ⟨v, by rw [List.getElem?_map, ev]; rfl, rv⟩
  · rw [List.getElem?_append_right (by simpa using hi)] at e
    have hm := List.mem_of_getElem? e
    rw [List.mem_replicate] at hm
    exact nomatch hm.2
theorem Def.mk' {x : Str} {st : Stmt} {f : Addr} {fd : FuncData} {N ps : List Str} {k : Nat} {h : SX} (F : Fun K x x st f fd) (hm : mg x = some (.ref f)) (S : FnScope N ps (defScope st)) (hb : Binds K fd ps [])
    (body : ∀ (cdv : Value) (A : Around) (outer : List PySem.Env) (s : Shared) (H : Hp) (E : XK), Room k (A.deeper (envOfC x (defScope st) s.heap.objs.size f cdv)) →
      ISs (cxOf (L2.CX P w) P w K mg base N x (defScope st) f cdv A outer s H E) ⟨fun cls d _ H => E cls d H, none⟩ (defBody st) h) : Def P w K mg base (k + 1) x st ps (defF N.length h) := by
  refine ⟨f, fd, hm, F.kp, F, hb, F.okX S (fun vs H Q E h => h.1) fun cdv A outer s H vs Q E hr q => ?_⟩
  refine ⟨RdS K mg ⟨fun cls d _ H => E cls d H, none⟩ h, body cdv A outer s H E hr, ?_⟩
  obtain ⟨hl, g, args, e, ok, r, q⟩ := q
  refine ⟨g, startE N.length args, e, ok, relEnv_start r, ?_⟩
  unfold defF at q
  revert q
  cases h (startE N.length args) g.s with
  | nx e s => exact fun q g' σ' x ok' es re => q g' .non x ok' es (by simp only [RelP])
  | rt p s => exact id
  | bk e s => exact fun q => q.elim
  | ct e s => exact fun q => q.elim
  | ex c p e s => exact fun q g' cls d σ' x ok' es re r => q g' cls d x ok' es r
  | stuck => exact fun q => q.elim
theorem Def.mono {x : Str} {st : Stmt} {ps : List Str} {j k : Nat} {F : FN} (D : Def P w K mg base j x st ps F) (h : j ≤ k) : Def P w K mg base k x st ps F := by
  obtain ⟨f, fd, a, b, c, d, e⟩ := D.ex
  exact ⟨f, fd, a, b, c, d, e.mono h⟩
end
end
end Mr
namespace Mr
noncomputable section
open PySem PySem.Spec PyProof.Rows L2
/-! ### what the operations do is what the machine does -/
section
variable {K : PySem.W.Frag} {mg : MG} {g : G} {X : Cx}
theorem strApp (a b : List Nat) : ((⟨a.toArray⟩ : Str) ++ (⟨b.toArray⟩ : Str)) = ⟨(a ++ b).toArray⟩ := TL.ext_tl (by rw [TL.tl_append, TL.tl_mk, TL.tl_mk, TL.tl_mk])
theorem strEq (a b : List Nat) : decide ((⟨a.toArray⟩ : Str) = ⟨b.toArray⟩) = (a == b) := by
  by_cases h : a = b
  · subst h; simp
  · have : ¬ (⟨a.toArray⟩ : Str) = ⟨b.toArray⟩ := fun q => h (by
      have := congrArg TL.tl q
      rwa [TL.tl_mk, TL.tl_mk] at this)
    simp [h, this]
theorem fin_int {z : Int} {Q : VK} (ok : g.Ok K mg) (q : ∀ g' v, Ext g g' → g'.Ok K mg → g'.s = g.s → RelP K mg g' (.int z) v → Q v g'.H) : Q (.int z) g.H := q g _ (Ext.refl g) ok rfl (by simp only [RelP])
theorem fin_bl {z : Bool} {Q : VK} (ok : g.Ok K mg) (q : ∀ g' v, Ext g g' → g'.Ok K mg → g'.s = g.s → RelP K mg g' (.bl z) v → Q v g'.H) : Q (.bl z) g.H := q g _ (Ext.refl g) ok rfl (by simp only [RelP])
theorem fin_str {z : List Nat} {Q : VK} (ok : g.Ok K mg) (q : ∀ g' v, Ext g g' → g'.Ok K mg → g'.s = g.s → RelP K mg g' (.str z) v → Q v g'.H) : Q (.str ⟨z.toArray⟩) g.H := q g _ (Ext.refl g) ok rfl (by simp only [RelP])
theorem fin_tup {l : List PV} {vs : List V} {Q : VK} (ok : g.Ok K mg) (r : RelPs K mg g l vs) (q : ∀ g' v, Ext g g' → g'.Ok K mg → g'.s = g.s → RelP K mg g' (.tup l) v → Q v g'.H) (p : Addr) (hp : g.H p = none) : Q (.ref p) (upd g.H p (.tup vs)) :=
  q (g.new p (.tup vs)) _ (G.new_ext hp) (G.new_ok ok hp) rfl (G.new_tup ok hp r)
theorem fin_lst {l : List PV} {vs : List V} {Q : VK} (ok : g.Ok K mg) (r : RelPs K mg g l vs) (q : ∀ g' v, Ext g g' → g'.Ok K mg → g'.s = g.s → RelP K mg g' (.lst l) v → Q v g'.H) (p : Addr) (hp : g.H p = none) : Q (.ref p) (upd g.H p (.lst vs)) :=
  q (g.newZ p (.lst vs)) _ (G.newZ_ext hp) (G.newZ_ok ok hp) rfl (G.newZ_lst ok hp r)
theorem relT {l : List PV} {v : V} (r : RelD K mg g (.tup l) v) : ∃ a vs, v = .ref a ∧ g.H a = some (.tup vs) ∧ RelPs K mg g l vs := by
  simpa only [RelD, RelP] using r
theorem relL {l : List PV} {v : V} (r : RelD K mg g (.lst l) v) : ∃ a vs, v = .ref a ∧ g.H a = some (.lst vs) ∧ RelPs K mg g l vs := by
  simpa only [RelD] using r
theorem relS {l : List Nat} {v : V} (r : RelD K mg g (.str l) v) : v = .str ⟨l.toArray⟩ := by simpa only [RelD, RelP] using r
theorem relI {i : Int} {v : V} (r : RelD K mg g (.int i) v) : v = .int i := by simpa only [RelD, RelP] using r
theorem relB {i : Bool} {v : V} (r : RelD K mg g (.bl i) v) : v = .bl i := by simpa only [RelD, RelP] using r
theorem relN {v : V} (r : RelD K mg g .non v) : v = .non := by simpa only [RelD, RelP] using r
theorem relX {l : List PV} {v : V} (r : RelD K mg g (.scr l) v) : ∃ a vs, v = .ref a ∧ SqL K g.H a vs ∧ RelPs K mg g l vs := by
  simp only [RelD, RelP] at r
  obtain ⟨a, vs, e, h, r⟩ := r
  exact ⟨a, vs, e, h.sq, r⟩
theorem o_add : OpR X (binaryOp .Add) (OpM X.K X.mg pAdd) := by
  intro pins s σ H x y v u Q I rx ry ⟨g, px, py, z, eH, ok, r1, r2, hz, q⟩
  subst eH
  unfold pAdd at hz
  split at hz
  · cases hz
    obtain rfl := relI r1
    obtain rfl := relI r2
    exact op_add pins s σ g.H _ _ v u Q I rx ry ⟨_, _, rfl, rfl, fin_int ok q⟩
  · split at hz
    · rename_i hl
      cases hz
      obtain rfl := relS r1
      obtain rfl := relS r2
      exact op_add_str pins s σ g.H _ _ v u Q I rx ry ⟨_, _, rfl, rfl, by rw [strlen, strlen]; exact toSz hl, by rw [strApp]; exact fin_str ok q⟩
    · cases hz
  · split at hz
    · rename_i hl
      cases hz
      obtain ⟨a, xs, rfl, ha, ra⟩ := relT r1
      obtain ⟨b, ys, rfl, hb, rb⟩ := relT r2
      refine op_catA pins s σ g.H _ _ v u Q I rx ry ⟨a, b, xs, ys, rfl, rfl, SqT.of ha, SqT.of hb, by rw [← ra.length, ← rb.length]; exact toSz hl, fun e => ?_, fun _ e => ?_, fun _ _ p hp => fin_tup ok (ra.append rb) q p hp⟩
      · subst e
        have e0 := ra.length
        refine q g _ (Ext.refl g) ok rfl ?_
        simp only [RelP]
        exact ⟨b, ys, rfl, hb, by rw [List.length_eq_zero_iff.mp e0]; exact rb⟩
      · subst e
        have e0 := rb.length
        refine q g _ (Ext.refl g) ok rfl ?_
        simp only [RelP]
        exact ⟨a, xs, rfl, ha, by rw [List.length_eq_zero_iff.mp e0, List.append_nil]; exact ra⟩
    · cases hz
  · split at hz
    · rename_i hl
      cases hz
      obtain ⟨a, xs, rfl, ha, ra⟩ := relL r1
      obtain ⟨b, ys, rfl, hb, rb⟩ := relL r2
      exact op_cat pins s σ g.H _ _ v u Q I rx ry ⟨a, b, xs, ys, rfl, rfl, ha, hb, by rw [← ra.length, ← rb.length]; exact toSz hl, fun p hp => fin_lst ok (ra.append rb) q p hp⟩
    · cases hz
  · cases hz
theorem o_sub : OpR X (binaryOp .Sub) (OpM X.K X.mg pSub) := by
  intro pins s σ H x y v u Q I rx ry ⟨g, px, py, z, eH, ok, r1, r2, hz, q⟩
  subst eH
  unfold pSub at hz
  split at hz
  · cases hz
    obtain rfl := relI r1
    obtain rfl := relI r2
    exact op_sub pins s σ g.H _ _ v u Q I rx ry ⟨_, _, rfl, rfl, fin_int ok q⟩
  · cases hz
theorem o_fdiv : OpR X (binaryOp .FloorDiv) (OpM X.K X.mg pFdiv) := by
  intro pins s σ H x y v u Q I rx ry ⟨g, px, py, z, eH, ok, r1, r2, hz, q⟩
  subst eH
  unfold pFdiv at hz
  split at hz
  · split at hz
    · rename_i hl
      cases hz
      obtain rfl := relI r1
      obtain rfl := relI r2
      exact op_fdiv pins s σ g.H _ _ v u Q I rx ry ⟨_, _, rfl, rfl, ⟨hl.1, by have := (fits_iff.mp hl.2).2; omega⟩, fin_int ok q⟩
    · cases hz
  · cases hz
theorem o_mod : OpR X (binaryOp .Mod) (OpM X.K X.mg pMod) := by
  intro pins s σ H x y v u Q I rx ry ⟨g, px, py, z, eH, ok, r1, r2, hz, q⟩
  subst eH
  unfold pMod at hz
  split at hz
  · split at hz
    · rename_i hl
      cases hz
      obtain rfl := relI r1
      obtain rfl := relI r2
      exact op_mod pins s σ g.H _ _ v u Q I rx ry ⟨_, _, rfl, rfl, hl, fin_int ok q⟩
    · cases hz
  · cases hz
theorem o_pow : OpR X (binaryOp .Pow) (OpM X.K X.mg pPow) := by
  intro pins s σ H x y v u Q I rx ry ⟨g, px, py, z, eH, ok, r1, r2, hz, q⟩
  subst eH
  unfold pPow at hz
  split at hz
  · split at hz
    · rename_i hl
      cases hz
      obtain rfl := relI r1
      obtain rfl := relI r2
      exact op_pow pins s σ g.H _ _ v u Q I rx ry ⟨_, _, rfl, rfl, ⟨hl.1, by have := (fits_iff.mp hl.2.1).2; omega, by have := fits_iff.mp hl.2.2; omega⟩, fin_int ok q⟩
    · cases hz
  · cases hz
end
end
end Mr
namespace Mr
noncomputable section
open PySem PySem.Spec PyProof.Rows L2
section
variable {K : PySem.W.Frag} {mg : MG} {g : G} {X : Cx}
theorem arr_rep (l : List Nat) : ∀ (k : Nat) (acc : List Nat), (List.replicate k l.toArray).foldl (· ++ ·) acc.toArray = (acc ++ (List.replicate k l).flatten).toArray
  | 0, acc => by simp
  | k + 1, acc => by
    rw [List.replicate_succ, List.foldl_cons, List.replicate_succ]
    have e : acc.toArray ++ l.toArray = (acc ++ l).toArray := by simp
    rw [e, arr_rep l k (acc ++ l)]
    simp
theorem flat_one (l : List Nat) : (List.replicate 1 l).flatten = l := by simp
theorem txt_mul (l : List Nat) (n : Int) : Txt.mul ⟨l.toArray⟩ n = ⟨((List.replicate n.toNat l).flatten).toArray⟩ := by
  unfold Txt.mul
  by_cases h1 : n < 1
  · rw [if_pos h1]
    have e : n.toNat = 0 := by omega
    rw [e]; rfl
  · rw [if_neg h1]
    by_cases h2 : (n == 1 || (⟨l.toArray⟩ : Str).length == 0) = true
    · rw [if_pos h2]
      rw [Bool.or_eq_true] at h2
      rcases h2 with h2 | h2
      · have : n = 1 := by simpa using h2
        subst this
        rw [show (1 : Int).toNat = 1 from rfl, flat_one]
      · have : l = [] := by simpa [strlen] using h2
        subst this
        have : ∀ k : Nat, (List.replicate k ([] : List Nat)).flatten = [] := by
          intro k; induction k with
          | zero => rfl
          | succ k ih => rw [List.replicate_succ, List.flatten_cons, ih]; rfl
        rw [this]
    · rw [if_neg h2]
      have := arr_rep l n.toNat []
      simp only [List.nil_append] at this
      exact congrArg Str.mk this
theorem flat_len (l : List Nat) : ∀ k : Nat, (List.replicate k l).flatten.length = k * l.length
  | 0 => by simp
  | k + 1 => by rw [List.replicate_succ, List.flatten_cons, List.length_append, flat_len l k]; rw [Nat.add_mul]; omega
theorem o_mul : OpR X (binaryOp .Mult) (OpM X.K X.mg pMul) := by
  intro pins s σ H x y v u Q I rx ry ⟨g, px, py, z, eH, ok, r1, r2, hz, q⟩
  subst eH
  unfold pMul at hz
  split at hz
  · rename_i i j
    split at hz
    · rename_i hl
      cases hz
      obtain rfl := relI r1
      obtain rfl := relI r2
      refine L2.op_mul pins s σ g.H _ _ v u Q I rx ry ⟨_, _, rfl, rfl, ?_, fin_int ok q⟩
      unfold small at hl
      simp only [Bool.or_eq_true, fits_iff] at hl
      exact hl
    · cases hz
  · rename_i a k
    split at hz
    · rename_i hl
      obtain ⟨h0, h12⟩ := hl
      obtain ⟨h1, h2⟩ := fits_iff.mp h12
      cases hz
      obtain rfl := relS r1
      obtain rfl := relI r2
      obtain ⟨t, rfl⟩ := rx
      obtain ⟨t', rfl⟩ := ry
      have hL : (LIM : Nat) = 16777216 := LIM_eq
      have hmul : 1 ≤ k → a.length ≤ 16777216 := fun hk => by
        have : 1 ≤ k.toNat := by omega
        have := Nat.le_trans (Nat.le_mul_of_pos_right a.length this) h0
        omega
      refine SB.mul ⟨?_, ?_, ?_⟩ fun t' kk => ?_
      · have e1 : ¬ k < -(2 ^ 63 : Int) := by omega
        have e2 : ¬ k ≥ 2 ^ 63 := by omega
        rw [decide_eq_false e1, decide_eq_false e2]; rfl
      · intro hk _
        rw [strlen]
        have h5 : ((a.length : Nat) : Int) * k ≤ 16777216 := by
          have : ((a.length * k.toNat : Nat) : Int) ≤ 16777216 := by omega
          rw [Int.natCast_mul, Int.toNat_of_nonneg (by omega)] at this
          exact this
        have : (a.length : Int) ≤ (2 ^ 63 - 1) / k := by
          rw [Int.le_ediv_iff_mul_le (by omega)]
          omega
        omega
      · intro hk _
        rw [strlen]
        unfold Builtin.Str.tooLong
        simp only [decide_eq_false_iff_not]
        have hs : (sizeLine : Nat) = 16777216 := by rw [sizeLine_eq]
        omega
      · refine ⟨.str _, g.H, I.tok _, ⟨_, rfl⟩, ?_⟩
        rw [txt_mul]
        exact fin_str ok q
    · cases hz
  · rename_i a k
    split at hz
    · rename_i hl
      obtain ⟨h0, h12⟩ := hl
      obtain ⟨h1, h2⟩ := fits_iff.mp h12
      cases hz
      obtain ⟨p, xs, rfl, ha, ra⟩ := relL r1
      obtain rfl := relI r2
      have rep : ∀ n : Nat, RelPs X.K X.mg g (List.replicate n a).flatten (List.replicate n xs).flatten := by
        intro n
        induction n with
        | zero => exact RelPs.nil
        | succ n ih => rw [List.replicate_succ, List.replicate_succ, List.flatten_cons, List.flatten_cons]; exact ra.append ih
      exact op_rep pins s σ g.H _ _ v u Q I rx ry ⟨p, k, xs, rfl, rfl, ha, by omega, by omega, by rw [← ra.length, ← sizeLIM]; exact h0, fun p hp => fin_lst ok (rep _) q p hp⟩
    · cases hz
  · cases hz
def eUn (op : PV → Option PV) (f : EX) : EX := fun e s => (f e s).bind fun x s => ofO (op (deref s x)) s
theorem ie_neg {W : WY} {pos : Pos} {a : Expr} {f : EX} (ha : IE X W a f) : IE X W (.UnaryOp .USub a pos) (eUn pNeg f) :=
  PE.weak (pe_un un_neg ha) fun σ H Q q => by
    unfold tUn
    refine (RdA.seq (R := fun g p v => RelP X.K X.mg g p v) (f := f) (k := fun x e s => ofO (pNeg (deref s x)) s) q).imp fun v H1 q => ?_
    obtain ⟨p, g, env, rfl, ok, re, r, q⟩ := q
    have rd := r.deref ok
    cases hd : deref g.s p with
    | int i =>
      rw [hd] at rd q
      obtain rfl := relI rd
      exact ⟨i, rfl, OutA.ok ok q (by simp only [RelP])⟩
    | _ => rw [hd] at q; exact q.elim
end
end
end Mr
namespace Mr
noncomputable section
open PySem PySem.Spec PyProof.Rows L2
mutual
def toD : PV → PyData
  | .bl b => .bool b
  | .int i => .int i
  | .str l => .str ⟨l.toArray⟩
  | .tup l => .tuple (toDs l)
  | .lst l => .list (toDs l)
  | _ => .none
def toDs : List PV → List PyData
  | [] => []
  | x :: xs => toD x :: toDs xs
end
mutual
theorem toD_plain : ∀ p : PV, (toD p).plain = true
  | .non => by simp [toD, PyData.plain]
  | .bl _ => by simp [toD, PyData.plain]
  | .int _ => by simp [toD, PyData.plain]
  | .str _ => by simp [toD, PyData.plain]
  | .tup l => by simp only [toD, PyData.plain]; exact toDs_plain l
  | .lst l => by simp only [toD, PyData.plain]; exact toDs_plain l
  | .dct _ _ _ => by simp [toD, PyData.plain]
  | .set _ => by simp [toD, PyData.plain]
  | .scr _ => by simp [toD, PyData.plain]
  | .obj _ => by simp [toD, PyData.plain]
  | .fn _ => by simp [toD, PyData.plain]
  | .clo _ _ => by simp [toD, PyData.plain]
  | .ty _ => by simp [toD, PyData.plain]
theorem toDs_plain : ∀ l : List PV, PyData.plainAll (toDs l) = true
  | [] => by simp [toDs, PyData.plainAll]
  | x :: xs => by simp [toDs, PyData.plainAll, toD_plain x, toDs_plain xs]
end
mutual
theorem toD_dep : ∀ p : PV, (toD p).depth = dep p
  | .non => by simp [toD, PyData.depth, dep]
  | .bl _ => by simp [toD, PyData.depth, dep]
  | .int _ => by simp [toD, PyData.depth, dep]
  | .str _ => by simp [toD, PyData.depth, dep]
  | .tup l => by simp only [toD, PyData.depth, dep, toDs_dep l]
  | .lst l => by simp only [toD, PyData.depth, dep, toDs_dep l]
  | .dct _ _ _ => by simp [toD, PyData.depth, dep]
  | .set _ => by simp [toD, PyData.depth, dep]
  | .scr _ => by simp [toD, PyData.depth, dep]
  | .obj _ => by simp [toD, PyData.depth, dep]
  | .fn _ => by simp [toD, PyData.depth, dep]
  | .clo _ _ => by simp [toD, PyData.depth, dep]
  | .ty _ => by simp [toD, PyData.depth, dep]
theorem toDs_dep : ∀ l : List PV, PyData.depthAll (toDs l) = deps l
  | [] => by simp [toDs, PyData.depthAll, deps]
  | x :: xs => by simp [toDs, PyData.depthAll, deps, toD_dep x, toDs_dep xs]
end
theorem strBeq (a b : List Nat) : ((⟨a.toArray⟩ : Str) == ⟨b.toArray⟩) = (a == b) := by
  have h := strEq a b
  rw [← h]
  by_cases e : (⟨a.toArray⟩ : Str) = ⟨b.toArray⟩
  · rw [decide_eq_true e, beq_iff_eq]; exact e
  · rw [decide_eq_false e, beq_eq_false_iff_ne]; exact e
mutual
theorem toD_eqv : ∀ p q : PV, isD p = true → isD q = true → PyData.eqv (toD p) (toD q) = eqB p q
  | .non, q, _, hq => by cases q <;> simp_all [toD, PyData.eqv, eqB, isD]
  | .bl _, q, _, hq => by cases q <;> simp_all [toD, PyData.eqv, eqB, isD]
  | .int _, q, _, hq => by cases q <;> simp_all [toD, PyData.eqv, eqB, isD]
  | .str a, q, _, hq => by
    cases q with
    | str b => simp only [toD, PyData.eqv, eqB]; exact strBeq a b
    | _ => simp_all [toD, PyData.eqv, eqB, isD]
  | .tup l, q, hp, hq => by
    cases q with
    | tup m => simp only [toD, PyData.eqv, eqB]; exact toDs_eqv l m (by simpa [isD] using hp) (by simpa [isD] using hq)
    | _ => simp_all [toD, PyData.eqv, eqB, isD]
  | .lst l, q, hp, hq => by
    cases q with
    | lst m => simp only [toD, PyData.eqv, eqB]; exact toDs_eqv l m (by simpa [isD] using hp) (by simpa [isD] using hq)
    | _ => simp_all [toD, PyData.eqv, eqB, isD]
  | .dct _ _ _, _, hp, _ => by simp [isD] at hp
  | .set _, _, hp, _ => by simp [isD] at hp
  | .scr _, _, hp, _ => by simp [isD] at hp
  | .obj _, _, hp, _ => by simp [isD] at hp
  | .fn _, _, hp, _ => by simp [isD] at hp
  | .clo _ _, _, hp, _ => by simp [isD] at hp
  | .ty _, _, hp, _ => by simp [isD] at hp
theorem toDs_eqv : ∀ l m : List PV, isDs l = true → isDs m = true → PyData.eqvAll (toDs l) (toDs m) = eqBs l m
  | [], [], _, _ => by simp [toDs, PyData.eqvAll, eqBs]
  | [], _ :: _, _, _ => by simp [toDs, PyData.eqvAll, eqBs]
  | _ :: _, [], _, _ => by simp [toDs, PyData.eqvAll, eqBs]
  | x :: xs, y :: ys, h1, h2 => by
    simp only [isDs, Bool.and_eq_true] at h1 h2
    simp only [toDs, PyData.eqvAll, eqBs, toD_eqv x y h1.1 h2.1, toDs_eqv xs ys h1.2 h2.2]
end
section
variable {K : PySem.W.Frag} {mg : MG} {g : G} {X : Cx}
mutual
theorem RelP.dp : ∀ (p : PV) (v : V), isD p = true → RelP K mg g p v → Dp K g.H v (toD p)
  | .non, v, _, h => by simp only [RelP] at h; subst h; exact .non
  | .bl b, v, _, h => by simp only [RelP] at h; subst h; exact .bl b
  | .int i, v, _, h => by simp only [RelP] at h; subst h; exact .int i
  | .str l, v, _, h => by simp only [RelP] at h; subst h; exact .str _
  | .tup l, v, hd, h => by
    simp only [RelP] at h
    obtain ⟨a, vs, rfl, h1, h2⟩ := h
    exact .tup (SqT.of h1) (RelPs.dp l vs (by simpa [isD] using hd) h2)
  | .lst l, v, hd, h => by
    simp only [RelP] at h
    obtain ⟨a, vs, rfl, h1, h2⟩ := h
    exact .lst (SqL.of h1.1) (RelPs.dp l vs (by simpa [isD] using hd) h2)
  | .dct _ _ _, _, hp, _ => by simp [isD] at hp
  | .set _, _, hp, _ => by simp [isD] at hp
  | .scr _, _, hp, _ => by simp [isD] at hp
  | .obj _, _, hp, _ => by simp [isD] at hp
  | .fn _, _, hp, _ => by simp [isD] at hp
  | .clo _ _, _, hp, _ => by simp [isD] at hp
  | .ty _, _, hp, _ => by simp [isD] at hp
theorem RelPs.dp : ∀ (l : List PV) (vs : List V), isDs l = true → RelPs K mg g l vs → DpAll K g.H vs (toDs l)
  | [], vs, _, h => by simp only [RelPs] at h; subst h; exact .nil
  | p :: ps, vs, hd, h => by
    simp only [isDs, Bool.and_eq_true] at hd
    simp only [RelPs] at h
    obtain ⟨v, r, rfl, h1, h2⟩ := h
    exact .cons (RelP.dp p v hd.1 h1) (RelPs.dp ps r hd.2 h2)
end
theorem RelD.dp {p : PV} {v : V} (hd : isD p = true) (h : RelD K mg g p v) : Dp K g.H v (toD p) := by
  cases p with
  | lst l =>
    obtain ⟨a, vs, rfl, h1, h2⟩ := relL h
    exact .lst (SqL.of h1) (RelPs.dp l vs (by simpa [isD] using hd) h2)
  | dct t ks vs => simp [isD] at hd
  | _ => exact RelP.dp (mg := mg) _ v hd h
theorem cm_of {op : CmpOp} {m : PV → PV → Option Bool} (h : ∀ (pins : List (Addr × Obj)) (s : Shared) (σ : L2.St) (x y : V) (v u : Value) (Q : VK) (g : G) (px py : PV) (b : Bool), g.Ok X.K X.mg → L2.Inv X pins σ g.H s → L2.RelV x v → L2.RelV y u →
    RelD X.K X.mg g px x → RelD X.K X.mg g py y → m px py = some b → Q (.bl b) g.H → wpAny (model X.prog X.w) X.A (compareOp op v u) (EP X pins σ Q) X.xe s) : OpR X (compareOp op) (OpM X.K X.mg fun x y => (m x y).map .bl) := by
  intro pins s σ H x y v u Q I rx ry ⟨g, px, py, z, eH, ok, r1, r2, hz, q⟩
  subst eH
  dsimp only at hz
  cases hm : m px py with
  | none => rw [hm] at hz; cases hz
  | some b =>
    rw [hm] at hz
    have hz : some (PV.bl b) = some z := hz
    cases hz
    exact h pins s σ x y v u Q g px py b ok I rx ry r1 r2 hm (fin_bl ok q)
theorem pEq_some {x y : PV} {b : Bool} (h : pEq x y = some b) : isD x = true ∧ isD y = true ∧ min (dep x) (dep y) ≤ 64 ∧ b = eqB x y := by
  unfold pEq at h
  split at h
  · rename_i hl
    simp only [Bool.and_eq_true, decide_eq_true_eq] at hl
    cases h
    exact ⟨hl.1.1, hl.1.2, hl.2, rfl⟩
  · cases h
theorem o_eq (hu : X.A.units + 64 < cLine) : OpR X (compareOp .Eq) (OpM X.K X.mg fun x y => (pEq x y).map .bl) := cm_of fun pins s σ x y v u Q g px py b ok I rx ry r1 r2 hm q => by
  obtain ⟨h1, h2, h3, rfl⟩ := pEq_some hm
  obtain ⟨as, q1⟩ := Dp.reads I _ x v (r1.dp h1) rx
  obtain ⟨bs, q2⟩ := Dp.reads I _ y u (r2.dp h2) ry
  refine SeqAt.eq_plain q1 q2 (toD_plain px) (toD_plain py) (by rw [toD_dep, toD_dep]; omega) ?_
  rw [toD_eqv px py h1 h2]
  exact ⟨.bl _, g.H, I, rfl, q⟩
theorem o_ne (hu : X.A.units + 64 < cLine) : OpR X (compareOp .NotEq) (OpM X.K X.mg fun x y => (pNe x y).map .bl) := cm_of fun pins s σ x y v u Q g px py b ok I rx ry r1 r2 hm q => by
  obtain ⟨c, hm2, rfl⟩ := Option.map_eq_some_iff.mp hm
  obtain ⟨h1, h2, h3, rfl⟩ := pEq_some hm2
  obtain ⟨as, q1⟩ := Dp.reads I _ x v (r1.dp h1) rx
  obtain ⟨bs, q2⟩ := Dp.reads I _ y u (r2.dp h2) ry
  refine SeqAt.ne_plain q1 q2 (toD_plain px) (toD_plain py) (by rw [toD_dep, toD_dep]; omega) ?_
  rw [toD_eqv px py h1 h2]
  exact ⟨.bl _, g.H, I, rfl, q⟩
theorem pLt_some {x y : PV} {b : Bool} (h : pLt x y = some b) : (∃ i j, x = .int i ∧ y = .int j ∧ b = decide (i < j)) ∨ (∃ i j, x = .str i ∧ y = .str j ∧ b = decide (i < j)) ∨
    ∃ l m, x = .tup l ∧ y = .tup m ∧ isDs l = true ∧ isDs m = true ∧ alikeBs l m = true ∧ min (deps l) (deps m) ≤ 60 ∧ b = ltBs l m := by
  unfold pLt at h
  split at h
  · cases h; exact .inl ⟨_, _, rfl, rfl, rfl⟩
  · cases h; exact .inr (.inl ⟨_, _, rfl, rfl, rfl⟩)
  · split at h
    · rename_i hl
      simp only [Bool.and_eq_true, decide_eq_true_eq] at hl
      cases h
      exact .inr (.inr ⟨_, _, rfl, rfl, hl.1.1.1, hl.1.1.2, hl.1.2, hl.2, rfl⟩)
    · cases h
  · cases h
theorem qLt_some {x y : PV} {b : Bool} (h : qLt x y = some b) : (∃ i j, x = .int i ∧ y = .int j ∧ b = decide (i < j)) ∨ ∃ i j, x = .str i ∧ y = .str j ∧ b = decide (i < j) := by
  unfold qLt at h
  split at h
  · cases h; exact .inl ⟨_, _, rfl, rfl, rfl⟩
  · cases h; exact .inr ⟨_, _, rfl, rfl, rfl⟩
  · cases h
mutual
theorem toD_alike : ∀ p q : PV, isD p = true → isD q = true → PySem.W.alike (toD p) (toD q) = alikeB p q
  | .non, q, _, hq => by cases q <;> simp_all [toD, PySem.W.alike, alikeB, isD]
  | .bl _, q, _, hq => by cases q <;> simp_all [toD, PySem.W.alike, alikeB, isD]
  | .int _, q, _, hq => by cases q <;> simp_all [toD, PySem.W.alike, alikeB, isD]
  | .str _, q, _, hq => by cases q <;> simp_all [toD, PySem.W.alike, alikeB, isD]
  | .tup l, q, hp, hq => by
    cases q with
    | tup m => simp only [toD, PySem.W.alike, alikeB]; exact toDs_alike l m (by simpa [isD] using hp) (by simpa [isD] using hq)
    | _ => simp_all [toD, PySem.W.alike, alikeB, isD]
  | .lst l, q, hp, hq => by
    cases q with
    | lst m => simp only [toD, PySem.W.alike, alikeB]; exact toDs_alike l m (by simpa [isD] using hp) (by simpa [isD] using hq)
    | _ => simp_all [toD, PySem.W.alike, alikeB, isD]
  | .dct _ _ _, _, hp, _ => by simp [isD] at hp
  | .set _, _, hp, _ => by simp [isD] at hp
  | .scr _, _, hp, _ => by simp [isD] at hp
  | .obj _, _, hp, _ => by simp [isD] at hp
  | .fn _, _, hp, _ => by simp [isD] at hp
  | .clo _ _, _, hp, _ => by simp [isD] at hp
  | .ty _, _, hp, _ => by simp [isD] at hp
theorem toDs_alike : ∀ l m : List PV, isDs l = true → isDs m = true → PySem.W.alikeAll (toDs l) (toDs m) = alikeBs l m
  | [], m, _, _ => by cases m <;> simp [toDs, PySem.W.alikeAll, alikeBs]
  | _ :: _, [], _, _ => by simp [toDs, PySem.W.alikeAll, alikeBs]
  | x :: xs, y :: ys, h1, h2 => by
    simp only [isDs, Bool.and_eq_true] at h1 h2
    simp only [toDs, PySem.W.alikeAll, alikeBs, toD_alike x y h1.1 h2.1, toDs_alike xs ys h1.2 h2.2]
end
theorem lex_nn : PyProof.Rows.lexLt PyProof.Rows.itemOrd (PySem.W.keyToksAll []) (PySem.W.keyToksAll []) = false := by decide +kernel
mutual
theorem toD_lt : ∀ p q : PV, isD p = true → isD q = true → alikeB p q = true → PySem.W.dataLt (toD p) (toD q) = ltB p q
  | .non, q, _, hq, ha => by
    cases q <;> simp_all [alikeB]
    decide +kernel
  | .bl a, q, _, hq, ha => by
    cases q <;> simp_all [alikeB]
    rename_i b
    simp only [toD, ltB]
    cases a <;> cases b <;> decide +kernel
  | .int a, q, _, hq, ha => by
    cases q <;> simp_all [alikeB]
    simp only [toD, ltB, PySem.W.dataLt_int]
  | .str a, q, _, hq, ha => by
    cases q <;> simp_all [alikeB]
    simp only [toD, ltB, PySem.W.dataLt_str]
  | .tup l, q, hp, hq, ha => by
    cases q <;> simp_all [alikeB]
    simp only [toD, ltB, PySem.W.dataLt_tuple]
    exact toDs_lt l _ (by simpa [isD] using hp) (by simpa [isD] using hq) ha
  | .lst l, q, hp, hq, ha => by
    cases q <;> simp_all [alikeB]
    simp only [toD, ltB, PySem.W.dataLt_list]
    exact toDs_lt l _ (by simpa [isD] using hp) (by simpa [isD] using hq) ha
  | .dct _ _ _, _, hp, _, _ => by simp [isD] at hp
  | .set _, _, hp, _, _ => by simp [isD] at hp
  | .scr _, _, hp, _, _ => by simp [isD] at hp
  | .obj _, _, hp, _, _ => by simp [isD] at hp
  | .fn _, _, hp, _, _ => by simp [isD] at hp
  | .clo _ _, _, hp, _, _ => by simp [isD] at hp
  | .ty _, _, hp, _, _ => by simp [isD] at hp
theorem toDs_lt : ∀ l m : List PV, isDs l = true → isDs m = true → alikeBs l m = true → PyProof.Rows.lexLt PyProof.Rows.itemOrd (PySem.W.keyToksAll (toDs l)) (PySem.W.keyToksAll (toDs m)) = ltBs l m
  | [], [], _, _, _ => by simp only [toDs, ltBs]; exact lex_nn
  | [], y :: ys, _, _, _ => by
    simp only [toDs, ltBs, PySem.W.keyToksAll]
    rfl
  | x :: xs, [], _, _, _ => by
    simp only [toDs, ltBs, PySem.W.keyToksAll]
    rfl
  | x :: xs, y :: ys, h1, h2, ha => by
    simp only [isDs, Bool.and_eq_true] at h1 h2
    simp only [alikeBs, Bool.and_eq_true] at ha
    simp only [toDs, ltBs]
    rw [PySem.W.dataLt_cons (by rw [toD_alike x y h1.1 h2.1]; exact ha.1), toD_eqv x y h1.1 h2.1, toDs_lt xs ys h1.2 h2.2 ha.2, toD_lt x y h1.1 h2.1 ha.1]
end
theorem int_le (a b : Int) : decide (a ≤ b) = !decide (b < a) := by
  by_cases h : a ≤ b
  · rw [decide_eq_true h, decide_eq_false (by omega)]; rfl
  · rw [decide_eq_false h, decide_eq_true (by omega)]; rfl
theorem o_lt (hu : X.A.units + 64 < cLine) : OpR X (compareOp .Lt) (OpM X.K X.mg fun x y => (pLt x y).map .bl) := cm_of fun pins s σ x y v u Q g px py b ok I rx ry r1 r2 hm q => by
  rcases pLt_some hm with ⟨i, j, rfl, rfl, rfl⟩ | ⟨i, j, rfl, rfl, rfl⟩ | ⟨l, m, rfl, rfl, d1, d2, al, dp, rfl⟩
  · obtain rfl := relI r1
    obtain rfl := relI r2
    exact op_lt pins s σ g.H _ _ v u Q I rx ry ⟨_, _, rfl, rfl, q⟩
  · obtain rfl := relS r1
    obtain rfl := relS r2
    exact op_lt_str pins s σ g.H _ _ v u Q I rx ry ⟨_, _, rfl, rfl, q⟩
  · have hd1 : isD (.tup l) = true := by simpa [isD] using d1
    have hd2 : isD (.tup m) = true := by simpa [isD] using d2
    have ha : alikeB (.tup l) (.tup m) = true := by simpa [alikeB] using al
    obtain ⟨as, q1⟩ := Dp.reads I _ x v (r1.dp hd1) rx
    obtain ⟨bs, q2⟩ := Dp.reads I _ y u (r2.dp hd2) ry
    have z := PySem.W.rcLt_alike _ _ X.A s v u as bs q1 q2 (by rw [toD_alike _ _ hd1 hd2]; exact ha) (by simp [toD]) (by rw [toD_dep, toD_dep]; simp only [dep]; omega)
    rw [toD_lt _ _ hd1 hd2 ha] at z
    exact z _ _ _ _ ⟨.bl _, g.H, I, rfl, by simpa only [ltB] using q⟩
theorem o_gt : OpR X (compareOp .Gt) (OpM X.K X.mg fun x y => (pGt x y).map .bl) := cm_of fun pins s σ x y v u Q g px py b ok I rx ry r1 r2 hm q => by
  rcases qLt_some hm with ⟨i, j, rfl, rfl, rfl⟩ | ⟨i, j, rfl, rfl, rfl⟩
  · obtain rfl := relI r1
    obtain rfl := relI r2
    exact op_gt pins s σ g.H _ _ v u Q I rx ry ⟨_, _, rfl, rfl, q⟩
  · obtain rfl := relS r1
    obtain rfl := relS r2
    exact op_gt_str pins s σ g.H _ _ v u Q I rx ry ⟨_, _, rfl, rfl, q⟩
theorem o_le : OpR X (compareOp .LtE) (OpM X.K X.mg fun x y => (pLe x y).map .bl) := cm_of fun pins s σ x y v u Q g px py b ok I rx ry r1 r2 hm q => by
  obtain ⟨c, hm2, rfl⟩ := Option.map_eq_some_iff.mp hm
  rcases qLt_some hm2 with ⟨i, j, rfl, rfl, rfl⟩ | ⟨i, j, rfl, rfl, rfl⟩
  · obtain rfl := relI r1
    obtain rfl := relI r2
    exact op_le pins s σ g.H _ _ v u Q I rx ry ⟨_, _, rfl, rfl, by dsimp only; rw [int_le]; exact q⟩
  · obtain rfl := relS r1
    obtain rfl := relS r2
    exact op_le_str pins s σ g.H _ _ v u Q I rx ry ⟨_, _, rfl, rfl, q⟩
theorem o_ge : OpR X (compareOp .GtE) (OpM X.K X.mg fun x y => (pGe x y).map .bl) := cm_of fun pins s σ x y v u Q g px py b ok I rx ry r1 r2 hm q => by
  obtain ⟨c, hm2, rfl⟩ := Option.map_eq_some_iff.mp hm
  rcases qLt_some hm2 with ⟨i, j, rfl, rfl, rfl⟩ | ⟨i, j, rfl, rfl, rfl⟩
  · obtain rfl := relI r1
    obtain rfl := relI r2
    exact op_ge pins s σ g.H _ _ v u Q I rx ry ⟨_, _, rfl, rfl, by dsimp only; rw [int_le]; exact q⟩
  · obtain rfl := relS r1
    obtain rfl := relS r2
    exact op_ge_str pins s σ g.H _ _ v u Q I rx ry ⟨_, _, rfl, rfl, q⟩
/-! is -/
theorem vNon {p : PV} {v : V} (r : RelD K mg g p v) : decide (v = .non) = isNon p := by
  cases p with
  | non => obtain rfl := relN r; rfl
  | bl b => obtain rfl := relB r; rfl
  | int b => obtain rfl := relI r; rfl
  | str b => obtain rfl := relS r; rfl
  | tup l => obtain ⟨a, vs, rfl, _⟩ := relT r; rfl
  | lst l => obtain ⟨a, vs, rfl, _⟩ := relL r; rfl
  | scr l => obtain ⟨a, vs, rfl, _⟩ := relX r; rfl
  | dct t ks vs => simp only [RelD] at r; obtain ⟨a, rfl, _⟩ := r; rfl
  | obj i => simp only [RelD, RelP] at r; obtain ⟨_, rfl⟩ := r; rfl
  | fn n => simp only [RelD, RelP] at r; obtain ⟨f, rfl, _⟩ := r; rfl
  | ty n => simp only [RelD, RelP] at r; subst r; rfl
  | set l => simp only [RelD, RelP] at r
  | clo n l => simp only [RelD, RelP] at r
/-- what a value is beside a bool -/
theorem vBl {p : PV} {v : V} {u : Value} {c : Bool} (r : RelD K mg g p v) (rv : L2.RelV v u) : (u == Value.bool c) = isBl c p := by
  cases p with
  | non => obtain rfl := relN r; cases rv; rfl
  | bl b => obtain rfl := relB r; cases rv; cases b <;> cases c <;> rfl
  | int b => obtain rfl := relI r; obtain ⟨t, rfl⟩ := rv; rfl
  | str b => obtain rfl := relS r; obtain ⟨t, rfl⟩ := rv; rfl
  | tup l => obtain ⟨a, vs, rfl, _⟩ := relT r; cases rv; rfl
  | lst l => obtain ⟨a, vs, rfl, _⟩ := relL r; cases rv; rfl
  | scr l => obtain ⟨a, vs, rfl, _⟩ := relX r; cases rv; rfl
  | dct t ks vs => simp only [RelD] at r; obtain ⟨a, rfl, _⟩ := r; cases rv; rfl
  | obj i => simp only [RelD, RelP] at r; obtain ⟨_, rfl⟩ := r; cases rv; rfl
  | fn n => simp only [RelD, RelP] at r; obtain ⟨f, rfl, _⟩ := r; cases rv; rfl
  | ty n => simp only [RelD, RelP] at r; subst r; cases rv; rfl
  | set l => simp only [RelD, RelP] at r
  | clo n l => simp only [RelD, RelP] at r
theorem plain_bl {v : V} {u : Value} (rv : L2.RelV v u) (c : Bool) : plainIs u (.bool c) = true := by
  cases v with
  | non => cases rv; rfl
  | bl _ => cases rv; rfl
  | int _ => obtain ⟨t, rfl⟩ := rv; rfl
  | str _ => obtain ⟨t, rfl⟩ := rv; rfl
  | byt _ => obtain ⟨t, rfl⟩ := rv; rfl
  | flt _ => obtain ⟨t, rfl⟩ := rv; rfl
  | ref _ => cases rv; rfl
  | ty _ => cases rv; rfl
theorem pIs_some {x y : PV} {b : Bool} (h : pIs x y = some b) : (y = .non ∧ b = isNon x) ∨ ∃ c, y = .bl c ∧ b = isBl c x := by
  cases y with
  | non => left; exact ⟨rfl, (Option.some.inj h).symm⟩
  | bl c => right; exact ⟨c, rfl, (Option.some.inj h).symm⟩
  | _ => simp [pIs] at h
theorem o_is : OpR X (compareOp .Is) (OpM X.K X.mg fun x y => (pIs x y).map .bl) := cm_of fun pins s σ x y v u Q g px py b ok I rx ry r1 r2 hm q => by
  rcases pIs_some hm with ⟨rfl, rfl⟩ | ⟨c, rfl, rfl⟩
  · obtain rfl := relN r2
    refine op_isN pins s σ g.H _ _ v u Q I rx ry ⟨rfl, ?_⟩
    rw [vNon r1]; exact q
  · obtain rfl := relB r2
    cases ry
    refine wpAny_is_plain (plain_bl rx c) ⟨.bl _, g.H, I, rfl, ?_⟩
    rw [vBl r1 rx]; exact q
theorem o_isN : OpR X (compareOp .IsNot) (OpM X.K X.mg fun x y => (pIsN x y).map .bl) := cm_of fun pins s σ x y v u Q g px py b ok I rx ry r1 r2 hm q => by
  obtain ⟨c, hm2, rfl⟩ := Option.map_eq_some_iff.mp hm
  rcases pIs_some hm2 with ⟨rfl, rfl⟩ | ⟨c, rfl, rfl⟩
  · obtain rfl := relN r2
    refine op_notN pins s σ g.H _ _ v u Q I rx ry ⟨rfl, ?_⟩
    rw [vNon r1]; exact q
  · obtain rfl := relB r2
    cases ry
    refine wpAny_isNot_plain (plain_bl rx c) ⟨.bl _, g.H, I, rfl, ?_⟩
    rw [vBl r1 rx]; exact q
/-! in -/
theorem isIn_iff (a : List Nat) : ∀ l : List Nat, isIn a l = true ↔ ∃ i, i + a.length ≤ l.length ∧ (l.drop i).take a.length = a
  | [] => by
    simp only [isIn]
    constructor
    · intro h
      have : a = [] := by simpa using h
      subst this
      exact ⟨0, by simp, by simp⟩
    · rintro ⟨i, h1, h2⟩
      have : a.length = 0 := by
        have e0 : ([] : List Nat).length = 0 := rfl
        omega
      have : a = [] := List.length_eq_zero_iff.mp this
      subst this; rfl
  | x :: xs => by
    simp only [isIn, Bool.or_eq_true, isIn_iff a xs, List.isPrefixOf_iff_prefix]
    constructor
    · rintro (⟨t, ht⟩ | ⟨i, h1, h2⟩)
      · refine ⟨0, ?_, ?_⟩
        · have := congrArg List.length ht
          simp at this ⊢; omega
        · rw [List.drop_zero, ← ht, List.take_left']
          rfl
      · exact ⟨i + 1, by simp; omega, by simpa using h2⟩
    · rintro ⟨i, h1, h2⟩
      cases i with
      | zero => left; refine ⟨(x :: xs).drop a.length, ?_⟩; rw [List.drop_zero] at h2; conv => lhs; lhs; rw [← h2]
                exact List.take_append_drop _ _
      | succ i => right; exact ⟨i, by simp at h1; omega, by simpa using h2⟩
theorem toDs_any (d : PV) (hd : isD d = true) : ∀ l : List PV, isDs l = true → (toDs l).any (fun y => PyData.eqv y (toD d)) = l.any fun y => eqB y d
  | [], _ => rfl
  | x :: xs, h => by
    simp only [isDs, Bool.and_eq_true] at h
    simp only [toDs, List.any_cons, toD_eqv x d h.1 hd, toDs_any d hd xs h.2]
theorem occ_in (a b : List Nat) : (!(Builtin.Str.occurrences ⟨b.toArray⟩ ⟨a.toArray⟩ 0 (⟨b.toArray⟩ : Str).length 1).isEmpty) = isIn a b := by
  rw [Bool.eq_iff_iff, StrLaws.found_iff, isIn_iff]
  have key : ∀ i, Builtin.Str.subAt ⟨b.toArray⟩ ⟨a.toArray⟩ i = true ↔ (b.drop i).take a.length = a := fun i => by
    rw [StrLaws.subAt_eq, strlen, beq_iff_eq]
  simp only [strlen, key]
theorem pIn_some {x y : PV} {b : Bool} (h : pIn x y = some b) : (∃ a l, x = .str a ∧ y = .str l ∧ b = isIn a l) ∨
    (∃ l, (y = .tup l ∨ y = .lst l) ∧ isD x = true ∧ isDs l = true ∧ min (deps l) (dep x) ≤ 64 ∧ b = l.any fun y => eqB y x) := by
  have one : ∀ (c : Nat) (l : List Nat), l.contains c = isIn [c] l := fun c l => by
    rw [Bool.eq_iff_iff, isIn_iff, List.contains_iff_mem]
    constructor
    · intro hm
      obtain ⟨i, hi, he⟩ := List.getElem_of_mem hm
      refine ⟨i, by simp; omega, ?_⟩
      rw [List.drop_eq_getElem_cons hi, he]; rfl
    · rintro ⟨i, h1, h2⟩
      have : c ∈ (l.drop i).take ([c] : List Nat).length := by rw [h2]; simp
      exact List.mem_of_mem_drop (List.mem_of_mem_take this)
  cases y with
  | str l =>
    left
    cases x with
    | str a =>
      match a, h with
      | [c], h => exact ⟨[c], l, rfl, rfl, by rw [← one]; exact (Option.some.inj h).symm⟩
      | [], h => exact ⟨_, _, rfl, rfl, (Option.some.inj h).symm⟩
      | _ :: _ :: _, h => exact ⟨_, _, rfl, rfl, (Option.some.inj h).symm⟩
    | _ => simp [pIn] at h
  | tup l =>
    right
    unfold pIn at h
    dsimp only at h
    split at h
    · rename_i hl
      simp only [Bool.and_eq_true, decide_eq_true_eq] at hl
      exact ⟨l, .inl rfl, hl.1.1, hl.1.2, hl.2, (Option.some.inj h).symm⟩
    · cases h
  | lst l =>
    right
    unfold pIn at h
    dsimp only at h
    split at h
    · rename_i hl
      simp only [Bool.and_eq_true, decide_eq_true_eq] at hl
      exact ⟨l, .inr rfl, hl.1.1, hl.1.2, hl.2, (Option.some.inj h).symm⟩
    · cases h
  | _ => simp [pIn] at h
theorem o_in (hu : X.A.units + 66 < cLine) : OpR X (compareOp .In) (OpM X.K X.mg fun x y => (pIn x y).map .bl) := cm_of fun pins s σ x y v u Q g px py b ok I rx ry r1 r2 hm q => by
  rcases pIn_some hm with ⟨a, l, rfl, rfl, rfl⟩ | ⟨l, hl, hd, hds, hdep, rfl⟩
  · obtain rfl := relS r1
    obtain rfl := relS r2
    exact op_in_str pins s σ g.H _ _ v u Q I rx ry ⟨_, _, rfl, rfl, by rw [occ_in]; exact q⟩
  · obtain ⟨as, q1⟩ := Dp.reads I _ x v (r1.dp hd) rx
    have hy : isD py = true := by rcases hl with rfl | rfl <;> simpa [isD] using hds
    obtain ⟨bs, q2⟩ := Dp.reads I _ y u (r2.dp hy) ry
    have fin : EP X pins σ Q (.bool ((toDs l).any fun y => PyData.eqv y (toD px))) s := ⟨.bl _, g.H, I, rfl, by rw [toDs_any px hd l hds]; exact q⟩
    have hroom : X.A.units + 1 + min (PyData.depthAll (toDs l)) (toD px).depth < cLine := by rw [toD_dep, toDs_dep]; omega
    rcases hl with rfl | rfl
    · exact SeqAt.in_tuple_data (by simpa only [toD] using q2) q1 (toDs_plain l) (toD_plain px) hroom fin
    · exact SeqAt.in_list_data (by simpa only [toD] using q2) q1 (toDs_plain l) (toD_plain px) hroom fin
theorem o_notIn (hu : X.A.units + 66 < cLine) : OpR X (compareOp .NotIn) (OpM X.K X.mg fun x y => (pNin x y).map .bl) := cm_of fun pins s σ x y v u Q g px py b ok I rx ry r1 r2 hm q => by
  obtain ⟨c, hm2, rfl⟩ := Option.map_eq_some_iff.mp hm
  rcases pIn_some hm2 with ⟨a, l, rfl, rfl, rfl⟩ | ⟨l, hl, hd, hds, hdep, rfl⟩
  · obtain rfl := relS r1
    obtain rfl := relS r2
    exact op_notIn_str pins s σ g.H _ _ v u Q I rx ry ⟨_, _, rfl, rfl, by rw [occ_in]; exact q⟩
  · obtain ⟨as, q1⟩ := Dp.reads I _ x v (r1.dp hd) rx
    have hy : isD py = true := by rcases hl with rfl | rfl <;> simpa [isD] using hds
    obtain ⟨bs, q2⟩ := Dp.reads I _ y u (r2.dp hy) ry
    have fin : EP X pins σ Q (.bool (!(toDs l).any fun y => PyData.eqv y (toD px))) s := ⟨.bl _, g.H, I, rfl, by rw [toDs_any px hd l hds]; exact q⟩
    have hroom : X.A.units + 1 + min (PyData.depthAll (toDs l)) (toD px).depth < cLine := by rw [toD_dep, toDs_dep]; omega
    rcases hl with rfl | rfl
    · exact SeqAt.notIn_tuple_data (by simpa only [toD] using q2) q1 (toDs_plain l) (toD_plain px) hroom fin
    · exact SeqAt.notIn_list_data (by simpa only [toD] using q2) q1 (toDs_plain l) (toD_plain px) hroom fin
end
end
end Mr
namespace Mr
noncomputable section
open PySem PySem.Spec PyProof.Rows L2
section
variable {K : PySem.W.Frag} {mg : MG} {g : G} {X : Cx}
/-! ### dicts -/
theorem pvKey_at (k : Key) : isAt (pvKey k) = true := by cases k <;> rfl
theorem aeq_key (k j : Key) : aeq (pvKey k) (pvKey j) = decide (k = j) := by
  cases k with
  | inl i => cases j with
    | inl j => simp only [pvKey, aeq, key_ll]
    | inr y => simp [pvKey, aeq, key_lr]
  | inr x => cases j with
    | inl j => simp [pvKey, aeq, key_rl]
    | inr y =>
      simp only [pvKey, aeq, key_rr]
      by_cases e : x = y
      · subst e; simp
      · have : ¬ x.cps.toList = y.cps.toList := fun q => e (TL.ext_tl q)
        rw [decide_eq_false e, beq_eq_false_iff_ne]
        exact this
theorem aeqs_key : ∀ (a b : List Key), aeqs (a.map pvKey) (b.map pvKey) = decide (a = b)
  | [], [] => by simp [aeqs]
  | [], _ :: _ => by simp [aeqs]
  | _ :: _, [] => by simp [aeqs]
  | x :: xs, y :: ys => by
    simp only [List.map_cons, aeqs, aeq_key, aeqs_key xs ys]
    by_cases h1 : x = y <;> by_cases h2 : xs = ys <;> simp [h1, h2]
theorem key_of {p : PV} {v : V} (h : isKey false p = true) (r : RelP K mg g p v) : ∃ k, p = pvKey k ∧ v = kV k := by
  cases p with
  | int i => simp only [RelP] at r; exact ⟨.inl i, rfl, r⟩
  | str l => simp only [RelP] at r; exact ⟨.inr ⟨l.toArray⟩, by simp [pvKey], r⟩
  | _ => simp [isKey] at h
theorem keys_of : ∀ {l : List PV} {vs : List V}, l.all isAt = true → RelPs K mg g l vs → ∃ ks : List Key, l = ks.map pvKey ∧ vs = ks.map kV
  | [], vs, _, r => by simp only [RelPs] at r; exact ⟨[], rfl, r⟩
  | p :: ps, vs, h, r => by
    simp only [List.all_cons, Bool.and_eq_true] at h
    simp only [RelPs] at r
    obtain ⟨v, rs, rfl, r1, r2⟩ := r
    obtain ⟨k, e1, e2⟩ := key_of (K := K) (mg := mg) (g := g) (p := p) (v := v) (by cases p <;> simp_all [isAt, isKey]) r1
    obtain ⟨ks, e3, e4⟩ := keys_of h.2 r2
    exact ⟨k :: ks, by rw [e1, e3]; rfl, by rw [e2, e4]; rfl⟩
theorem keq_pv (k j : Key) : keq (pvKey k) (pvKey j) = decide (k = j) := by
  rw [← aeq_key]
  cases k <;> cases j <;> rfl
theorem dget_k {k : Key} : ∀ {kvs : List (Key × V)} {vs : List PV}, RelPs K mg g vs (kvs.map (·.2)) →
    (∀ p, dget (kvs.map fun q => pvKey q.1) vs (pvKey k) = some p → ∃ v, valV kvs k = some v ∧ RelP K mg g p v) ∧ (dget (kvs.map fun q => pvKey q.1) vs (pvKey k) = none → valV kvs k = none)
  | [], vs, r => by
    constructor
    · intro p h; simp [dget] at h
    · intro _; rfl
  | q :: kvs, vs, r => by
    cases vs with
    | nil => simp [RelPs] at r
    | cons w ws =>
      simp only [List.map_cons, RelPs] at r
      obtain ⟨v, rs, e, r1, r2⟩ := r
      cases e
      simp only [List.map_cons, dget, keq_pv]
      by_cases h : q.1 = k
      · simp only [decide_eq_true h, if_true]
        exact ⟨fun p e => ⟨_, valV_pos h, by cases e; exact r1⟩, fun e => nomatch e⟩
      · simp only [decide_eq_false h, if_neg Bool.false_ne_true, valV_neg h]
        exact dget_k r2
theorem dget_t {k : List Key} : ∀ {kvs : List (List Key × V)} {vs : List PV}, RelPs K mg g vs (kvs.map (·.2)) →
    (∀ p, dget (kvs.map fun q => PV.tup (q.1.map pvKey)) vs (.tup (k.map pvKey)) = some p → ∃ v, valV kvs k = some v ∧ RelP K mg g p v) ∧ (dget (kvs.map fun q => PV.tup (q.1.map pvKey)) vs (.tup (k.map pvKey)) = none → valV kvs k = none)
  | [], vs, r => by
    constructor
    · intro p h; simp [dget] at h
    · intro _; rfl
  | q :: kvs, vs, r => by
    cases vs with
    | nil => simp [RelPs] at r
    | cons w ws =>
      simp only [List.map_cons, RelPs] at r
      obtain ⟨v, rs, e, r1, r2⟩ := r
      cases e
      simp only [List.map_cons, dget, keq, aeqs_key]
      by_cases h : q.1 = k
      · simp only [decide_eq_true h, if_true]
        exact ⟨fun p e => ⟨_, valV_pos h, by cases e; exact r1⟩, fun e => nomatch e⟩
      · simp only [decide_eq_false h, if_neg Bool.false_ne_true, valV_neg h]
        exact dget_t r2
theorem isKey_d {t : Bool} {p : PV} {v : V} (h : isKey t p = true) (r : RelD K mg g p v) : RelP K mg g p v := by
  cases p <;> simp_all [isKey, RelD]
/-- what a dict holds at a key -/
theorem dGet {t : Bool} {ks vs : List PV} {x k : V} {p : PV} (hk : isKey t p = true) (rd : RelD K mg g (.dct t ks vs) x) (rk : RelP K mg g p k) : ∃ a o, x = .ref a ∧ DGet g.H a k o ∧
    (∀ q, dget ks vs p = some q → ∃ v, o = some v ∧ RelP K mg g q v) ∧ (dget ks vs p = none → o = none) := by
  simp only [RelD] at rd
  obtain ⟨a, rfl, rd⟩ := rd
  rcases rd with ⟨rfl, kvs, h1, rfl, h3⟩ | ⟨rfl, kvs, h1, rfl, h3⟩
  · obtain ⟨kk, rfl, rfl⟩ := key_of hk rk
    obtain ⟨d1, d2⟩ := dget_k (k := kk) h3
    exact ⟨a, _, rfl, .inl ⟨kvs, kk, h1, rfl, rfl⟩, d1, d2⟩
  · cases p with
    | tup l =>
      simp only [isKey, Bool.true_and] at hk
      simp only [RelP] at rk
      obtain ⟨b, us, rfl, hb, rb⟩ := rk
      obtain ⟨kk, rfl, rfl⟩ := keys_of hk rb
      obtain ⟨d1, d2⟩ := dget_t (k := kk) h3
      exact ⟨a, _, rfl, .inr ⟨kvs, kk, b, h1, rfl, hb, rfl⟩, d1, d2⟩
    | _ => simp [isKey] at hk
/-! ### places -/
theorem ixL_eq (n : Nat) (i : Int) : ixL n i = ixN n i := rfl
theorem atL_rel {l : List PV} {vs : List V} {i : Int} {p : PV} (r : RelPs K mg g l vs) (h : atL l i = some p) : ∃ v, atI vs i = some v ∧ RelP K mg g p v := by
  unfold atL at h
  unfold atI
  rw [ixL_eq, r.length] at h
  cases e : ixN vs.length i with
  | none => rw [e] at h; cases h
  | some j =>
    rw [e] at h
    obtain ⟨v, e2, rv⟩ := r.get' (i := j) h
    exact ⟨v, e2, rv⟩
theorem x_ix (hu : X.A.units + 1 < cLine) : IxR X (OpM X.K X.mg pIx) := by
  intro value slice pins s σ H x y v u Q I rx ry ⟨g, px, py, z, eH, ok, r1, r2, hz, q⟩ hs
  subst eH
  unfold pIx at hz
  split at hz
  · obtain ⟨a, vs, rfl, h1, h2⟩ := relT r1
    obtain rfl := relI r2
    obtain ⟨w, e, rw'⟩ := atL_rel h2 hz
    exact ix_tup value slice pins s σ g.H _ _ v u Q I rx ry ⟨a, vs, _, w, rfl, rfl, SqT.of h1, e, q g w (Ext.refl g) ok rfl rw'⟩ hs
  · obtain ⟨a, vs, rfl, h1, h2⟩ := relL r1
    obtain rfl := relI r2
    obtain ⟨w, e, rw'⟩ := atL_rel h2 hz
    exact ix_list value slice pins s σ g.H _ _ v u Q I rx ry ⟨a, vs, _, w, rfl, rfl, SqL.of h1, e, q g w (Ext.refl g) ok rfl rw'⟩ hs
  · obtain ⟨a, vs, rfl, h1, h2⟩ := relX r1
    obtain rfl := relI r2
    obtain ⟨w, e, rw'⟩ := atL_rel h2 hz
    exact ix_list value slice pins s σ g.H _ _ v u Q I rx ry ⟨a, vs, _, w, rfl, rfl, h1, e, q g w (Ext.refl g) ok rfl rw'⟩ hs
  · split at hz
    · rename_i l i hl
      obtain rfl := relS r1
      obtain rfl := relI r2
      obtain ⟨c, hc, rfl⟩ := Option.map_eq_some_iff.mp hz
      refine ix_str value slice pins s σ g.H _ _ v u Q I rx ry ⟨⟨l.toArray⟩, i, c, rfl, rfl, by rw [strlen]; exact toSz hl, ?_, fin_str ok q⟩ hs
      simpa [atI, atL, ixL_eq] using hc
    · cases hz
  · rename_i t ks vs k
    split at hz
    · rename_i hk
      have rk := isKey_d hk r2
      obtain ⟨a, o, rfl, dg, d1, _⟩ := dGet hk r1 rk
      obtain ⟨w, rfl, rw'⟩ := d1 z hz
      cases rx
      exact tail_any (dict_typeIs I dg) PySem.F.slot_dict_getitem.lookup (d_getItem hu I dg ry fun w' s' I' rw2 => ⟨w, g.H, I', rw2, q g w (Ext.refl g) ok rfl rw'⟩) hs
    · cases hz
  · cases hz
theorem ie_ix {W : WY} {pos : Pos} {a b : Expr} {f h : EX} (hu : X.A.units + 1 < cLine) (ha : IE X W a f) (hb : IE X W b h) (hs : PlainIx b := by intro _ _; rfl) : IE X W (.Subscript a b pos) (eBin pIx f h) :=
  PE.weak (pe_ix (x_ix hu) ha hb hs) fun σ H Q q => RdE.op2 q
/-! ### slices -/
abbrev EO := Env → MS → Res (Option Int)
def oNone : EO := fun _ s => .ok none s
def oInt : PV → Option (Option Int)
  | .int i => some (some i)
  | _ => none
def oSome (f : EX) : EO := fun e s => (f e s).bind fun x s => ofO (oInt x) s
abbrev IO (X : Cx) (W : WY) (e : Option Expr) (f : EO) : Prop := L2.PO X e (RdA X.K X.mg (fun _ (a : Option Int) b => a = b) W f)
theorem PO.weak {e : Option Expr} {t t' : TO} (h : L2.PO X e t) (w : ∀ σ H Q, t' σ H Q → t σ H Q) : L2.PO X e t' := ⟨fun pins s σ H Q I q => h.run pins s σ H Q I (w σ H Q q)⟩
theorem io_none {W : WY} : IO X W none oNone := PO.weak po_none fun σ H Q q => RdA.pure (fun _ => rfl) q
theorem io_some {W : WY} {a : Expr} {f : EX} (ha : IE X W a f) : IO X W (some a) (oSome f) := PO.weak (po_some ha) fun σ H Q q => by
  unfold tPart
  refine (RdA.seq (R := fun g p v => RelP X.K X.mg g p v) (f := f) (k := fun x e s => ofO (oInt x) s) q).imp fun v H1 q => ?_
  obtain ⟨p, g, env, rfl, ok, re, r, q⟩ := q
  cases p with
  | int i =>
    obtain rfl := relI r.d
    exact ⟨i, rfl, OutA.ok ok q rfl⟩
  | _ => exact q.elim
def eCut (f : EX) (lo hi : EO) : EX := fun e s => (f e s).bind fun x s => (lo e s).bind fun l s => (hi e s).bind fun u s => ofO (pCut (deref s x) l u) s
theorem sIx_eq (n d : Nat) (o : Option Int) : sIx n d o = HT.sIx n d o := by cases o <;> rfl
theorem cut_rel {l : List PV} {vs : List V} (r : RelPs K mg g l vs) (lo hi : Option Int) : RelPs K mg g (cutL l lo hi) (cutV vs lo hi) := by
  unfold cutL cutV
  rw [sIx_eq, sIx_eq, r.length]
  exact (r.drop _).take _
theorem s_cut : SlR X (fun x lo hi H Q => ∃ g px z, g.H = H ∧ g.Ok X.K X.mg ∧ RelD X.K X.mg g px x ∧ pCut px lo hi = some z ∧ ∀ g' v, Ext g g' → g'.Ok X.K X.mg → g'.s = g.s → RelP X.K X.mg g' z v → Q v g'.H) := by
  intro pins s σ H x v vl vu lo hi sl Q I rx hs pl pu ⟨g, px, z, eH, ok, r, hz, q⟩
  subst eH
  unfold pCut at hz
  split at hz
  · split at hz
    · rename_i l hl
      cases hz
      obtain rfl := relS r
      refine sl_str pins s σ g.H _ v vl vu lo hi sl Q I rx hs pl pu ⟨_, rfl, by rw [strlen]; exact toSz hl, ?_⟩
      have e : L2.cutS ⟨l.toArray⟩ lo hi = ⟨(cutL l lo hi).toArray⟩ := by
        unfold L2.cutS cutL
        simp only [sIx_eq, strlen]
      rw [e]
      exact fin_str ok q
    · cases hz
  · cases hz
    obtain ⟨a, vs, rfl, h1, h2⟩ := relT r
    refine sl_tupA pins s σ g.H _ v vl vu lo hi sl Q I rx hs pl pu ⟨a, vs, rfl, SqT.of h1, fun ⟨e1, e2⟩ => ?_, fun _ p hp => fin_tup ok (cut_rel h2 lo hi) q p hp⟩
    refine q g _ (Ext.refl g) ok rfl ?_
    simp only [RelP]
    refine ⟨a, vs, rfl, h1, ?_⟩
    have c := cut_rel h2 lo hi
    unfold cutV at c
    rw [e1, e2, List.drop_zero, Nat.sub_zero, List.take_length] at c
    exact c
  · cases hz
    obtain ⟨a, vs, rfl, h1, h2⟩ := relL r
    exact sl_list pins s σ g.H _ v vl vu lo hi sl Q I rx hs pl pu ⟨a, vs, rfl, SqL.of h1, fun p hp => fin_lst ok (cut_rel h2 lo hi) q p hp⟩
  · cases hz
    obtain ⟨a, vs, rfl, h1, h2⟩ := relX r
    exact sl_list pins s σ g.H _ v vl vu lo hi sl Q I rx hs pl pu ⟨a, vs, rfl, h1, fun p hp => fin_lst ok (cut_rel h2 lo hi) q p hp⟩
  · cases hz
theorem ie_cut {W : WY} {pos p2 : Pos} {a : Expr} {lo hi : Option Expr} {f : EX} {l u : EO} (ha : IE X W a f) (hl : IO X W lo l) (hu : IO X W hi u) : IE X W (.Subscript a (.Slice lo hi none p2) pos) (eCut f l u) :=
  PE.weak (pe_slice s_cut ha hl hu) fun σ H Q q => by
    unfold tSl
    refine (RdA.seq (R := fun g p v => RelP X.K X.mg g p v) (f := f) (k := fun x e s => (l e s).bind fun l s => (u e s).bind fun u s => ofO (pCut (deref s x) l u) s) q).imp fun v H1 q => ?_
    obtain ⟨p, g, env, e, ok, re, r, q⟩ := q
    refine ⟨g, env, e, ok, re, ?_⟩
    revert q
    cases l env g.s with
    | exc c p s' => exact id
    | stuck => exact id
    | ok lv s2 =>
      intro q g2 lv' x2 ok2 e2 hlv
      subst hlv
      have q := OutA.back ok ok2 x2 q
      refine ⟨g2, env, rfl, ok2, re.ext ok x2, ?_⟩
      subst e2
      simp only [bind_ok] at q
      revert q
      cases u env g2.s with
      | exc c p s' => exact id
      | stuck => exact id
      | ok uv s3 =>
        intro q g3 uv' x3 ok3 e3 huv
        subst huv
        have q := OutA.back ok2 ok3 x3 q
        subst e3
        simp only [bind_ok] at q
        have rd := ((r.ext ok x2).ext ok2 x3).deref ok3
        change OutA X.K X.mg (fun g p v => RelP X.K X.mg g p v) g3 σ W (ofO (pCut (deref g3.s p) lv uv) g3.s) Q at q
        cases hz : pCut (deref g3.s p) lv uv with
        | none => rw [hz] at q; exact q.elim
        | some z =>
          rw [hz] at q
          exact ⟨g3, _, z, rfl, ok3, rd, hz, fun g' w x' ok' es r' => q g' w x' ok' es r'⟩
end
end
end Mr
namespace Mr
noncomputable section
open PySem PySem.Spec PyProof.Rows L2
def RelDs (K : PySem.W.Frag) (mg : MG) (g : G) : List PV → List V → Prop
  | [], vs => vs = []
  | p :: ps, vs => ∃ v r, vs = v :: r ∧ RelD K mg g p v ∧ RelDs K mg g ps r
def eB (m : List PV → Option PV) (fs : List EX) : EX := fun e s => (eList fs e s).bind fun xs s => ofO (m (xs.map (deref s))) s
def CalM (K : PySem.W.Frag) (mg : MG) (m : List PV → Option PV) : List V → Hp → VK → Prop := fun vs H Q =>
  ∃ g ps z, g.H = H ∧ g.Ok K mg ∧ RelDs K mg g ps vs ∧ m ps = some z ∧ ∀ g' v, Ext g g' → g'.Ok K mg → g'.s = g.s → RelP K mg g' z v → Q v g'.H
section
variable {K : PySem.W.Frag} {mg : MG} {g : G} {X : Cx} {W : WY} {pos : Pos} {a : Expr} {es : List Expr} {f : EX} {fs : List EX} {m : List PV → Option PV}
theorem RelPs.derefs (ok : g.Ok K mg) : ∀ {l : List PV} {vs : List V}, RelPs K mg g l vs → RelDs K mg g (l.map (deref g.s)) vs
  | [], vs, r => by simp only [RelPs] at r; exact r
  | p :: ps, vs, r => by
    simp only [RelPs] at r
    obtain ⟨v, rs, e, r1, r2⟩ := r
    exact ⟨v, rs, e, r1.deref ok, RelPs.derefs ok r2⟩
theorem RdE.b {σ : L2.St} {H : Hp} {Q : VK} (q : RdE K mg W (eB m fs) σ H Q) : RdL K mg W (eList fs) σ H fun vs H1 => CalM K mg m vs H1 Q := by
  refine (RdA.seq (R := fun g p v => RelPs K mg g p v) (f := eList fs) (k := fun xs e s => ofO (m (xs.map (deref s))) s) q).imp fun vs H1 q => ?_
  obtain ⟨p, g, env, e, ok, re, r, q⟩ := q
  cases hz : m (p.map (deref g.s)) with
  | none => rw [hz] at q; exact q.elim
  | some z =>
    rw [hz] at q
    exact ⟨g, _, z, e, ok, r.derefs ok, hz, fun g' v x ok' es r' => q g' v x ok' es r'⟩
/-- f(..), f a built-in function -/
theorem ie_b {x : Str} {p : Pos} {id : String} (hc : CallR X (.builtin id) (CalM X.K X.mg m)) (hg : Gl X x) (hm : X.mg x = none) (hv : bootBuiltins x = some (.builtin id)) (ha : IA X W (a :: es) (eList fs)) (hn : x ≠ "__name__" := by decide) (hdb : (x == ("__debug__" : Str)) = false := by decide)
    (he : starEach (a :: es) X.env = (false, eval a X.env) :: starEach es X.env := by rfl) (hpl : (backTo pos (starEach es X.env)).any (·.1) = false := by rfl) : IE X W (.Call (.Name x p) (a :: es) [] pos) (eB m fs) :=
  PE.weak (pe_callB hc hg hm hv ha hn hdb he hpl) fun σ H Q q => RdE.b q
/-- T(..), T a built-in type -/
theorem ie_ty {x : Str} {p : Pos} {T : String} (hc : CallR X (.type T) (CalM X.K X.mg m)) (hg : Gl X x) (hm : X.mg x = none) (hv : bootBuiltins x = some (.type T)) (ha : IA X W (a :: es) (eList fs)) (hn : x ≠ "__name__" := by decide) (hdb : (x == ("__debug__" : Str)) = false := by decide)
    (he : starEach (a :: es) X.env = (false, eval a X.env) :: starEach es X.env := by rfl) (hpl : (backTo pos (starEach es X.env)).any (·.1) = false := by rfl) : IE X W (.Call (.Name x p) (a :: es) [] pos) (eB m fs) :=
  PE.weak (pe_callTy hc hg hm hv ha hn hdb he hpl) fun σ H Q q => RdE.b q
/-- a built-in type as a value -/
theorem ie_tyName {x : Str} (n : String) (hg : Gl X x) (hm : X.mg x = none) (hv : bootBuiltins x = some (.type n)) (hn : x ≠ "__name__" := by decide) (hdb : (x == ("__debug__" : Str)) = false := by decide) : IE X W (.Name x pos) (eC (.ty n)) :=
  ie_c (v := .ty n) (pe_bltn hg hm hv rfl hn hdb) fun _ => by simp only [RelP]
/-- a constant of the module -/
theorem ie_gInt {x : Str} {i : Int} (hg : Gl X x) (hm : ∃ t, X.mg x = some (.int i t)) (hdb : (x == ("__debug__" : Str)) = false := by decide) : IE X W (.Name x pos) (eC (.int i)) := by
  obtain ⟨t, hm⟩ := hm
  exact ie_c (v := .int i) (pe_glob hg hm ⟨t, rfl⟩ hdb) fun _ => by simp only [RelP]
theorem ie_gStr {x : Str} {y : Str} (l : List Nat) (hg : Gl X x) (hm : ∃ t, X.mg x = some (.str y t)) (h : y = ⟨l.toArray⟩ := by decide +kernel) (hdb : (x == ("__debug__" : Str)) = false := by decide) : IE X W (.Name x pos) (eC (.str l)) := by
  obtain ⟨t, hm⟩ := hm
  subst h
  exact ie_c (v := .str _) (pe_glob hg hm ⟨t, rfl⟩ hdb) fun _ => by simp only [RelP]
/-! ### the functions -/
theorem RelDs.one {p : PV} {vs : List V} (r : RelDs K mg g [p] vs) : ∃ v, vs = [v] ∧ RelD K mg g p v := by
  obtain ⟨v, _, rfl, h, rfl⟩ := r; exact ⟨v, rfl, h⟩
theorem RelDs.two {p q : PV} {vs : List V} (r : RelDs K mg g [p, q] vs) : ∃ v w, vs = [v, w] ∧ RelD K mg g p v ∧ RelD K mg g q w := by
  obtain ⟨v, _, rfl, h, w, _, rfl, h2, rfl⟩ := r; exact ⟨v, w, rfl, h, h2⟩
theorem tyOf_x {p : PV} {v : V} {t : String} (r : RelD K mg g p v) (h : tyOf p = some t) : TyX K g.H v (.type t) := by
  cases p with
  | non => obtain rfl := relN r; cases h; exact .base .non
  | bl b => obtain rfl := relB r; cases h; exact .base (.bl _)
  | int i => obtain rfl := relI r; cases h; exact .base (.int _)
  | str l => obtain rfl := relS r; cases h; exact .base (.str _)
  | tup l => obtain ⟨a, vs, rfl, h1, _⟩ := relT r; cases h; exact .base (.tup h1)
  | lst l => obtain ⟨a, vs, rfl, h1, _⟩ := relL r; cases h; exact .base (.lst h1)
  | dct t ks vs =>
    cases t with
    | true => cases h
    | false =>
      cases h
      simp only [RelD] at r
      obtain ⟨a, rfl, ⟨_, kvs, h1, _⟩ | ⟨e, _⟩⟩ := r
      · rcases h1 with h1 | ⟨o, h1⟩
        · exact .base (.dK h1)
        · exact .fDict h1
      · cases e
  | _ => cases h
theorem kit_all : ∀ t ∈ ["NoneType", "bool", "int", "str", "tuple", "list", "dict"], ∀ c ∈ kinds, kitB t c = some (isSub t c) := by decide +kernel
theorem tyOf_mem {p : PV} {t : String} (h : tyOf p = some t) : t ∈ ["NoneType", "bool", "int", "str", "tuple", "list", "dict"] := by
  unfold tyOf at h
  split at h <;> first | (cases h; decide) | cases h
theorem c_isi : CallR X (.builtin "isinstance") (CalM X.K X.mg bIsi) := by
  intro pins s σ H xs us Q I r ⟨g, ps, z, eH, ok, rd, hz, q⟩
  subst eH
  unfold bIsi at hz
  split at hz
  · rename_i x c
    obtain ⟨v, w, rfl, r1, r2⟩ := rd.two
    cases ht : tyOf x with
    | none => rw [ht] at hz; cases hz
    | some t =>
      rw [ht] at hz
      simp only [Option.bind_some] at hz
      split at hz
      · rename_i hk
        cases hz
        simp only [RelD, RelP] at r2
        subst r2
        exact call_isi pins s σ g.H _ us Q I r ⟨v, .ty c, .type t, .type c, isSub t c, rfl, .ty c, tyOf_x r1 ht, kit_ty (kit_all t (tyOf_mem ht) c (by simpa using hk)), fin_bl ok q⟩
      · cases hz
  · cases hz
theorem c_len : CallR X (.builtin "len") (CalM X.K X.mg bLen) := by
  intro pins s σ H xs us Q I r ⟨g, ps, z, eH, ok, rd, hz, q⟩
  subst eH
  unfold bLen at hz
  split at hz
  · split at hz
    · rename_i l hl
      cases hz
      obtain ⟨v, rfl, r1⟩ := rd.one
      obtain rfl := relS r1
      exact call_len_str pins s σ g.H _ us Q I r ⟨_, rfl, by rw [strlen]; exact toSz hl, by rw [strlen]; exact fin_int ok q⟩
    · cases hz
  · cases hz
    obtain ⟨v, rfl, r1⟩ := rd.one
    simp only [RelD] at r1
    obtain ⟨a, rfl, ⟨_, kvs, h1, rfl, h3⟩ | ⟨e, _⟩⟩ := r1
    · obtain ⟨u, rfl, ru⟩ := vals1 r
      cases ru
      exact d_len I h1 fun t s' I' => ⟨.int _, g.H, I', ⟨t, rfl⟩, by simpa using fin_int ok q⟩
    · cases e
  · obtain ⟨l, hl, rfl⟩ := Option.map_eq_some_iff.mp hz
    obtain ⟨v, rfl, r1⟩ := rd.one
    rename_i x _ _
    cases x with
    | tup l' =>
      cases hl
      obtain ⟨a, vs, rfl, h1, h2⟩ := relT r1
      exact call_len_seq pins s σ g.H _ us Q I r ⟨a, vs, rfl, .inr (SqT.of h1), by rw [← h2.length]; exact fin_int ok q⟩
    | lst l' =>
      cases hl
      obtain ⟨a, vs, rfl, h1, h2⟩ := relL r1
      exact call_len_seq pins s σ g.H _ us Q I r ⟨a, vs, rfl, .inl (SqL.of h1), by rw [← h2.length]; exact fin_int ok q⟩
    | scr l' =>
      cases hl
      obtain ⟨a, vs, rfl, h1, h2⟩ := relX r1
      exact call_len_seq pins s σ g.H _ us Q I r ⟨a, vs, rfl, .inl h1, by rw [← h2.length]; exact fin_int ok q⟩
    | _ => cases hl
  · cases hz
theorem allBl_rel : ∀ {l : List PV} {vs : List V} {bs : List Bool}, allBl l = some bs → RelPs K mg g l vs → vs = bs.map V.bl
  | [], vs, bs, h, r => by
    cases h
    simp only [RelPs] at r
    exact r
  | p :: ps, vs, bs, h, r => by
    simp only [RelPs] at r
    obtain ⟨v, rs, rfl, r1, r2⟩ := r
    cases p with
    | bl b =>
      simp only [allBl] at h
      obtain ⟨cs, hc, rfl⟩ := Option.map_eq_some_iff.mp h
      simp only [RelP] at r1
      rw [r1, allBl_rel hc r2]; rfl
    | _ => simp [allBl] at h
theorem allInt_rel : ∀ {l : List PV} {vs : List V} {bs : List Int}, allInt l = some bs → RelPs K mg g l vs → vs = bs.map V.int
  | [], vs, bs, h, r => by
    cases h
    simp only [RelPs] at r
    exact r
  | p :: ps, vs, bs, h, r => by
    simp only [RelPs] at r
    obtain ⟨v, rs, rfl, r1, r2⟩ := r
    cases p with
    | int b =>
      simp only [allInt] at h
      obtain ⟨cs, hc, rfl⟩ := Option.map_eq_some_iff.mp h
      simp only [RelP] at r1
      rw [r1, allInt_rel hc r2]; rfl
    | _ => simp [allInt] at h
def mkS (l : List Nat) : Str := ⟨l.toArray⟩
theorem allStr_rel : ∀ {l : List PV} {vs : List V} {bs : List (List Nat)}, allStr l = some bs → RelPs K mg g l vs → vs = (bs.map mkS).map V.str
  | [], vs, bs, h, r => by
    cases h
    simp only [RelPs] at r
    exact r
  | p :: ps, vs, bs, h, r => by
    simp only [RelPs] at r
    obtain ⟨v, rs, rfl, r1, r2⟩ := r
    cases p with
    | str b =>
      simp only [allStr] at h
      obtain ⟨cs, hc, rfl⟩ := Option.map_eq_some_iff.mp h
      simp only [RelP] at r1
      rw [r1, allStr_rel hc r2]; rfl
    | _ => simp [allStr] at h
theorem RelPs.ints : ∀ ns : List Int, RelPs K mg g (ns.map .int) (ns.map V.int)
  | [] => RelPs.nil
  | n :: ns => RelPs.cons (by simp only [RelP]) (RelPs.ints ns)
theorem RelPs.strs : ∀ ns : List (List Nat), RelPs K mg g (ns.map .str) ((ns.map mkS).map V.str)
  | [] => RelPs.nil
  | n :: ns => RelPs.cons (by simp only [RelP]; rfl) (RelPs.strs ns)
theorem c_all (hc : X.calm = true) : CallR X (.builtin "all") (CalM X.K X.mg bAll) := by
  intro pins s σ H xs us Q I r ⟨g, ps, z, eH, ok, rd, hz, q⟩
  subst eH
  unfold bAll at hz
  split at hz
  · obtain ⟨bs, hb, rfl⟩ := Option.map_eq_some_iff.mp hz
    obtain ⟨v, rfl, r1⟩ := rd.one
    obtain ⟨a, vs, rfl, h1, h2⟩ := relL r1
    have e := allBl_rel hb h2
    subst e
    exact cr_all hc pins s σ g.H _ us Q I r ⟨a, bs, rfl, SqL.of h1, fin_bl ok q⟩
  · cases hz
theorem c_any (hc : X.calm = true) : CallR X (.builtin "any") (CalM X.K X.mg bAny) := by
  intro pins s σ H xs us Q I r ⟨g, ps, z, eH, ok, rd, hz, q⟩
  subst eH
  unfold bAny at hz
  split at hz
  · obtain ⟨bs, hb, rfl⟩ := Option.map_eq_some_iff.mp hz
    obtain ⟨v, rfl, r1⟩ := rd.one
    obtain ⟨a, vs, rfl, h1, h2⟩ := relL r1
    have e := allBl_rel hb h2
    subst e
    exact cr_any hc pins s σ g.H _ us Q I r ⟨a, bs, rfl, SqL.of h1, fin_bl ok q⟩
  · cases hz
theorem c_sum (hc : X.calm = true) : CallR X (.builtin "sum") (CalM X.K X.mg bSum) := by
  intro pins s σ H xs us Q I r ⟨g, ps, z, eH, ok, rd, hz, q⟩
  subst eH
  unfold bSum at hz
  split at hz
  · obtain ⟨bs, hb, rfl⟩ := Option.map_eq_some_iff.mp hz
    obtain ⟨v, rfl, r1⟩ := rd.one
    obtain ⟨a, vs, rfl, h1, h2⟩ := relL r1
    have e := allInt_rel hb h2
    subst e
    exact cr_sum hc pins s σ g.H _ us Q I r ⟨a, bs, rfl, SqL.of h1, fin_int ok q⟩
  · cases hz
theorem c_abs : CallR X (.builtin "abs") (CalM X.K X.mg bAbs) := by
  intro pins s σ H xs us Q I r ⟨g, ps, z, eH, ok, rd, hz, q⟩
  subst eH
  unfold bAbs at hz
  split at hz
  · cases hz
    obtain ⟨v, rfl, r1⟩ := rd.one
    obtain rfl := relI r1
    exact call_abs pins s σ g.H _ us Q I r ⟨_, rfl, fin_int ok q⟩
  · cases hz
theorem c_int : CallR X (.type "int") (CalM X.K X.mg bInt) := by
  intro pins s σ H xs us Q I r ⟨g, ps, z, eH, ok, rd, hz, q⟩
  subst eH
  unfold bInt at hz
  split at hz
  · cases hz
    obtain ⟨v, rfl, r1⟩ := rd.one
    obtain rfl := relI r1
    exact call_int1 pins s σ g.H _ us Q I r (.inl ⟨_, rfl, fin_int ok q⟩)
  · cases hz
    obtain ⟨v, rfl, r1⟩ := rd.one
    obtain rfl := relB r1
    exact call_int1 pins s σ g.H _ us Q I r (.inr ⟨_, rfl, fin_int ok q⟩)
  · cases hz
theorem c_min2 (hc : X.calm = true) : CallR X (.builtin "min") (CalM X.K X.mg bMin2) := by
  intro pins s σ H xs us Q I r ⟨g, ps, z, eH, ok, rd, hz, q⟩
  subst eH
  unfold bMin2 at hz
  split at hz
  · cases hz
    obtain ⟨v, w, rfl, r1, r2⟩ := rd.two
    obtain rfl := relI r1
    obtain rfl := relI r2
    exact call_min2 hc pins s σ g.H _ us Q I r ⟨_, _, rfl, fin_int ok q⟩
  · cases hz
theorem c_max2 (hc : X.calm = true) : CallR X (.builtin "max") (CalM X.K X.mg bMax2) := by
  intro pins s σ H xs us Q I r ⟨g, ps, z, eH, ok, rd, hz, q⟩
  subst eH
  unfold bMax2 at hz
  split at hz
  · cases hz
    obtain ⟨v, w, rfl, r1, r2⟩ := rd.two
    obtain rfl := relI r1
    obtain rfl := relI r2
    exact call_max2 hc pins s σ g.H _ us Q I r ⟨_, _, rfl, fin_int ok q⟩
  · cases hz
theorem c_divmod : CallR X (.builtin "divmod") (CalM X.K X.mg bDivmod) := by
  intro pins s σ H xs us Q I r ⟨g, ps, z, eH, ok, rd, hz, q⟩
  subst eH
  unfold bDivmod at hz
  split at hz
  · split at hz
    · rename_i hl
      cases hz
      obtain ⟨v, w, rfl, r1, r2⟩ := rd.two
      obtain rfl := relI r1
      obtain rfl := relI r2
      exact call_divmod pins s σ g.H _ us Q I r ⟨_, _, rfl, ⟨hl.1, by have := (fits_iff.mp hl.2).2; omega⟩, fun p hp => fin_tup ok (RelPs.ints [_, _]) q p hp⟩
    · cases hz
  · cases hz
theorem signs_vals {x : Str} {acc : Array Value} (h : PySem.ItemsOf (PySem.SignAt x) acc x.cps.size) : Vals ((x.cps.toList.map fun c => mkS [c]).map V.str) acc.toList := by
  refine vals_of_at ?_ ?_
  · simp [h.1]
  · intro j v u h1 h2
    obtain ⟨c, t, hc, e⟩ := h.2 j u (by simpa using h2)
    have hc' : x.cps.toList[j]? = some c := by simpa using hc
    rw [List.getElem?_map, List.getElem?_map, hc'] at h1
    have h1 : V.str (mkS [c]) = v := by simpa using h1
    subst h1 e
    exact ⟨t, rfl⟩
theorem signs_pv (l : List Nat) : (l.map fun c => PV.str [c]) = (l.map fun c => [c]).map PV.str := by rw [List.map_map]; rfl
theorem pv_keys : ∀ kvs : List (Key × V), RelPs K mg g (kvs.map fun p => pvKey p.1) (kvs.map fun p => kV p.1)
  | [] => RelPs.nil
  | (.inl i, _) :: r => RelPs.cons (by simp only [pvKey, RelP]; rfl) (pv_keys r)
  | (.inr x, _) :: r => RelPs.cons (by simp only [pvKey, RelP]; rfl) (pv_keys r)
/-- list(d) of a dict that is read -/
theorem list_dict (hc : X.calm = true) {pins : List (Addr × Obj)} {s : Shared} {σ : L2.St} {H : Hp} {d : Addr} {es : List (Key × V)} {Q : VK} (I : L2.Inv X pins σ H s) (hd : Rd H d (.dK es))
    (q : ∀ b, H b = none → Q (.ref b) (upd H b (.lst (es.map fun e => kV e.1)))) : wpAny (model X.prog X.w) X.A (call (.type "list") [.ref d]) (EP X pins σ Q) X.xe s := by
  obtain ⟨hz, hs, us, hkv, hof⟩ := dk_rd I.hok hd
  obtain ⟨n, hat⟩ := hof.dictAt
  have hlen := KV.length hkv
  refine PySem.W.kdl_call (PySem.W.kdl_dict (knd := mixKind X.prog X.w) (kvs := us) (ep := n) hs) (I.ok.hd hc) hat (by omega) fun h2 tk its c hkeep hS hits => ?_
  have hvals : Vals (es.map fun e => kV e.1) its.toList := by
    refine vals_of_at (by simp [hits.1, hlen]) fun j x u h3 h4 => ?_
    obtain ⟨k, y, h5, h6⟩ := hits.2 j u (by simpa using h4)
    have h7 : (es.map (·.1))[j]? = some k := by rw [KV.keys hkv, List.getElem?_map, h5]; rfl
    rw [List.getElem?_map] at h3 h7
    cases h8 : es[j]? with
    | none => rw [h8] at h7; cases h7
    | some e =>
      rw [h8] at h3 h7
      cases h3
      have h9 : e.1 = k := Option.some.inj h7
      show L2.RelV (kV e.1) u
      rw [h9]; exact keyIs_rel h6
  exact ⟨.ref _, _, I.laid (o := .lst (es.map fun e => kV e.1)) hkeep (Nat.le_refl _) ⟨by simpa using hz, its.toList, c, hvals, by simpa using hS⟩, rfl, q _ (I.hok.fresh (Nat.le_refl _))⟩
theorem c_tuple (hc : X.calm = true) : CallR X (.type "tuple") (CalM X.K X.mg bTuple) := by
  intro pins s σ H xs us Q I r ⟨g, ps, z, eH, ok, rd, hz, q⟩
  subst eH
  unfold bTuple at hz
  split at hz
  · cases hz
    obtain ⟨v, rfl, r1⟩ := rd.one
    obtain ⟨a, vs, rfl, h1, h2⟩ := relT r1
    exact call_tuple_of pins s σ g.H _ us Q I r ⟨a, vs, rfl, .inr ⟨SqT.of h1, q g _ (Ext.refl g) ok rfl (by simp only [RelP]; exact ⟨a, vs, rfl, h1, h2⟩)⟩⟩
  · cases hz
    obtain ⟨v, rfl, r1⟩ := rd.one
    obtain ⟨a, vs, rfl, h1, h2⟩ := relL r1
    exact call_tuple_of pins s σ g.H _ us Q I r ⟨a, vs, rfl, .inl ⟨SqL.of h1, fun p hp => fin_tup ok h2 q p hp⟩⟩
  · split at hz
    · rename_i l hl
      cases hz
      obtain ⟨v, rfl, r1⟩ := rd.one
      obtain rfl := relS r1
      obtain ⟨u, rfl, ru⟩ := vals1 r
      obtain ⟨t, rfl⟩ := ru
      have hsz : (⟨l.toArray⟩ : Str).cps.size ≤ sizeLine := by rw [← sizeLIM]; simpa using hl
      refine PySem.call_tuple_str (I.ok.hd hc) _ t (fun h' tk acc hk hi => ?_) hsz
      have hv := signs_vals hi
      have I2 : L2.Inv X pins σ g.H { s with heap := h', toks := tk } := I.kept hk
      have I3 := I2.laid (t' := tk) (h' := h'.push { cls := .type "tuple", data := .seq acc }) (o := .tup (((⟨l.toArray⟩ : Str).cps.toList.map fun c => mkS [c]).map V.str)) (fun b ob q => Heap.get?_push_of_some _ q) (Nat.le_refl _) ⟨by simpa using hsz, acc.toList, hv, _, Heap.get?_push_size _ rfl, rfl, 0, by simp⟩
      refine ⟨.ref _, _, I3, rfl, fin_tup ok ?_ q _ (I2.hok.fresh (Nat.le_refl _))⟩
      rw [signs_pv]
      have := RelPs.strs (K := X.K) (mg := X.mg) (g := g) (l.map fun c => [c])
      simpa [List.map_map, Function.comp_def] using this
    · cases hz
  · cases hz
theorem c_list (hc : X.calm = true) : CallR X (.type "list") (CalM X.K X.mg bList) := by
  intro pins s σ H xs us Q I r ⟨g, ps, z, eH, ok, rd, hz, q⟩
  subst eH
  unfold bList at hz
  split at hz
  · cases hz
    obtain ⟨v, rfl, r1⟩ := rd.one
    obtain ⟨a, vs, rfl, h1, h2⟩ := relT r1
    exact call_list_of pins s σ g.H _ us Q I r ⟨a, vs, rfl, .inr (SqT.of h1), fun p hp => fin_lst ok h2 q p hp⟩
  · cases hz
    obtain ⟨v, rfl, r1⟩ := rd.one
    obtain ⟨a, vs, rfl, h1, h2⟩ := relL r1
    exact call_list_of pins s σ g.H _ us Q I r ⟨a, vs, rfl, .inl (SqL.of h1), fun p hp => fin_lst ok h2 q p hp⟩
  · split at hz
    · rename_i l hl
      cases hz
      obtain ⟨v, rfl, r1⟩ := rd.one
      obtain rfl := relS r1
      obtain ⟨u, rfl, ru⟩ := vals1 r
      obtain ⟨t, rfl⟩ := ru
      have hsz : (⟨l.toArray⟩ : Str).cps.size ≤ sizeLine := by rw [← sizeLIM]; simpa using hl
      refine PySem.call_list_str (I.ok.hd hc) _ t (fun h' tk acc c hk hn hi => ?_) hsz
      have hv := signs_vals hi
      have I3 : L2.Inv X pins σ (upd g.H s.heap.objs.size (.lst (((⟨l.toArray⟩ : Str).cps.toList.map fun c => mkS [c]).map V.str))) { s with heap := h', toks := tk } :=
        I.laid hk (Nat.le_refl _) ⟨by simpa using hsz, acc.toList, c, hv, by simpa using hn⟩
      refine ⟨.ref _, _, I3, rfl, fin_lst ok ?_ q _ (I.hok.fresh (Nat.le_refl _))⟩
      rw [signs_pv]
      have := RelPs.strs (K := X.K) (mg := X.mg) (g := g) (l.map fun c => [c])
      simpa [List.map_map, Function.comp_def] using this
    · cases hz
  · cases hz
    obtain ⟨v, rfl, r1⟩ := rd.one
    simp only [RelD] at r1
    obtain ⟨a, rfl, ⟨_, kvs, h1, rfl, h3⟩ | ⟨e, _⟩⟩ := r1
    · obtain ⟨u, rfl, ru⟩ := vals1 r
      cases ru
      exact list_dict hc I h1 fun p hp => fin_lst ok (pv_keys kvs) q p hp
    · cases e
  · cases hz
end
end
end Mr
namespace Mr
noncomputable section
open PySem PySem.Spec PyProof.Rows L2
section
variable {K : PySem.W.Frag} {mg : MG} {g : G} {X : Cx}
/-! ### sorted -/
def Std (K : PySem.W.Frag) (mg : MG) (g : G) (v : Value) (p : PV) : Prop := ∃ w, L2.RelV w v ∧ RelP K mg g p w
theorem each_of : ∀ {l : List PV} {vs : List V} {us : List Value}, RelPs K mg g l vs → Vals vs us → PySem.W.EachIs (Std K mg g) us l
  | [], vs, us, r, rv => by
    simp only [RelPs] at r
    subst r
    cases rv; exact .nil
  | p :: ps, vs, us, r, rv => by
    simp only [RelPs] at r
    obtain ⟨v, rs, rfl, r1, r2⟩ := r
    cases rv with
    | cons a b => exact .cons ⟨v, a, r1⟩ (each_of r2 b)
theorem of_each : ∀ {l : List PV} {us : List Value}, PySem.W.EachIs (Std K mg g) us l → ∃ vs, Vals vs us ∧ RelPs K mg g l vs
  | _, _, .nil => ⟨[], .nil, RelPs.nil⟩
  | _, _, .cons ⟨v, a, r⟩ h => by
    obtain ⟨vs, b, r2⟩ := of_each h
    exact ⟨v :: vs, .cons a b, RelPs.cons r r2⟩
theorem each_imp {α β : Type} {R R' : α → β → Prop} : ∀ {l : List α} {m : List β}, PySem.W.EachIs R l m → (∀ a b, b ∈ m → R a b → R' a b) → PySem.W.EachIs R' l m
  | _, _, .nil, _ => .nil
  | _, _, .cons a b, h => .cons (h _ _ List.mem_cons_self a) (each_imp b fun x y m => h x y (List.mem_cons_of_mem _ m))
theorem isDs_mem : ∀ {l : List PV}, isDs l = true → ∀ p ∈ l, isD p = true
  | p :: ps, h, q, hq => by
    simp only [isDs, Bool.and_eq_true] at h
    rcases List.mem_cons.mp hq with rfl | hq
    · exact h.1
    · exact isDs_mem h.2 q hq
theorem deps_mem : ∀ {l : List PV} {p : PV}, p ∈ l → dep p ≤ deps l
  | q :: qs, p, h => by
    simp only [deps]
    rcases List.mem_cons.mp h with rfl | h
    · exact Nat.le_max_left _ _
    · exact Nat.le_trans (deps_mem h) (Nat.le_max_right _ _)
structure Sb (l : List PV) : Prop where
  d : isDs l = true
  al : ∀ x ∈ l, ∀ y ∈ l, alikeB x y = true
  k : (∀ x ∈ l, isTupC x = true) ∨ ∀ x ∈ l, isNon x = false ∧ isTup x = false
  dp : deps l ≤ 60
  sz : l.length ≤ LIM
theorem sb_of {l : List PV} (h : sortable l = true) : Sb l := by
  unfold sortable at h
  simp only [Bool.and_eq_true, Bool.or_eq_true, decide_eq_true_eq, List.all_eq_true, Bool.not_eq_true'] at h
  obtain ⟨⟨⟨⟨h1, h2⟩, h3⟩, h4⟩, h5⟩ := h
  exact ⟨h1, h2, h3, h4, h5⟩
theorem dataLe_leV {l : List PV} (h : Sb l) : ∀ a ∈ l, ∀ b ∈ l, PySem.W.dataLe false toD a b = leV a b := fun a ha b hb => by
  rw [PySem.W.dataLe_eq]
  show (!PySem.W.dataLt (toD b) (toD a)) = leV a b
  rw [toD_lt b a (isDs_mem h.d b hb) (isDs_mem h.d a ha) (h.al b hb a ha)]
  rfl
/-- sorted of a list whose items are data -/
theorem sorted_run {pins : List (Addr × Obj)} {s : Shared} {σ : L2.St} {a : Addr} {l : List PV} {vs : List V} {Q : VK} (hu : X.A.units + 66 < cLine) (I : L2.Inv X pins σ g.H s) (ok : g.Ok X.K X.mg) (ha : SqL X.K g.H a vs) (r : RelPs X.K X.mg g l vs) (hb : Sb l)
    (q : ∀ g' v, Ext g g' → g'.Ok X.K X.mg → g'.s = g.s → RelP X.K X.mg g' (.lst (sortV l)) v → Q v g'.H) : wpAny (model X.prog X.w) X.A (call (.builtin "sorted") [.ref a]) (EP X pins σ Q) X.xe s := by
  obtain ⟨us, rv, pl, hz⟩ := I.list ha
  have hE := each_of r rv
  have hl : us.length = l.length := by rw [← rv.length, r.length]
  have hal : PySem.W.AllAlike (l.map toD) := fun d hd d' hd' => by
    obtain ⟨x, hx, rfl⟩ := List.mem_map.mp hd
    obtain ⟨y, hy, rfl⟩ := List.mem_map.mp hd'
    rw [toD_alike x y (isDs_mem hb.d x hx) (isDs_mem hb.d y hy)]
    exact hb.al x hx y hy
  have hk : PySem.W.Sortable (l.map toD) := by
    rcases hb.k with h | h
    · left
      intro d hd
      obtain ⟨x, hx, rfl⟩ := List.mem_map.mp hd
      have := h x hx
      cases x with
      | tup m => cases m with
        | nil => simp [isTupC] at this
        | cons y ys => exact ⟨toD y, toDs ys, by simp only [toD, toDs]⟩
      | _ => simp [isTupC] at this
    · right
      intro d hd
      obtain ⟨x, hx, rfl⟩ := List.mem_map.mp hd
      have h1 := h x hx
      have h2 := isDs_mem hb.d x hx
      cases x <;> simp_all [isNon, isTup, isD, toD]
  refine PySem.W.sorted_data (R := Std X.K X.mg g) (enc := toD) pl.isList hE (each_imp hE fun v p hp ⟨w, rw', rp⟩ => Dp.reads I _ w v (RelP.dp p w (isDs_mem hb.d p hp) rp) rw') hal hk (by rw [← sizeLIM]; exact hb.sz) (fun p hp => by
    rw [toD_dep]
    have := deps_mem hp
    have := hb.dp
    omega) fun out ho hout => ?_
  rw [PySem.W.sort_congr (dataLe_leV hb)] at hout
  obtain ⟨ws, rw1, rw2⟩ := of_each hout
  obtain ⟨e, he⟩ := sortedAll_at s.heap us (List.toArray out)
  have I2 : L2.Inv X pins σ (upd g.H (s.heap.objs.size + 1) (.lst ws)) { s with heap := sortedAll s.heap us (List.toArray out), toks := s.toks } :=
    I.laid (o := .lst ws) (fun b o h => sortedAll_old h) (Nat.le_succ _) ⟨by rw [rw1.length, ho, ← sizeLIM]; exact hb.sz, out, e, rw1, he⟩
  exact ⟨.ref _, _, I2, rfl, fin_lst ok rw2 q _ (I.hok.fresh (Nat.le_succ _))⟩
/-! texts -/
theorem lt_trichotomy (a b : List Nat) (h1 : ¬ a < b) (h2 : ¬ b < a) : a = b := List.le_antisymm (List.not_lt.mp h2) (List.not_lt.mp h1)
theorem rising_pw : ∀ (p : Str) (l : List Str), risingS p l = true → (p :: l).Pairwise fun a b => ¬ b.cps.toList < a.cps.toList
  | p, [], _ => List.pairwise_singleton _ _
  | p, x :: r, h => by
    simp only [risingS, Bool.and_eq_true, Bool.not_eq_true', ltCps_eq, decide_eq_false_iff_not] at h
    have ih := rising_pw x r h.2
    refine List.pairwise_cons.mpr ⟨fun y hy => ?_, ih⟩
    rcases List.mem_cons.mp hy with rfl | hy
    · exact h.1
    · have h3 := (List.pairwise_cons.mp ih).1 y hy
      exact List.not_lt.mpr (List.le_trans (List.not_lt.mp h.1) (List.not_lt.mp h3))
theorem sortedS_pw : ∀ l : List Str, sortedS l = true → l.Pairwise fun a b => ¬ b.cps.toList < a.cps.toList
  | [], _ => List.Pairwise.nil
  | x :: r, h => rising_pw x r h
def leL (a b : List Nat) : Bool := !decide (b < a)
theorem leL_trans (a b c : List Nat) (h1 : leL a b = true) (h2 : leL b c = true) : leL a c = true := by
  simp only [leL, Bool.not_eq_true', decide_eq_false_iff_not] at h1 h2 ⊢
  exact List.not_lt.mpr (List.le_trans (List.not_lt.mp h1) (List.not_lt.mp h2))
theorem leL_total (a b : List Nat) : (leL a b || leL b a) = true := by
  simp only [leL, Bool.or_eq_true, Bool.not_eq_true', decide_eq_false_iff_not]
  rcases Classical.em (b < a) with h | h
  · exact .inr fun h2 => absurd (List.lt_trans h h2) (List.lt_irrefl _)
  · exact .inl h
theorem sortV_strs (ss : List (List Nat)) : sortV (ss.map .str) = (ss.mergeSort leL).map .str := by
  unfold sortV
  exact (PySem.W.sort_maps (r := leL) (s := leV) PV.str (l := ss) fun a _ b _ => rfl).symm
theorem sorted_strs_uniq {ss ys : List (List Nat)} (hp : ys.Perm ss) (hs : ys.Pairwise fun a b => ¬ b < a) : ys = ss.mergeSort leL := by
  refine List.Perm.eq_of_pairwise (le := fun a b => leL a b = true) (fun a b _ _ h1 h2 => ?_) (hs.imp fun h => by simpa [leL] using h) (List.pairwise_mergeSort leL_trans leL_total ss) (hp.trans (List.mergeSort_perm ss leL).symm)
  simp only [leL, Bool.not_eq_true', decide_eq_false_iff_not] at h1 h2
  exact lt_trichotomy a b h2 h1
theorem strs_pv : ∀ {ks : List (Key × V)}, (ks.map fun p => pvKey p.1).all (fun k => match k with | .str _ => true | _ => false) = true → ∃ ss : List Str, ks.map (·.1) = ss.map Sum.inr ∧ (ks.map fun p => pvKey p.1) = (ss.map fun s => s.cps.toList).map .str
  | [], _ => ⟨[], rfl, rfl⟩
  | (.inl i, v) :: r, h => by simp [pvKey] at h
  | (.inr x, v) :: r, h => by
    simp only [List.map_cons, List.all_cons, Bool.and_eq_true] at h
    obtain ⟨ss, e1, e2⟩ := strs_pv h.2
    exact ⟨x :: ss, by simp [e1], by simp only [List.map_cons, e2]; rfl⟩
theorem c_sorted (hu : X.A.units + 66 < cLine) (hc : X.calm = true) : CallR X (.builtin "sorted") (CalM X.K X.mg bSorted) := by
  intro pins s σ H xs us Q I r ⟨g, ps, z, eH, ok, rd, hz, q⟩
  subst eH
  unfold bSorted at hz
  split at hz
  · split at hz
    · rename_i l hl
      cases hz
      obtain ⟨v, rfl, r1⟩ := rd.one
      obtain ⟨a, vs, rfl, h1, h2⟩ := relL r1
      obtain ⟨u, rfl, ru⟩ := vals1 r
      cases ru
      exact sorted_run hu I ok (SqL.of h1) h2 (sb_of hl) q
    · cases hz
  · split at hz
    · rename_i ks _ hl
      simp only [Bool.and_eq_true, decide_eq_true_eq] at hl
      cases hz
      obtain ⟨v, rfl, r1⟩ := rd.one
      simp only [RelD] at r1
      obtain ⟨a, rfl, ⟨_, kvs, h1, rfl, h3⟩ | ⟨e, _⟩⟩ := r1
      · obtain ⟨ss, k1, k2⟩ := strs_pv hl.2
        have hlen : ss.length = kvs.length := by have := congrArg List.length k1; simpa using this.symm
        refine call_sortedD hc pins s σ g.H _ us Q I r ⟨a, kvs, ss, rfl, h1, k1, by have := hl.1.2; simp at this; omega, fun ys p hp hs hn => ?_⟩
        rw [k2, sortV_strs] at q
        have e := sorted_strs_uniq (hp.map fun s => s.cps.toList) (List.pairwise_map.mpr (sortedS_pw ys hs))
        rw [← e] at q
        have e2 : ys.map V.str = ((ys.map fun s => s.cps.toList).map mkS).map V.str := by
          rw [List.map_map, List.map_map]
          apply List.map_congr_left
          intro y _
          simp [mkS]
        rw [e2]
        exact fin_lst ok (RelPs.strs _) q p hn
      · cases e
    · cases hz
  · cases hz
end
end
end Mr
namespace Mr
noncomputable section
open PySem PySem.Spec PyProof.Rows L2
/-! ### methods of texts -/
def eM (m : PV → List PV → Option PV) (fo : EX) (fs : List EX) : EX := fun e s => (fo e s).bind fun o s => (eList fs e s).bind fun xs s => ofO (m (deref s o) (xs.map (deref s))) s
def MtM' (K : PySem.W.Frag) (mg : MG) (m : PV → List PV → Option PV) : V → List V → Hp → VK → Prop := fun x vs H Q =>
  ∃ g p ps z, g.H = H ∧ g.Ok K mg ∧ RelD K mg g p x ∧ RelDs K mg g ps vs ∧ m p ps = some z ∧ ∀ g' v, Ext g g' → g'.Ok K mg → g'.s = g.s → RelP K mg g' z v → Q v g'.H
def isStr : PV → Bool
  | .str _ => true
  | _ => false
def isLst : PV → Bool
  | .lst _ => true
  | _ => false
/-- the receiver is of that built-in type -/
def recv (T : String) (p : PV) : Bool := if T = "str" then isStr p else if T = "list" then isLst p else false
def eMt (T : String) (m : PV → List PV → Option PV) (fo : EX) (fs : List EX) : EX := fun e s => (fo e s).bind fun o s => if recv T (deref s o) = true then (eList fs e s).bind fun xs s => ofO (m (deref s o) (xs.map (deref s))) s else .stuck
def upL (l : List Nat) : List Nat := (Txt.upper ⟨l.toArray⟩).cps.toList
def mUpper : PV → List PV → Option PV
  | .str a, [] => if a.length ≤ 5592405 then some (.str (upL a)) else none
  | _, _ => none
section
variable {K : PySem.W.Frag} {mg : MG} {g : G} {X : Cx} {W : WY} {pos : Pos} {a o : Expr} {es : List Expr} {f fo : EX} {fs : List EX} {m : PV → List PV → Option PV} {T id : String} {name : Str} {apos cpos : Pos}
theorem recv_ty {p : PV} {v : V} (h : recv T p = true) (r : RelD K mg g p v) : tyV K T v g.H := by
  unfold recv at h
  split at h
  · rename_i e
    subst e
    cases p with
    | str l => obtain rfl := relS r; rfl
    | _ => simp [isStr] at h
  · split at h
    · rename_i e
      subst e
      cases p with
      | lst l =>
        obtain ⟨a, vs, rfl, h1, _⟩ := relL r
        exact Or.inl ⟨rfl, vs, SqL.of h1⟩
      | _ => simp [isLst] at h
    · cases h
theorem eMt_of {σ : L2.St} {H : Hp} {Q : VK} (q : RdE K mg W (eMt T m fo fs) σ H Q) : RdE K mg W fo σ H fun x H1 => tyV K T x H1 ∧ RdL K mg W (eList fs) σ H1 fun xs H2 => MtM' K mg m x xs H2 Q := by
  refine (RdA.seq (R := fun g p v => RelP K mg g p v) (f := fo) (k := fun o e s => if recv T (deref s o) = true then (eList fs e s).bind fun xs s => ofO (m (deref s o) (xs.map (deref s))) s else .stuck) q).imp fun x H1 q => ?_
  obtain ⟨p, g, env, rfl, ok, re, r, q⟩ := q
  cases hr : recv T (deref g.s p) with
  | false => simp only [hr, if_neg Bool.false_ne_true] at q; exact q.elim
  | true =>
    simp only [hr, if_true] at q
    refine ⟨recv_ty hr (r.deref ok), g, env, rfl, ok, re, ?_⟩
    revert q
    cases eList fs env g.s with
    | exc c p s' => exact id
    | stuck => exact id
    | ok ys s2 =>
      intro q g2 vs x2 ok2 e2 r2
      subst e2
      have q := OutA.back ok ok2 x2 q
      simp only [bind_ok] at q
      cases hz : m (deref g2.s p) (ys.map (deref g2.s)) with
      | none => rw [hz] at q; exact q.elim
      | some z =>
        rw [hz] at q
        exact ⟨g2, _, _, z, rfl, ok2, (r.ext ok x2).deref ok2, r2.derefs ok2, hz, fun g' v x' ok' es r' => q g' v x' ok' es r'⟩
theorem ie_m (pa : PlainAttrs T) (slot : Slot T name id) (hty : typeOf (.builtin id) = pure (.type "method_descriptor")) (hm : MtR X id (MtM' X.K X.mg m)) (ho : IE X W o fo) (ha : IA X W (a :: es) (eList fs))
    (hbase : attributeBase o name X.env (eval o X.env) = eval o X.env := by rfl)
    (hfew : ((backTo cpos (starEach (a :: es) X.env)).all (fun x => !x.1) && (backToKw cpos (keywordEach [] X.env)).all (fun x => x.1.isSome)
      && decide ((a :: es).length + ([] : List Keyword).length + (if ([] : List Keyword).isEmpty then 0 else 1) < 30)) = true := by rfl)
    (hline : (apos.endLine == cpos.line) = true := by rfl) (hs : starEach (a :: es) X.env = (false, eval a X.env) :: starEach es X.env := by rfl) (hplain : (backTo cpos (starEach es X.env)).any (·.1) = false := by rfl) :
    IE X W (.Call (.Attribute o name apos) (a :: es) [] cpos) (eMt T m fo fs) :=
  PE.weak (pe_bm pa slot hty hm ho ha hbase hfew hline hs hplain) fun σ H Q q => eMt_of q
theorem ie_m0 (pa : PlainAttrs T) (slot : Slot T name id) (hty : typeOf (.builtin id) = pure (.type "method_descriptor")) (hm : MtR X id (MtM' X.K X.mg m)) (ho : IE X W o fo)
    (hbase : attributeBase o name X.env (eval o X.env) = eval o X.env := by rfl) (hline : (apos.endLine == cpos.line) = true := by rfl) : IE X W (.Call (.Attribute o name apos) [] [] cpos) (eMt T m fo []) :=
  PE.weak (pe_bm0 pa slot hty hm ho hbase hline) fun σ H Q q => by
    unfold tBM0
    refine (eMt_of q).imp fun x H1 ⟨t, q⟩ => ⟨t, ?_⟩
    exact RdA.pure (R := fun g p v => RelPs X.K X.mg g p v) (p := []) (v := []) (fun g => RelPs.nil) q
theorem mkS_tl (l : List Nat) : TL.tl (mkS l) = l := TL.tl_mk l
theorem joinL_eq (S : List Nat) : ∀ l : List (List Nat), joinL S l = TL.joinL S l
  | [] => rfl
  | [_] => rfl
  | p :: q :: r => by simp only [joinL, TL.joinL, joinL_eq S (q :: r)]
theorem join_mk (a : List Nat) (ss : List (List Nat)) : Txt.join (mkS a) (ss.map mkS) = mkS (joinL a ss) := by
  apply TL.ext_tl
  rw [TL.join_eq, TL.tl_join, mkS_tl, mkS_tl, joinL_eq, List.map_map]
  congr 1
  induction ss with
  | nil => rfl
  | cons x xs ih => rw [List.map_cons, ih]; congr 1
theorem m_join : MtR X "str.join" (MtM' X.K X.mg mJoin) := by
  intro pins s σ H x xs v us Q I rx rv ⟨g, p, ps, z, eH, ok, r1, r2, hz, q⟩
  subst eH
  have fin : ∀ (a : List Nat) (l : List PV) (vs : List V) (b : Addr), p = .str a → x = .str (mkS a) → xs = [.ref b] → (SqL X.K g.H b vs ∨ SqT X.K g.H b vs) → RelPs X.K X.mg g l vs →
      ((allStr l).bind fun ss => if (ss.map (·.length)).sum + ss.length * a.length ≤ LIM then some (PV.str (joinL a ss)) else none) = some z → wpAny (model X.prog X.w) X.A (call (.builtin "str.join") (v :: us)) (EP X pins σ Q) X.xe s := by
    intro a l vs b e1 e2 e3 hb hr he
    cases hs : allStr l with
    | none => rw [hs] at he; cases he
    | some ss =>
      rw [hs] at he
      simp only [Option.bind_some] at he
      split at he
      · rename_i hl
        cases he
        have e := allStr_rel hs hr
        subst e e2 e3
        refine mt_join pins s σ g.H _ _ v us Q I rx rv ⟨mkS a, b, ss.map mkS, rfl, rfl, hb, ?_, ?_⟩
        · rw [List.map_map, List.length_map]
          have e1 : (ss.map ((·.length) ∘ mkS)) = ss.map (·.length) := List.map_congr_left fun y _ => strlen y
          have e2 : (mkS a).length = a.length := strlen a
          rw [e1, e2]
          rw [← LIM_eq]; exact hl
        · rw [join_mk]; exact fin_str ok q
      · cases he
  unfold mJoin at hz
  split at hz
  · obtain ⟨w, rfl, r3⟩ := r2.one
    obtain ⟨b, vs, rfl, h1, h2⟩ := relL r3
    exact fin _ _ vs b rfl (relS r1) rfl (.inl (SqL.of h1)) h2 hz
  · obtain ⟨w, rfl, r3⟩ := r2.one
    obtain ⟨b, vs, rfl, h1, h2⟩ := relT r3
    exact fin _ _ vs b rfl (relS r1) rfl (.inr (SqT.of h1)) h2 hz
  · cases hz
end
end
end Mr
namespace Mr
noncomputable section
open PySem PySem.Spec PyProof.Rows L2
/-! ### what is walked -/
def elems : PV → Option (List PV)
  | .tup l => some l
  | .lst l => some l
  | .scr l => some l
  | .str l => some (l.map fun c => .str [c])
  | .dct false ks _ => some ks
  | _ => none
def iSeq (f : EX) : Env → MS → Res (List PV) := fun e s => (f e s).bind fun x s => ofO (elems x) s
def rng (lo : Int) (n : Nat) : List PV := (List.range n).map fun i => .int (lo + (i : Nat))
def rngD (hi : Int) (n : Nat) : List PV := (List.range n).map fun i => .int (hi + (i : Nat) * (-1))
def smallI (i : Int) : Bool := fits 62 i
theorem smallI_b {i : Int} (h : smallI i = true) : -(2 ^ 62) ≤ i ∧ i < 2 ^ 62 := ⟨Int.le_of_lt (fits_iff.mp h).1, (fits_iff.mp h).2⟩
def rng1 : List PV → Option (List PV)
  | [.int j] => if smallI j = true then some (rng 0 j.toNat) else none
  | _ => none
def rng2 : List PV → Option (List PV)
  | [.int i, .int j] => if (smallI i && smallI j) = true then some (rng i (j - i).toNat) else none
  | _ => none
def rng3 : List PV → Option (List PV)
  | [.int i, .int j, .int c] => if (smallI i && smallI j && c == -1) = true then some (rngD i (i - j).toNat) else none
  | _ => none
def iRng (m : List PV → Option (List PV)) (fs : List EX) : Env → MS → Res (List PV) := fun e s => (eList fs e s).bind fun xs s => ofO (m xs) s
section
variable {K : PySem.W.Frag} {mg : MG} {g : G} {X : Cx} {W : WY} {pos : Pos} {tg e : Expr} {f : EX}
theorem itRel_list {l : List PV} {a : Addr} {vs : List V} (h : ∀ g', Ext g g' → g'.Ok K mg → SqL K g'.H a vs) (r : RelPs K mg g l vs) (ok : g.Ok K mg) : ItRel K mg g l (Itl K a) := by
  intro g1 x1 ok1 i
  have hs := h g1 x1 ok1
  refine ⟨fun p hp => ?_, fun hl => ⟨vs, hs, by rw [← r.length]; exact hl⟩⟩
  obtain ⟨v, hv, rv⟩ := r.get' hp
  refine ⟨⟨vs, v, hs, hv⟩, fun v' H' hy => ?_⟩
  obtain ⟨rfl, hy⟩ := hy
  have e := hy vs hs
  rw [hv] at e
  cases e
  exact ⟨g1, rfl, Ext.refl g1, ok1, rfl, rv.ext ok x1⟩
theorem itRel_tup {l : List PV} {a : Addr} {vs : List V} (h : ∀ g', Ext g g' → g'.Ok K mg → SqT K g'.H a vs) (r : RelPs K mg g l vs) (ok : g.Ok K mg) : ItRel K mg g l (Itt K a) := by
  intro g1 x1 ok1 i
  have hs := h g1 x1 ok1
  refine ⟨fun p hp => ?_, fun hl => ⟨vs, hs, by rw [← r.length]; exact hl⟩⟩
  obtain ⟨v, hv, rv⟩ := r.get' hp
  refine ⟨⟨vs, v, hs, hv⟩, fun v' H' hy => ?_⟩
  obtain ⟨rfl, hy⟩ := hy
  have e := hy vs hs
  rw [hv] at e
  cases e
  exact ⟨g1, rfl, Ext.refl g1, ok1, rfl, rv.ext ok x1⟩
theorem itRel_str {l : List Nat} : ItRel K mg g (l.map fun c => .str [c]) (Its ⟨l.toArray⟩) := by
  intro g1 x1 ok1 i
  refine ⟨fun p hp => ?_, fun hl => by simpa [Its] using hl⟩
  rw [List.getElem?_map] at hp
  obtain ⟨c, hc, rfl⟩ := Option.map_eq_some_iff.mp hp
  have hlt : i < l.length := by
    rcases Nat.lt_or_ge i l.length with z | z
    · exact z
    · rw [List.getElem?_eq_none_iff.mpr z] at hc; cases hc
  refine ⟨by simpa [Its] using hlt, fun v H' hy => ?_⟩
  obtain ⟨rfl, c', hc', rfl⟩ := hy
  have e : c' = c := by
    have z : l[i]? = some c' := by simpa using hc'
    rw [hc] at z; cases z; rfl
  subst e
  exact ⟨g1, rfl, Ext.refl g1, ok1, rfl, by simp only [RelP]⟩
theorem itRel_rng {lo : Int} {n : Nat} : ItRel K mg g (rng lo n) (Itr lo n) := by
  intro g1 x1 ok1 i
  refine ⟨fun p hp => ?_, fun hl => by simpa [Itr, rng] using hl⟩
  unfold rng at hp
  rw [List.getElem?_map] at hp
  obtain ⟨c, hc, rfl⟩ := Option.map_eq_some_iff.mp hp
  have hlt : i < n ∧ c = i := by
    rcases Nat.lt_or_ge i n with z | z
    · rw [List.getElem?_range z] at hc; cases hc; exact ⟨z, rfl⟩
    · rw [List.getElem?_eq_none_iff.mpr (by simpa using z)] at hc; cases hc
  refine ⟨hlt.1, fun v H' hy => ?_⟩
  obtain ⟨rfl, rfl⟩ := hy
  exact ⟨g1, rfl, Ext.refl g1, ok1, rfl, by rw [hlt.2]; simp only [RelP]⟩
theorem itRel_rngD {lo : Int} {n : Nat} : ItRel K mg g (rngD lo n) (Itc lo (-1) n) := by
  intro g1 x1 ok1 i
  refine ⟨fun p hp => ?_, fun hl => by simpa [Itc, rngD] using hl⟩
  unfold rngD at hp
  rw [List.getElem?_map] at hp
  obtain ⟨c, hc, rfl⟩ := Option.map_eq_some_iff.mp hp
  have hlt : i < n ∧ c = i := by
    rcases Nat.lt_or_ge i n with z | z
    · rw [List.getElem?_range z] at hc; cases hc; exact ⟨z, rfl⟩
    · rw [List.getElem?_eq_none_iff.mpr (by simpa using z)] at hc; cases hc
  refine ⟨hlt.1, fun v H' hy => ?_⟩
  obtain ⟨rfl, rfl⟩ := hy
  exact ⟨g1, rfl, Ext.refl g1, ok1, rfl, by rw [hlt.2]; simp only [RelP]⟩
theorem PI.weak {t t' : TI} (h : PI X tg e t) (w : ∀ σ H Q, t' σ H Q → t σ H Q) : PI X tg e t' := ⟨fun pins s σ H Q I q => h.run pins s σ H Q I (w σ H Q q)⟩
/-- a tuple, a list, a text, the keys of a dict -/
theorem ii_seq (he : IE X W e f) : II X W tg e (iSeq f) := by
  refine ⟨fun pins s σ H R I q => ?_⟩
  obtain ⟨g, env, rfl, ok, re, q⟩ := q
  unfold iSeq at q
  cases hf : f env g.s with
  | exc c p s' =>
    rw [hf] at q
    exact (pi_list he).run pins s σ _ R I ⟨g, env, rfl, ok, re, by rw [hf]; exact q⟩
  | stuck => rw [hf] at q; exact q.elim
  | ok p s' =>
    rw [hf] at q
    simp only [bind_ok] at q
    cases hz : elems p with
    | none => rw [hz] at q; exact q.elim
    | some xs =>
      rw [hz] at q
      unfold elems at hz
      split at hz
      · cases hz
        refine (pi_tup he).run pins s σ _ R I ⟨g, env, rfl, ok, re, ?_⟩
        rw [hf]
        intro g' v x' ok' es r
        simp only [RelP] at r
        obtain ⟨a, vs, rfl, h1, h2⟩ := r
        exact ⟨a, rfl, ⟨vs, SqT.of h1⟩, q g' _ x' ok' es (itRel_tup (fun g2 x2 ok2 => ok'.sqT x2 (SqT.of h1)) h2 ok')⟩
      · cases hz
        refine (pi_list he).run pins s σ _ R I ⟨g, env, rfl, ok, re, ?_⟩
        rw [hf]
        intro g' v x' ok' es r
        simp only [RelP] at r
        obtain ⟨a, vs, rfl, ⟨h1, hz⟩, h2⟩ := r
        exact ⟨a, rfl, ⟨vs, SqL.of h1⟩, q g' _ x' ok' es (itRel_list (fun g2 x2 ok2 => SqL.of (ok'.stayZ x2 h1 hz)) h2 ok')⟩
      · cases hz
        refine (pi_list he).run pins s σ _ R I ⟨g, env, rfl, ok, re, ?_⟩
        rw [hf]
        intro g' v x' ok' es r
        simp only [RelP] at r
        obtain ⟨a, vs, rfl, h1, h2⟩ := r
        refine ⟨a, rfl, ⟨vs, h1.sq⟩, q g' _ x' ok' es (itRel_list (fun g2 x2 ok2 => ?_) h2 ok')⟩
        exact ScrP.sq (g := g2) (h1.imp (fun ⟨o, q⟩ => ⟨o, (x2.keeps ok').frz a o _ q⟩) id)
      · cases hz
        refine (pi_str he).run pins s σ _ R I ⟨g, env, rfl, ok, re, ?_⟩
        rw [hf]
        intro g' v x' ok' es r
        obtain rfl := relS r.d
        exact ⟨_, rfl, q g' _ x' ok' es itRel_str⟩
      · cases hz
        refine (pi_keys he).run pins s σ _ R I ⟨g, env, rfl, ok, re, ?_⟩
        rw [hf]
        intro g' v x' ok' es r
        simp only [RelP] at r
        obtain ⟨a, rfl, ⟨_, kvs, ⟨o, h1⟩, rfl, h3⟩ | ⟨z, _⟩⟩ := r
        · refine ⟨a, o, rfl, .inl ⟨kvs, h1, q g' _ x' ok' es fun g2 x2 ok2 i => ?_⟩⟩
          have h2 := (x2.keeps ok').frz a o _ h1
          refine ⟨fun p hp => ?_, fun hl => ⟨h2, by simpa using hl⟩⟩
          rw [List.getElem?_map] at hp
          obtain ⟨kv, hk, rfl⟩ := Option.map_eq_some_iff.mp hp
          have hlt : i < kvs.length := by
            rcases Nat.lt_or_ge i kvs.length with z | z
            · exact z
            · rw [List.getElem?_eq_none_iff.mpr z] at hk; cases hk
          refine ⟨⟨h2, hlt⟩, fun v' H' hy => ?_⟩
          obtain ⟨rfl, k', w, hk', rfl⟩ := hy
          rw [hk] at hk'
          cases hk'
          exact ⟨g2, rfl, Ext.refl g2, ok2, rfl, by cases k' <;> (simp only [pvKey, RelP]; rfl)⟩
        · cases z
      · cases hz
theorem rng_args {m : List PV → Option (List PV)} {fs : List EX} {σ : L2.St} {H : Hp} {R : It → Hp → Prop} (q : RdA K mg (ItRel K mg) W (iRng m fs) σ H R) : RdL K mg W (eList fs) σ H fun vs H1 =>
    ∃ ps zs g, g.H = H1 ∧ RelPs K mg g ps vs ∧ m ps = some zs ∧ ∀ J, ItRel K mg g zs J → R J H1 := by
  refine (RdA.seq (R := fun g p v => RelPs K mg g p v) (f := eList fs) (k := fun xs e s => ofO (m xs) s) q).imp fun vs H1 q => ?_
  obtain ⟨p, g, env, rfl, ok, re, r, q⟩ := q
  cases hz : m p with
  | none => rw [hz] at q; exact q.elim
  | some z =>
    rw [hz] at q
    exact ⟨p, z, g, rfl, r, hz, fun J j => OutA.ok ok q j⟩
theorem ii_rng1 {a : Expr} {fs : List EX} {p : Pos} (hg : Gl X "range") (hm : X.mg "range" = none) (ha : IA X W [a] (eList fs)) (hs : starEach [a] X.env = [(false, eval a X.env)] := by rfl) : II X W tg (.Call (.Name "range" p) [a] [] pos) (iRng rng1 fs) :=
  PI.weak (pi_range1 hg hm ha hs) fun σ H Q q => by
    refine (rng_args q).imp fun vs H1 q => ?_
    obtain ⟨ps, zs, g, rfl, r, hz, q⟩ := q
    unfold rng1 at hz
    split at hz
    · split at hz
      · rename_i hs
        cases hz
        simp only [RelPs, RelP] at r
        obtain ⟨_, _, rfl, rfl, rfl⟩ := r
        exact ⟨_, rfl, (smallI_b hs).1, (smallI_b hs).2, q _ itRel_rng⟩
      · cases hz
    · cases hz
theorem ii_rng2 {a b : Expr} {fs : List EX} {p : Pos} (hg : Gl X "range") (hm : X.mg "range" = none) (ha : IA X W [a, b] (eList fs)) (hs : starEach [a, b] X.env = [(false, eval a X.env), (false, eval b X.env)] := by rfl) (hs2 : starEach [b] X.env = [(false, eval b X.env)] := by rfl) :
    II X W tg (.Call (.Name "range" p) [a, b] [] pos) (iRng rng2 fs) :=
  PI.weak (pi_range2 hg hm ha hs hs2) fun σ H Q q => by
    refine (rng_args q).imp fun vs H1 q => ?_
    obtain ⟨ps, zs, g, rfl, r, hz, q⟩ := q
    unfold rng2 at hz
    split at hz
    · split at hz
      · rename_i hs
        cases hz
        simp only [RelPs, RelP] at r
        obtain ⟨_, _, rfl, rfl, _, _, rfl, rfl, rfl⟩ := r
        simp only [Bool.and_eq_true] at hs
        have hs := And.intro (smallI_b hs.1) (smallI_b hs.2)
        exact ⟨_, _, rfl, ⟨hs.1.1, hs.1.2, hs.2.1, hs.2.2⟩, q _ itRel_rng⟩
      · cases hz
    · cases hz
theorem ii_rng3 {a b c : Expr} {fs : List EX} {p : Pos} (hg : Gl X "range") (hm : X.mg "range" = none) (ha : IA X W [a, b, c] (eList fs)) (hs : starEach [a, b, c] X.env = (false, eval a X.env) :: starEach [b, c] X.env := by rfl)
    (hpl : (backTo pos (starEach [b, c] X.env)).any (·.1) = false := by rfl) : II X W tg (.Call (.Name "range" p) [a, b, c] [] pos) (iRng rng3 fs) :=
  PI.weak (pi_range3 hg hm ha hs hpl) fun σ H Q q => by
    refine (rng_args q).imp fun vs H1 q => ?_
    obtain ⟨ps, zs, g, rfl, r, hz, q⟩ := q
    unfold rng3 at hz
    split at hz
    · split at hz
      · rename_i hs
        cases hz
        simp only [RelPs, RelP] at r
        obtain ⟨_, _, rfl, rfl, _, _, rfl, rfl, _, _, rfl, rfl, rfl⟩ := r
        simp only [Bool.and_eq_true, beq_iff_eq] at hs
        obtain ⟨⟨hs1, hs2⟩, rfl⟩ := hs
        have hs := And.intro (smallI_b hs1) (smallI_b hs2)
        exact ⟨_, _, _, _, rfl, RgC.neg hs.1.1 hs.1.2 hs.2.1 hs.2.2, q _ itRel_rngD⟩
      · cases hz
    · cases hz
end
end
end Mr
namespace Mr
noncomputable section
open PySem PySem.Spec PyProof.Rows L2
/-! ### a op b op c -/
section
variable {K : PySem.W.Frag} {mg : MG} {g : G} {X : Cx} {W : WY} {pos : Pos} {a b c : Expr} {f h k : EX} {m m' : PV → PV → Option Bool}
theorem RdE.chain {σ : L2.St} {H : Hp} {Q : VK} (q : RdE K mg W (eChain m m' f h k) σ H Q) :
    tChain (OpM K mg fun x y => (m x y).map .bl) (OpM K mg fun x y => (m' x y).map .bl) (RdE K mg W f) (RdE K mg W h) (RdE K mg W k) σ H Q := by
  unfold tChain
  obtain ⟨g, env, rfl, ok, re, q⟩ := q
  refine ⟨g, env, rfl, ok, re, ?_⟩
  unfold eChain at q
  revert q
  cases f env g.s with
  | exc c p s' => exact id
  | stuck => exact id
  | ok x s1 =>
    simp only [bind_ok]
    intro q g1 v1 x1 ok1 e1 r1
    replace q := OutA.back ok ok1 x1 q
    subst e1
    have re1 := re.ext ok x1
    refine ⟨g1, env, rfl, ok1, re1, ?_⟩
    revert q
    cases h env g1.s with
    | exc c p s' => exact id
    | stuck => exact id
    | ok y s2 =>
      simp only [bind_ok]
      intro q g2 v2 x2 ok2 e2 r2
      replace q := OutA.back ok1 ok2 x2 q
      subst e2
      have re2 := re1.ext ok1 x2
      have rx2 := r1.ext ok1 x2
      cases hm : m (deref g2.s x) (deref g2.s y) with
      | none => rw [hm] at q; exact q.elim
      | some bb =>
        rw [hm] at q
        refine ⟨g2, _, _, _, rfl, ok2, rx2.deref ok2, r2.deref ok2, (congrArg (Option.map PV.bl) hm : _), fun g3 v3 x3 ok3 e3 r3 => ?_⟩
        simp only [RelP] at r3
        subst r3
        refine ⟨bb, rfl, ?_⟩
        replace q := OutA.back ok2 ok3 x3 q
        rw [← e3] at q
        cases bb with
        | false =>
          simp only [if_neg Bool.false_ne_true]
          exact OutA.ok ok3 q (by simp only [RelP])
        | true =>
          simp only [if_true]
          refine ⟨g3, env, rfl, ok3, re2.ext ok2 x3, ?_⟩
          have q : OutA K mg (fun g p v => RelP K mg g p v) g3 σ W ((k env g3.s).bind fun z s => (ofO (m' (deref s y) (deref s z)) s).bind fun b s => Res.ok (PV.bl b) s) Q := q
          revert q
          cases k env g3.s with
          | exc c p s' => exact id
          | stuck => exact id
          | ok z s4 =>
            simp only [bind_ok]
            intro q g4 v4 x4 ok4 e4 r4
            replace q := OutA.back ok3 ok4 x4 q
            subst e4
            have ry := (r2.ext ok2 x3).ext ok3 x4
            cases hm2 : m' (deref g4.s y) (deref g4.s z) with
            | none => rw [hm2] at q; exact q.elim
            | some b2 =>
              rw [hm2] at q
              refine ⟨g4, _, _, _, rfl, ok4, ry.deref ok4, r4.deref ok4, (congrArg (Option.map PV.bl) hm2 : _), fun g5 v5 x5 ok5 e5 r5 => ?_⟩
              exact q g5 v5 x5 ok5 e5 r5
theorem ie_chain {op op' : CmpOp} (ho : OpR X (compareOp op) (OpM X.K X.mg fun x y => (m x y).map .bl)) (ho' : OpR X (compareOp op') (OpM X.K X.mg fun x y => (m' x y).map .bl)) (ha : IE X W a f) (hb : IE X W b h) (hc : IE X W c k)
    (hm : lastMarks [op, op'] [b, c] = false := by with_unfolding_all rfl) : IE X W (.Compare a [op, op'] [b, c] pos) (eChain m m' f h k) :=
  PE.weak (pe_chain ho ho' ha hb hc hm) fun σ H Q q => RdE.chain q
theorem it_chain {op op' : CmpOp} (ho : OpR X (compareOp op) (OpM X.K X.mg fun x y => (m x y).map .bl)) (ho' : OpR X (compareOp op') (OpM X.K X.mg fun x y => (m' x y).map .bl)) (ha : IE X W a f) (hb : IE X W b h) (hc : IE X W c k)
    (hm : lastMarks [op, op'] [b, c] = false := by with_unfolding_all rfl) : IT X W (.Compare a [op, op'] [b, c] pos) (tChain' m m' f h k) :=
  PT.weak (pt_chain ho ho' ha hb hc hm) fun σ H Q q => by
    unfold tTest
    refine RdE.chain (Q := fun x H' => ∃ k, x = .bl k ∧ Q k H') ?_
    obtain ⟨g, env, rfl, ok, re, q⟩ := q
    refine ⟨g, env, rfl, ok, re, ?_⟩
    have fin : ∀ (bb : Bool) (s : MS), OutA X.K X.mg (fun _ (b : Bool) c => b = c) g σ W (.ok bb s) Q → OutA X.K X.mg (fun g p v => RelP X.K X.mg g p v) g σ W (.ok (.bl bb) s) (fun x H' => ∃ k, x = .bl k ∧ Q k H') := by
      intro bb s q g' v x' ok' es r
      simp only [RelP] at r
      exact ⟨bb, r, q g' bb x' ok' es rfl⟩
    revert q
    unfold tChain' eChain
    cases f env g.s with
    | exc c p s' => exact id
    | stuck => exact id
    | ok x s1 =>
      simp only [bind_ok]
      cases h env s1 with
      | exc c p s' => exact id
      | stuck => exact id
      | ok y s2 =>
        simp only [bind_ok]
        cases m (deref s2 x) (deref s2 y) with
        | none => exact id
        | some bb =>
          cases bb with
          | false => exact fin _ _
          | true =>
            show OutA X.K X.mg _ g σ W ((k env s2).bind fun z s => ofO (m' (deref s y) (deref s z)) s) Q → OutA X.K X.mg _ g σ W ((k env s2).bind fun z s => (ofO (m' (deref s y) (deref s z)) s).bind fun b s => Res.ok (PV.bl b) s) _
            cases k env s2 with
            | exc c p s' => exact id
            | stuck => exact id
            | ok z s3 =>
              simp only [bind_ok]
              cases m' (deref s3 y) (deref s3 z) with
              | none => exact id
              | some b2 => exact fin _ _
end
/-! ### stores into lists and dicts -/
/-- o[i] = v, the object's new state -/
def oSet : PO → PV → PV → Option PO
  | .lst l, .int i, v => (ixL l.length i).map fun j => .lst (l.set j v)
  | .dct t ks vs, k, v => if (isKey t k && decide (ks.length < LIM)) = true then some (.dct t (dput ks vs k v).1 (dput ks vs k v).2) else none
  | _, _, _ => none
def aSub (fo fi : EX) : AS := fun p e s => match fo e s with
  | .ok (.obj i) s => match fi e s with
    | .ok k s => match s.m i with
      | some o => match oSet o k p with
        | some o' => some (e, s.put i o')
        | none => none
      | none => none
    | _ => none
  | _ => none
abbrev G.put (g : G) (i : Nat) (u : HO) (o : PO) : G := { g with H := upd g.H (g.ρ i) u, s := g.s.put i o }
section
variable {K : PySem.W.Frag} {mg : MG} {g : G} {X : Cx} {W : WY} {pos : Pos}
theorem put_ext {i : Nat} {u : HO} {o : PO} (h : g.s.m i ≠ none) : Ext g (g.put i u o) where
  n := Nat.le_refl _
  ρ := fun _ _ => rfl
  Z := fun _ h => h
  H := fun a w e nl => by
    show upd g.H (g.ρ i) u a = some w
    rw [upd_ne (fun z => nl ⟨i, h, z.symm⟩)]; exact e
  dom := fun a e => by
    show upd g.H (g.ρ i) u a ≠ none
    by_cases z : a = g.ρ i
    · rw [z, upd_same]; simp
    · rw [upd_ne z]; exact e
  zNew := fun a z => .inl z
  mNew := fun j hj => by
    by_cases z : j = i
    · exact .inl (z ▸ h)
    · refine .inl fun q => hj ?_
      show (if j = i then some o else g.s.m j) = none
      rw [if_neg z]; exact q
theorem put_ok {i : Nat} {u : HO} {o : PO} (ok : g.Ok K mg) (h : g.s.m i ≠ none) (hn : RelO K mg (g.put i u o) o (g.ρ i)) : (g.put i u o).Ok K mg := by
  have x := put_ext (u := u) (o := o) h
  have old : ∀ j, (g.put i u o).s.m j ≠ none → g.s.m j ≠ none := fun j hj => by
    by_cases z : j = i
    · exact z ▸ h
    · intro q
      refine hj ?_
      show (if j = i then some o else g.s.m j) = none
      rw [if_neg z]; exact q
  refine ⟨fun j hj => ?_, fun a b ha hb e => ok.inj a b (old a ha) (old b hb) e, fun j hj z => ok.out j (old j hj) z, fun a z => x.dom a (ok.zd a z), fun j o' h' => ?_⟩
  · show (if j = i then some o else g.s.m j) = none
    have hi := ok.lt h
    have hj' : g.s.n ≤ j := hj
    rw [if_neg (by omega)]
    exact ok.wf j hj'
  · by_cases z : j = i
    · have h2 : (if j = i then some o else g.s.m j) = some o' := h'
      rw [if_pos z] at h2
      cases h2
      rw [z]; exact hn
    · have h2 : (if j = i then some o else g.s.m j) = some o' := h'
      rw [if_neg z] at h2
      refine RelO.ext ok x (fun w q => ?_) (ok.obj j o' h2)
      show upd g.H (g.ρ i) u _ = some w
      rw [upd_ne (fun e => z (ok.inj j i (by rw [h2]; simp) h e))]; exact q
theorem any_pk (k : Key) : ∀ kvs : List (Key × V), ((kvs.map fun q => pvKey q.1).any fun j => keq j (pvKey k)) = kvs.any fun kv => decide (kv.1 = k)
  | [] => rfl
  | q :: r => by simp only [List.map_cons, List.any_cons, keq_pv, any_pk k r]
theorem dset_pk {k : Key} {v : PV} {y : V} (ry : RelP K mg g v y) : ∀ {kvs : List (Key × V)} {vs : List PV}, RelPs K mg g vs (kvs.map (·.2)) →
    RelPs K mg g (dset (kvs.map fun q => pvKey q.1) vs (pvKey k) v) ((kvs.map fun kv => if kv.1 = k then (kv.1, y) else kv).map (·.2))
  | [], vs, _ => RelPs.nil
  | q :: kvs, vs, r => by
    cases vs with
    | nil => simp [RelPs] at r
    | cons w ws =>
      simp only [List.map_cons, RelPs] at r
      obtain ⟨u, rs, e, r1, r2⟩ := r
      cases e
      simp only [List.map_cons, dset, keq_pv]
      refine RelPs.cons ?_ (dset_pk ry r2)
      by_cases h : q.1 = k
      · simp only [h, decide_true, if_true]; exact ry
      · simp only [h, decide_false, if_neg Bool.false_ne_true, if_false]; exact r1
theorem put_pk {k : Key} {v : PV} {y : V} {kvs : List (Key × V)} {vs : List PV} (ry : RelP K mg g v y) (r : RelPs K mg g vs (kvs.map (·.2))) :
    (dput (kvs.map fun q => pvKey q.1) vs (pvKey k) v).1 = (putK kvs k y).map (fun q => pvKey q.1) ∧ RelPs K mg g (dput (kvs.map fun q => pvKey q.1) vs (pvKey k) v).2 ((putK kvs k y).map (·.2)) := by
  unfold dput putK
  rw [any_pk]
  by_cases h : (kvs.any fun kv => decide (kv.1 = k)) = true
  · rw [if_pos h, if_pos h]
    refine ⟨?_, dset_pk ry r⟩
    rw [List.map_map]
    refine List.map_congr_left fun q _ => ?_
    show pvKey q.1 = pvKey (if q.1 = k then (q.1, y) else q).1
    by_cases z : q.1 = k <;> simp [z]
  · rw [if_neg h, if_neg h]
    refine ⟨by simp, ?_⟩
    rw [List.map_append]
    exact r.append (RelPs.cons ry RelPs.nil)
theorem keq_pt (k j : List Key) : keq (.tup (k.map pvKey)) (.tup (j.map pvKey)) = decide (k = j) := aeqs_key k j
theorem any_pt (k : List Key) : ∀ kvs : List (List Key × V), ((kvs.map fun q => PV.tup (q.1.map pvKey)).any fun j => keq j (.tup (k.map pvKey))) = kvs.any fun kv => decide (kv.1 = k)
  | [] => rfl
  | q :: r => by simp only [List.map_cons, List.any_cons, keq_pt, any_pt k r]
theorem dset_pt {k : List Key} {v : PV} {y : V} (ry : RelP K mg g v y) : ∀ {kvs : List (List Key × V)} {vs : List PV}, RelPs K mg g vs (kvs.map (·.2)) →
    RelPs K mg g (dset (kvs.map fun q => PV.tup (q.1.map pvKey)) vs (.tup (k.map pvKey)) v) ((kvs.map fun kv => if kv.1 = k then (kv.1, y) else kv).map (·.2))
  | [], vs, _ => RelPs.nil
  | q :: kvs, vs, r => by
    cases vs with
    | nil => simp [RelPs] at r
    | cons w ws =>
      simp only [List.map_cons, RelPs] at r
      obtain ⟨u, rs, e, r1, r2⟩ := r
      cases e
      simp only [List.map_cons, dset, keq, aeqs_key]
      refine RelPs.cons ?_ (dset_pt ry r2)
      by_cases h : q.1 = k
      · simp only [h, decide_true, if_true]; exact ry
      · simp only [h, decide_false, if_neg Bool.false_ne_true, if_false]; exact r1
theorem put_pt {k : List Key} {v : PV} {y : V} {kvs : List (List Key × V)} {vs : List PV} (ry : RelP K mg g v y) (r : RelPs K mg g vs (kvs.map (·.2))) :
    (dput (kvs.map fun q => PV.tup (q.1.map pvKey)) vs (.tup (k.map pvKey)) v).1 = (putK kvs k y).map (fun q => PV.tup (q.1.map pvKey)) ∧ RelPs K mg g (dput (kvs.map fun q => PV.tup (q.1.map pvKey)) vs (.tup (k.map pvKey)) v).2 ((putK kvs k y).map (·.2)) := by
  unfold dput putK
  rw [any_pt]
  by_cases h : (kvs.any fun kv => decide (kv.1 = k)) = true
  · rw [if_pos h, if_pos h]
    refine ⟨?_, dset_pt ry r⟩
    rw [List.map_map]
    refine List.map_congr_left fun q _ => ?_
    show PV.tup (q.1.map pvKey) = PV.tup ((if q.1 = k then (q.1, y) else q).1.map pvKey)
    by_cases z : q.1 = k <;> simp [z]
  · rw [if_neg h, if_neg h]
    refine ⟨by simp, ?_⟩
    rw [List.map_append]
    exact r.append (RelPs.cons ry RelPs.nil)
/-- the store into a live thing, by values -/
def SetM (K : PySem.W.Frag) (mg : MG) : TSet := fun o i v H Q => ∃ g j st st' pk p, g.H = H ∧ g.Ok K mg ∧ o = .ref (g.ρ j) ∧ g.s.m j = some st ∧ RelP K mg g pk i ∧ RelP K mg g p v ∧ oSet st pk p = some st' ∧
  ∀ g', Ext g g' → g'.Ok K mg → g'.s = g.s.put j st' → Q g'.H
theorem set_m (hu : X.A.units + 1 < cLine) : PSet X (SetM X.K X.mg) := by
  intro pins s σ H o i v ov iv u Q I ro ri rv ⟨g, j, st, st', pk, p, eH, ok, eo, hm, rk, rp, hz, q⟩
  subst eH eo
  have hl : g.s.m j ≠ none := by rw [hm]; simp
  have ho := ok.obj j st hm
  unfold oSet at hz
  split at hz
  · rename_i l k
    obtain ⟨n, hn, rfl⟩ := Option.map_eq_some_iff.mp hz
    obtain ⟨vs, h1, h2⟩ := ho
    simp only [RelP] at rk
    subst rk
    rw [ixL_eq, h2.length] at hn
    have x := put_ext (u := .lst (vs.set n v)) (o := .lst (l.set n p)) hl
    exact set_list pins s σ g.H _ _ v ov iv u Q I ro ri rv ⟨g.ρ j, vs, k, n, rfl, rfl, h1, hn, q _ x (put_ok ok hl ⟨_, upd_same, (h2.set n rp).ext ok x⟩) rfl⟩
  · rename_i t ks ps
    cases ro
    split at hz
    · rename_i hk
      cases hz
      simp only [Bool.and_eq_true, decide_eq_true_eq] at hk
      obtain ⟨hk, hlen⟩ := hk
      rw [sizeLIM] at hlen
      rcases ho with ⟨rfl, kvs, h1, rfl, h3⟩ | ⟨rfl, kvs, h1, rfl, h3⟩
      · obtain ⟨kk, rfl, rfl⟩ := key_of hk rk
        obtain ⟨e1, e2⟩ := put_pk (k := kk) rp h3
        have x := put_ext (u := .dK (putK kvs kk v)) (o := .dct false (dput (kvs.map fun q => pvKey q.1) ps (pvKey kk) p).1 (dput (kvs.map fun q => pvKey q.1) ps (pvKey kk) p).2) hl
        exact d_setItem hu I (DPut.k (v := v) h1 (by simpa using hlen)) ri rv fun s' I' => ⟨_, I', q _ x (put_ok ok hl (.inl ⟨rfl, _, upd_same, e1, e2.ext ok x⟩)) rfl⟩
      · cases pk with
        | tup lk =>
          simp only [isKey, Bool.true_and] at hk
          simp only [RelP] at rk
          obtain ⟨b, us, rfl, hb, rb⟩ := rk
          obtain ⟨kk, rfl, rfl⟩ := keys_of hk rb
          obtain ⟨e1, e2⟩ := put_pt (k := kk) rp h3
          have x := put_ext (u := .dT (putK kvs kk v)) (o := .dct true (dput (kvs.map fun q => PV.tup (q.1.map pvKey)) ps (.tup (kk.map pvKey)) p).1 (dput (kvs.map fun q => PV.tup (q.1.map pvKey)) ps (.tup (kk.map pvKey)) p).2) hl
          exact d_setItem hu I (DPut.t (v := v) h1 hb (by simpa using hlen)) ri rv fun s' I' => ⟨_, I', q _ x (put_ok ok hl (.inr ⟨rfl, _, upd_same, e1, e2.ext ok x⟩)) rfl⟩
        | _ => simp [isKey] at hk
    · cases hz
  · cases hz
theorem ig_sub {o i : Expr} {fo fi : EX} (hu : X.A.units + 1 < cLine) (ho : IE X W o fo) (hi : IE X W i fi)
    (ha : ∀ v, assign (.Subscript o i pos) X.env v = (do
      let ov ← holding [v] (eval o X.env)
      let iv ← holding [v, ov] (eval i X.env)
      standAt pos
      holding [v, ov, iv] (setItem ov iv v)
      release [v, ov, iv] []) := by intro _; rfl) : IG X W.b (.Subscript o i pos) [] (aSub fo fi) :=
  PG.weak (pg_sub ho hi (set_m hu) ha) fun v σ H Q q => by
    obtain ⟨g, p, env, env', s', rfl, ok, r, re, hz, q⟩ := q
    unfold gSub
    refine ⟨g, env, rfl, ok, re, ?_⟩
    unfold aSub at hz
    revert hz
    cases fo env g.s with
    | exc c p s' => exact fun h => nomatch h
    | stuck => exact fun h => nomatch h
    | ok x s1 =>
      cases x with
      | obj j =>
        dsimp only
        intro hz g1 v1 x1 ok1 e1 r1
        subst e1
        refine ⟨g1, env, rfl, ok1, re.ext ok x1, ?_⟩
        revert hz
        cases fi env g1.s with
        | exc c p s' => exact fun h => nomatch h
        | stuck => exact fun h => nomatch h
        | ok y s2 =>
          dsimp only
          intro hz g2 v2 x2 ok2 e2 r2
          subst e2
          cases hm : g2.s.m j with
          | none => rw [hm] at hz; cases hz
          | some st =>
            rw [hm] at hz
            dsimp only at hz
            cases ho' : oSet st y p with
            | none => rw [ho'] at hz; cases hz
            | some st' =>
              rw [ho'] at hz
              cases hz
              have r1' := r1.ext ok1 x2
              simp only [RelP] at r1'
              refine ⟨g2, j, st, st', y, p, rfl, ok2, r1'.2, hm, r2, (r.ext ok x1).ext ok1 x2, ho', fun g3 x3 ok3 e3 => ?_⟩
              exact q g3 σ (x1.trans ok ok1 (x2.trans ok1 ok2 x3)) ok3 e3 (((re.ext ok x1).ext ok1 x2).ext ok2 x3) (fun _ _ => rfl) rfl
      | _ => exact fun h => nomatch h
end
end
end Mr
namespace Mr
noncomputable section
open PySem PySem.Spec PyProof.Rows L2
/-! ### dicts that are made -/
def dMake : List (PV × PV) → List PV × List PV → List PV × List PV
  | [], d => d
  | (k, v) :: r, d => dMake r (dput d.1 d.2 k v)
def ePairs : List (EX × EX) → Env → MS → Res (List (PV × PV))
  | [], _, s => .ok [] s
  | (f, h) :: r, e, s => (f e s).bind fun x s => (h e s).bind fun y s => (ePairs r e s).bind fun l s => .ok ((x, y) :: l) s
def okPairs (l : List (PV × PV)) : Bool := l.all (fun p => isKey false p.1) && decide (l.length ≤ 15)
def eDisp (fs : List (EX × EX)) : EX := fun e s => (ePairs fs e s).bind fun l s => if okPairs l = true then .ok (.dct false (dMake l ([], [])).1 (dMake l ([], [])).2) s else .stuck
def eDispM (fs : List (EX × EX)) : EX := fun e s => (ePairs fs e s).bind fun l s => if okPairs l = true then .ok (.obj s.n) (s.new (.dct false (dMake l ([], [])).1 (dMake l ([], [])).2)) else .stuck
def eNewD (t : Bool) : EX := fun _ s => .ok (.obj s.n) (s.new (.dct t [] []))
def dcompM (as : AS) (tt : ET) (tk tv : EX) (env : Env) : List PV → List PV × List PV → MS → Res (List PV × List PV)
  | [], d, s => .ok d s
  | x :: xs, d, s => match as x env s with
    | none => .stuck
    | some (e, s) => (tt e s).bind fun b s => if b = true then (tk e s).bind fun k s => (tv e s).bind fun v s => if isKey false k = true then dcompM as tt tk tv env xs (dput d.1 d.2 k v) s else .stuck else dcompM as tt tk tv env xs d s
def eDComp (vs : List Nat) (fi : Env → MS → Res (List PV)) (as : AS) (tt : ET) (tk tv : EX) : EX := fun e s => (fi e s).bind fun xs s => if xs.length ≤ LIM then (dcompM as tt tk tv (wipeE e vs) xs ([], []) s).calm.bind fun d s => .ok (.dct false d.1 d.2) s else .stuck
section
variable {K : PySem.W.Frag} {mg : MG} {g g' : G} {X : Cx} {W : WY} {pos : Pos}
/-- a thing that is being made: nobody knows it -/
structure HidU (g : G) (D : Addr) (u : HO) : Prop where
  at_ : g.H D = some u
  z : ¬ g.Z D
  live : ¬ Live g D
  ob : Ob u
section
variable {D : Addr} {u u' : HO} {o : PO}
theorem HidU.ext (ok : g.Ok K mg) (x : Ext g g') (h : HidU g D u) : HidU g' D u := by
  refine ⟨x.H D _ h.at_ h.live, fun z => ?_, fun ⟨i, hi, e⟩ => ?_, h.ob⟩
  · rcases x.zNew D z with q | q | q
    · exact h.z q
    · rw [h.at_] at q; cases q
    · exact h.live q
  · rcases x.mNew i hi with q | ⟨_, q⟩
    · exact h.live ⟨i, q, (x.ρ i (ok.lt q)).symm.trans e⟩
    · rw [e, h.at_] at q; cases q
theorem HidU.keeps (h : HidU g D u) : Keeps g { g with H := upd g.H D u' } where
  n := Nat.le_refl _
  ρ := fun _ _ => rfl
  tup := fun a vs t => by
    show upd g.H D _ a = _
    rw [upd_ne (fun z => by rw [z, h.at_] at t; cases t; exact h.ob)]; exact t
  frz := fun a o u t => by
    show upd g.H D _ a = _
    rw [upd_ne (fun z => by rw [z, h.at_] at t; cases t; exact h.ob)]; exact t
  lst := fun a vs t z => ⟨by
    show upd g.H D _ a = _
    rw [upd_ne (fun q => h.z (by rw [← q]; exact z))]; exact t, z⟩
theorem HidU.re (h : HidU g D u) (ob : Ob u') : HidU { g with H := upd g.H D u' } D u' := ⟨upd_same, h.z, h.live, ob⟩
theorem HidU.ok (ok : g.Ok K mg) (h : HidU g D u) : G.Ok K mg { g with H := upd g.H D u' } where
  wf := ok.wf
  inj := ok.inj
  out := ok.out
  zd := fun a z => by
    show upd g.H D _ a ≠ none
    rw [upd_ne (fun q => h.z (by rw [← q]; exact z))]; exact ok.zd a z
  obj := fun i o e => RelO.keep h.keeps (fun u q => by
    show upd g.H D _ _ = _
    rw [upd_ne (fun z => h.live ⟨i, by
      have e' : g.s.m i = some o := e
      rw [e']; simp, z⟩)]; exact q) (ok.obj i o e)
theorem HidU.extRe {g0 : G} (x : Ext g0 g) (h0 : g0.H D = none) : Ext g0 { g with H := upd g.H D u' } where
  n := x.n
  ρ := x.ρ
  Z := x.Z
  H := fun a o e nl => by
    show upd g.H D _ a = _
    rw [upd_ne (ne_of_none e h0)]; exact x.H a o e nl
  dom := fun a e => by
    show upd g.H D _ a ≠ none
    by_cases q : a = D
    · rw [q, upd_same]; simp
    · rw [upd_ne q]; exact x.dom a e
  zNew := x.zNew
  mNew := x.mNew
/-- it is live from now on -/
abbrev G.adopt (g : G) (D : Addr) (o : PO) : G := { g with ρ := fun i => if i = g.s.n then D else g.ρ i, s := g.s.new o }
theorem adopt_keeps : Keeps g (g.adopt D o) where
  n := Nat.le_succ _
  ρ := fun i h => by
    show (if i = g.s.n then D else g.ρ i) = g.ρ i
    rw [if_neg (Nat.ne_of_lt h)]
  tup := fun _ _ t => t
  frz := fun _ _ _ t => t
  lst := fun _ _ t z => ⟨t, z⟩
theorem adopt_ext {g0 : G} (x : Ext g0 g) (h0 : g0.H D = none) : Ext g0 (g.adopt D o) where
  n := Nat.le_succ_of_le x.n
  ρ := fun i h => by
    show (if i = g.s.n then D else g.ρ i) = g0.ρ i
    rw [if_neg (Nat.ne_of_lt (Nat.lt_of_lt_of_le h x.n))]
    exact x.ρ i h
  Z := x.Z
  H := x.H
  dom := x.dom
  zNew := x.zNew
  mNew := fun i h => by
    by_cases e : i = g.s.n
    · refine .inr ⟨e ▸ x.n, ?_⟩
      show g0.H (if i = g.s.n then D else g.ρ i) = none
      rw [if_pos e]; exact h0
    · have h' : (if i = g.s.n then some o else g.s.m i) ≠ none := h
      rw [if_neg e] at h'
      have q := x.mNew i h'
      show _ ∨ (_ ∧ g0.H (if i = g.s.n then D else g.ρ i) = none)
      rw [if_neg e]; exact q
theorem adopt_ok (ok : g.Ok K mg) (h : HidU g D u) (ho : RelO K mg g o D) : (g.adopt D o).Ok K mg := by
  have old : ∀ i, (g.adopt D o).s.m i ≠ none → i ≠ g.s.n → g.s.m i ≠ none := fun i h e q => h (by
    show (if i = g.s.n then some o else g.s.m i) = none
    rw [if_neg e]; exact q)
  have ρo : ∀ i, i ≠ g.s.n → (g.adopt D o).ρ i = g.ρ i := fun i e => if_neg e
  have ρn : (g.adopt D o).ρ g.s.n = D := if_pos rfl
  refine ⟨fun i hi => ?_, fun i j hi hj e => ?_, fun i hi z => ?_, fun b z => ok.zd b z, fun i o' h' => ?_⟩
  · show (if i = g.s.n then some o else g.s.m i) = none
    have hi' : g.s.n + 1 ≤ i := hi
    rw [if_neg (by omega)]
    exact ok.wf i (by omega)
  · by_cases ei : i = g.s.n
    · by_cases ej : j = g.s.n
      · omega
      · rw [ei, ρn, ρo j ej] at e
        exact absurd ⟨j, old j hj ej, e.symm⟩ h.live
    · by_cases ej : j = g.s.n
      · rw [ej, ρn, ρo i ei] at e
        exact absurd ⟨i, old i hi ei, e⟩ h.live
      · rw [ρo i ei, ρo j ej] at e
        exact ok.inj i j (old i hi ei) (old j hj ej) e
  · by_cases ei : i = g.s.n
    · rw [ei, ρn] at z; exact h.z z
    · rw [ρo i ei] at z; exact ok.out i (old i hi ei) z
  · by_cases ei : i = g.s.n
    · have h2 : (if i = g.s.n then some o else g.s.m i) = some o' := h'
      rw [if_pos ei] at h2
      cases h2
      rw [ei, ρn]; exact RelO.keep adopt_keeps (fun _ q => q) ho
    · have h2 : (if i = g.s.n then some o else g.s.m i) = some o' := h'
      rw [if_neg ei] at h2
      rw [ρo i ei]
      exact RelO.keep adopt_keeps (fun _ q => q) (ok.obj i o' h2)
theorem new_hid (ok : g.Ok K mg) (h : g.H D = none) (ob : Ob u) : HidU (g.new D u) D u := ⟨upd_same, fun z => ok.zd D z h, (fun ⟨i, hi, e⟩ => by
  obtain ⟨o, e2, _⟩ := ok.kind ⟨i, hi, e⟩
  rw [h] at e2; cases e2), ob⟩
end
/-- the value, a dict just made, is locked -/
def tFrz (t : TE) : TE := fun σ H Q => t σ H fun v H1 => ∃ d u, v = .ref d ∧ H1 d = some u ∧ Mut (some u) ∧ ∀ od, Q v (upd H1 d (.frz od u))
theorem pe_frz {e : Expr} {t : TE} (h : PE X e t) : PE X e (tFrz t) := ⟨fun pins s σ H Q I q => by
  refine thn (h.run pins s σ H _ I q) fun v s1 ⟨x, H1, I1, r1, d, u, e1, e2, mu, q⟩ => ?_
  subst e1
  obtain ⟨od, I2⟩ := I1.lock e2 mu
  exact ⟨_, _, I2, r1, q od⟩⟩
/-! ### displays -/
theorem pps_of {ks : List (Option Expr)} {vs : List Expr} {trs : List (TE × TE)} : True := trivial
def trOf (K : PySem.W.Frag) (mg : MG) (W : WY) (fs : List (EX × EX)) : List (TE × TE) := fs.map fun p => (RdE K mg W p.1, RdE K mg W p.2)
theorem pairs_run {σ : L2.St} {Q : List (V × V) → Hp → Prop} : ∀ {fs : List (EX × EX)} {g : G} {env : Env} {H : Hp}, g.H = H → g.Ok K mg → RelEnv K mg W.b g env σ →
    (match ePairs fs env g.s with
      | .ok l s' => ∀ g' vs, Ext g g' → g'.Ok K mg → g'.s = s' → RelPs K mg g' (l.map (·.1)) (vs.map (·.1)) → RelPs K mg g' (l.map (·.2)) (vs.map (·.2)) → vs.length = l.length → Q vs g'.H
      | .exc c p s' => ∀ g' cls d, Ext g g' → g'.Ok K mg → g'.s = s' → ExcR K mg c p g' cls d → W.w cls d σ g'.H
      | .stuck => False) → tPairs (trOf K mg W fs) σ H Q
  | [], g, env, H, e, ok, re, q => by
    subst e
    exact q g [] (Ext.refl g) ok rfl RelPs.nil RelPs.nil rfl
  | (f, h) :: r, g, env, H, e, ok, re, q => by
    subst e
    show RdE K mg W f σ g.H fun x H1 => RdE K mg W h σ H1 fun y H2 => tPairs (trOf K mg W r) σ H2 fun ps H3 => Q ((x, y) :: ps) H3
    refine ⟨g, env, rfl, ok, re, ?_⟩
    simp only [ePairs] at q
    revert q
    cases f env g.s with
    | exc c p s' => exact id
    | stuck => exact id
    | ok x s1 =>
      simp only [bind_ok]
      intro q g1 v1 x1 ok1 e1 r1
      subst e1
      refine ⟨g1, env, rfl, ok1, re.ext ok x1, ?_⟩
      revert q
      cases h env g1.s with
      | exc c p s' => exact fun q g' cls d x' => q g' cls d (x1.trans ok ok1 x')
      | stuck => exact id
      | ok y s2 =>
        simp only [bind_ok]
        intro q g2 v2 x2 ok2 e2 r2
        subst e2
        refine pairs_run (g := g2) (env := env) rfl ok2 ((re.ext ok x1).ext ok1 x2) ?_
        have x12 := x1.trans ok ok1 x2
        revert q
        cases ePairs r env g2.s with
        | exc c p s' => exact fun q g' cls d x' => q g' cls d (x12.trans ok ok2 x')
        | stuck => exact id
        | ok l s3 =>
          simp only [bind_ok]
          intro q g3 vs x3 ok3 e3 r3 r4 hl
          exact q g3 ((v1, v2) :: vs) (x12.trans ok ok2 x3) ok3 e3 (RelPs.cons ((r1.ext ok1 x2).ext ok2 x3) r3) (RelPs.cons (r2.ext ok2 x3) r4) (by simp [hl])
theorem dMake_rel : ∀ {l : List (PV × PV)} {d : List PV × List PV} {vs : List (V × V)} {kvs : List (Key × V)}, (l.all fun p => isKey false p.1) = true → RelPs K mg g (l.map (·.1)) (vs.map (·.1)) → RelPs K mg g (l.map (·.2)) (vs.map (·.2)) → vs.length = l.length →
    d.1 = kvs.map (fun q => pvKey q.1) → RelPs K mg g d.2 (kvs.map (·.2)) →
    ∃ ks : List (Key × V), vs = ks.map (fun kv => (kV kv.1, kv.2)) ∧ ks.length = l.length ∧ (dMake l d).1 = (mergeK kvs ks).map (fun q => pvKey q.1) ∧ RelPs K mg g (dMake l d).2 ((mergeK kvs ks).map (·.2))
  | [], d, vs, kvs, _, _, _, hl, h1, h2 => ⟨[], by simpa using hl, rfl, h1, h2⟩
  | (k, v) :: r, d, vs, kvs, hk, r1, r2, hl, h1, h2 => by
    cases vs with
    | nil => cases hl
    | cons w vs =>
      obtain ⟨wk, wv⟩ := w
      simp only [List.all_cons, Bool.and_eq_true] at hk
      simp only [List.map_cons, RelPs] at r1 r2
      obtain ⟨_, _, e1, ra, r1⟩ := r1
      obtain ⟨_, _, e2, rb, r2⟩ := r2
      cases e1
      cases e2
      obtain ⟨kk, rfl, rfl⟩ := key_of hk.1 ra
      obtain ⟨p1, p2⟩ := put_pk (k := kk) rb h2
      rw [← h1] at p1 p2
      obtain ⟨ks, e3, e4, e5, e6⟩ := dMake_rel (d := dput d.1 d.2 (pvKey kk) v) (kvs := putK kvs kk wv) hk.2 r1 r2 (by simpa using hl) p1 p2
      exact ⟨(kk, wv) :: ks, by rw [e3]; rfl, by simp [e4], e5, e6⟩
abbrev IPs (X : Cx) (W : WY) (pos : Pos) (ks : List (Option Expr)) (vs : List Expr) (fs : List (EX × EX)) : Prop := PPs X pos ks vs (trOf X.K X.mg W fs)
theorem ip_nil : IPs X W pos [] [] [] := pps_nil
theorem ip_cons {k v : Expr} {ks : List (Option Expr)} {vs : List Expr} {f h : EX} {fs : List (EX × EX)} (hk : IE X W k f) (hv : IE X W v h) (hr : IPs X W pos ks vs fs) : IPs X W pos (some k :: ks) (v :: vs) ((f, h) :: fs) := pps_cons hk hv hr
theorem disp_run {σ : L2.St} {H : Hp} {Q : VK} {fs : List (EX × EX)} {fin : List PV × List PV → MS → Res PV} (q : RdE K mg W (fun e s => (ePairs fs e s).bind fun l s => if okPairs l = true then fin (dMake l ([], [])) s else .stuck) σ H Q)
    {R : VK} (hR : ∀ g g' D d kvs, g.Ok K mg → g.H D = none → Ext g g' → g'.Ok K mg → HidU g' D (.dK kvs) → d.1 = kvs.map (fun q => pvKey q.1) → RelPs K mg g' d.2 (kvs.map (·.2)) → OutA K mg (fun g p v => RelP K mg g p v) g σ W (fin d g'.s) Q → R (.ref D) g'.H) : tDisp (trOf K mg W fs) σ H R := by
  obtain ⟨g, env, rfl, ok, re, q⟩ := q
  dsimp only at q
  intro D hD
  have x0 := G.new_ext (g := g) (u := .dK []) hD
  have ok0 := G.new_ok (u := .dK []) ok hD
  have hid0 := new_hid (u := .dK []) ok hD trivial
  refine pairs_run (g := g.new D (.dK [])) (env := env) rfl ok0 (re.ext ok x0) ?_
  show (match ePairs fs env g.s with
    | .ok l s' => _
    | .exc c p s' => _
    | .stuck => False)
  revert q
  cases ePairs fs env g.s with
  | exc c p s' => exact fun q g' cls d x' => q g' cls d (x0.trans ok ok0 x')
  | stuck => exact id
  | ok l s1 =>
    simp only [bind_ok]
    intro q g1 vs x1 ok1 e1 r1 r2 hl
    subst e1
    have hid1 := hid0.ext ok0 x1
    by_cases hk : okPairs l = true
    · rw [if_pos hk] at q
      unfold okPairs at hk
      simp only [Bool.and_eq_true, decide_eq_true_eq] at hk
      obtain ⟨ks, rfl, e4, e5, e6⟩ := dMake_rel (d := ([], [])) (kvs := []) hk.1 r1 r2 hl rfl RelPs.nil
      refine ⟨hid1.at_, ks, rfl, by rw [e4]; exact hk.2, ?_⟩
      exact hR g { g1 with H := upd g1.H D (.dK (mergeK [] ks)) } D _ _ ok hD (HidU.extRe (x0.trans ok ok0 x1) hD) (hid1.ok ok1) (hid1.re trivial) e5 (e6.keep hid1.keeps) q
    · rw [if_neg hk] at q; exact q.elim
theorem frz_fin {g0 : G} {D : Addr} {d : List PV × List PV} {kvs : List (Key × V)} {σ : L2.St} {Q : VK} (ok0 : g0.Ok K mg) (h0 : g0.H D = none) (x : Ext g0 g') (ok : g'.Ok K mg) (hid : HidU g' D (.dK kvs)) (h1 : d.1 = kvs.map (fun q => pvKey q.1))
    (h2 : RelPs K mg g' d.2 (kvs.map (·.2))) (q : OutA K mg (fun g p v => RelP K mg g p v) g0 σ W (.ok (.dct false d.1 d.2) g'.s) Q) :
    ∃ d u, V.ref D = .ref d ∧ g'.H d = some u ∧ Mut (some u) ∧ ∀ od, Q (.ref D) (upd g'.H d (.frz od u)) := by
  refine ⟨D, _, rfl, hid.at_, trivial, fun od => ?_⟩
  refine q { g' with H := upd g'.H D (.frz od (.dK kvs)) } (.ref D) (HidU.extRe x h0) (hid.ok ok) rfl ?_
  simp only [RelP]
  exact ⟨D, rfl, .inl ⟨rfl, kvs, ⟨od, upd_same⟩, h1, h2.keep hid.keeps⟩⟩
theorem live_fin {g0 : G} {D : Addr} {d : List PV × List PV} {kvs : List (Key × V)} {σ : L2.St} {Q : VK} (ok0 : g0.Ok K mg) (h0 : g0.H D = none) (x : Ext g0 g') (ok : g'.Ok K mg) (hid : HidU g' D (.dK kvs)) (h1 : d.1 = kvs.map (fun q => pvKey q.1))
    (h2 : RelPs K mg g' d.2 (kvs.map (·.2))) (q : OutA K mg (fun g p v => RelP K mg g p v) g0 σ W (.ok (.obj g'.s.n) (g'.s.new (.dct false d.1 d.2))) Q) : Q (.ref D) g'.H := by
  refine q (g'.adopt D (.dct false d.1 d.2)) (.ref D) (adopt_ext x h0) (adopt_ok ok hid (.inl ⟨rfl, kvs, hid.at_, h1, h2⟩)) rfl ?_
  simp only [RelP]
  exact ⟨Nat.lt_succ_self _, by simp⟩
theorem ie_disp {keys : List (Option Expr)} {values : List Expr} {fs : List (EX × EX)} (h : IPs X W pos keys values fs) (hall : keys.all (·.isSome) = true := by rfl) (hl : keys.length = values.length := by rfl) (h0 : keys ≠ [] := by exact nofun)
    (h15 : keys.length ≤ 15 := by decide) : IE X W (.Dict keys values pos) (eDisp fs) :=
  PE.weak (pe_frz (pe_disp h hall hl h0 h15)) fun σ H Q q => disp_run (fin := fun d s => .ok (.dct false d.1 d.2) s) q fun g g' D d kvs ok hD x ok' hid h1 h2 q => frz_fin ok hD x ok' hid h1 h2 q
theorem ie_dispM {keys : List (Option Expr)} {values : List Expr} {fs : List (EX × EX)} (h : IPs X W pos keys values fs) (hall : keys.all (·.isSome) = true := by rfl) (hl : keys.length = values.length := by rfl) (h0 : keys ≠ [] := by exact nofun)
    (h15 : keys.length ≤ 15 := by decide) : IE X W (.Dict keys values pos) (eDispM fs) :=
  PE.weak (pe_disp h hall hl h0 h15) fun σ H Q q => disp_run (fin := fun d s => .ok (.obj s.n) (s.new (.dct false d.1 d.2))) q fun g g' D d kvs ok hD x ok' hid h1 h2 q => live_fin ok hD x ok' hid h1 h2 q
theorem ie_newK : IE X W (.Dict [] [] pos) (eNewD false) :=
  PE.weak pe_dnewK fun σ H Q q p hp => by
    obtain ⟨g, env, rfl, ok, re, q⟩ := q
    exact live_fin (d := ([], [])) (kvs := []) ok hp (G.new_ext hp) (G.new_ok ok hp) (new_hid ok hp trivial) rfl RelPs.nil q
theorem ie_newT : IE X W (.Dict [] [] pos) (eNewD true) :=
  PE.weak pe_dnewT fun σ H Q q p hp => by
    obtain ⟨g, env, rfl, ok, re, q⟩ := q
    refine q ((g.new p (.dT [])).adopt p (.dct true [] [])) (.ref p) (adopt_ext (G.new_ext hp) hp) (adopt_ok (G.new_ok ok hp) (new_hid (u := .dT []) ok hp trivial) (.inr ⟨rfl, [], upd_same, rfl, RelPs.nil⟩)) rfl ?_
    simp only [RelP]
    exact ⟨Nat.lt_succ_self _, by simp⟩
end
end
end Mr
namespace Mr
noncomputable section
open PySem PySem.Spec PyProof.Rows L2
/-! ### dict comprehensions -/
section
variable {X : Cx} {W : WY} {ek ev tg iter : Expr} {ifs : List Expr} {scope : Scope} {own : List (Str × Nat)} {pos : Pos} {fi : Env → MS → Res (List PV)} {as : AS} {tt : ET} {tk tv : EX} {ts : List Nat}
theorem tDc_of {K : PySem.W.Frag} {mg : MG} {σ : L2.St} {H : Hp} {Q : VK} {vs : List Nat} (hts : ∀ i ∈ ts, i ∈ vs) (q : RdE K mg W (eDComp vs fi as tt tk tv) σ H Q) :
    tFrz (tDc (RdA K mg (ItRel K mg) W fi) (RdG K mg none ts as) (RdT K mg W0 tt) (RdE K mg W0 tk) (RdE K mg W0 tv) vs) σ H Q := by
  unfold tFrz tDc
  refine (RdA.seq (R := ItRel K mg) (f := fi) (k := fun xs e s => if xs.length ≤ LIM then (dcompM as tt tk tv (wipeE e vs) xs ([], []) s).calm.bind fun d s => Res.ok (PV.dct false d.1 d.2) s else Res.stuck) q).imp fun J H1 q => ?_
  obtain ⟨xs, g, env, rfl, ok, re, J0, q⟩ := q
  intro D hD
  by_cases hl : xs.length ≤ LIM
  · simp only [hl, if_true] at q
    let P : Nat → Hp → Prop := fun i H => ∃ g1 d kvs, g1.H = H ∧ g1.Ok K mg ∧ Ext g g1 ∧ HidU g1 D (.dK kvs) ∧ d.1 = kvs.map (fun q => pvKey q.1) ∧ RelPs K mg g1 d.2 (kvs.map (·.2)) ∧ kvs.length ≤ i ∧
      OutA K mg (fun g p v => RelP K mg g p v) g σ W ((dcompM as tt tk tv (wipeE env vs) (xs.drop i) d g1.s).calm.bind fun d s => Res.ok (PV.dct false d.1 d.2) s) Q
    refine ⟨fun i m H => m = xs.length - i ∧ i ≤ xs.length ∧ P i H, ⟨xs.length, by simp, Nat.zero_le _, ?_⟩, ?_⟩
    · refine ⟨g.new D (.dK []), ([], []), [], rfl, G.new_ok ok hD, G.new_ext hD, new_hid ok hD trivial, rfl, RelPs.nil, Nat.le_refl _, ?_⟩
      rw [List.drop_zero]
      exact q
    · rintro i m H ⟨rfl, hi, g1, d, kvs, rfl, ok1, x1, hid, d1, d2, hai, fin⟩
      by_cases hlt : i < xs.length
      · obtain ⟨p, hp⟩ : ∃ p, xs[i]? = some p := ⟨xs[i], by simp [hlt]⟩
        have J1 := J0 g1 x1 ok1 i
        obtain ⟨hgo, hy⟩ := J1.1 p hp
        refine .inr ⟨hgo, P (i + 1), fun H' h => ⟨xs.length - (i + 1), by omega, rfl, hlt, h⟩, fun x H' hyl => ?_⟩
        obtain ⟨g2, rfl, x2, ok2, e2, rp⟩ := hy x H' hyl
        have hdrop : xs.drop i = p :: xs.drop (i + 1) := by
          rw [List.drop_eq_getElem_cons hlt]
          congr 1
          exact (List.getElem?_eq_some_iff.mp hp).2
        rw [hdrop] at fin
        simp only [dcompM] at fin
        cases ha : as p (wipeE env vs) g1.s with
        | none => rw [ha] at fin; exact fin.elim
        | some es =>
          obtain ⟨env', s3⟩ := es
          rw [ha] at fin
          dsimp only at fin
          have x12 := x1.trans ok ok1 x2
          have hid2 := hid.ext ok1 x2
          refine ⟨g2, p, wipeE env vs, env', s3, rfl, ok2, rp, (re.ext ok x12).wipe vs, by rw [e2]; exact ha, fun g3 σ3 x3 ok3 e3 re3 k3 l3 => ?_⟩
          have x13 := x12.trans ok ok2 x3
          have hid3 := hid2.ext ok2 x3
          have l3' : σ3.length = (L2.wipe σ vs).length := l3
          refine ⟨by
            rw [wipe_congr (σ := L2.wipe σ vs) l3' (fun j hj => k3 j fun z => hj (hts j z))]
            exact wipe_congr (L2.wipe_length σ vs) (fun j hj => L2.wipe_out hj), g3, env', rfl, ok3, re3, ?_⟩
          subst e3
          revert fin
          cases tt env' g3.s with
          | exc c p s' => exact fun h => h.elim
          | stuck => exact id
          | ok b s4 =>
            simp only [bind_ok]
            intro fin g4 b' x4 ok4 e4 hb
            subst hb
            have x14 := x13.trans ok ok3 x4
            have hid4 := hid3.ext ok3 x4
            have ra4 := ((d2.ext ok1 x2).ext ok2 x3).ext ok3 x4
            cases b with
            | false =>
              simp only [if_neg Bool.false_ne_true] at fin ⊢
              subst e4
              exact ⟨g4, d, kvs, rfl, ok4, x14, hid4, d1, ra4, by omega, fin⟩
            | true =>
              simp only [if_true] at fin ⊢
              refine ⟨g4, env', rfl, ok4, re3.ext ok3 x4, ?_⟩
              subst e4
              revert fin
              cases tk env' g4.s with
              | exc c p s' => exact fun h => h.elim
              | stuck => exact id
              | ok y s5 =>
                simp only [bind_ok]
                intro fin g5 v x5 ok5 e5 r5
                have hid5 := hid4.ext ok4 x5
                have ra5 := ra4.ext ok4 x5
                have x15 := x14.trans ok ok4 x5
                refine ⟨g5, env', rfl, ok5, (re3.ext ok3 x4).ext ok4 x5, ?_⟩
                subst e5
                revert fin
                cases tv env' g5.s with
                | exc c p s' => exact fun h => h.elim
                | stuck => exact id
                | ok z s6 =>
                  simp only [bind_ok]
                  intro fin g6 w x6 ok6 e6 r6
                  have hid6 := hid5.ext ok5 x6
                  have ra6 := ra5.ext ok5 x6
                  have x16 := x15.trans ok ok5 x6
                  have r5' := r5.ext ok5 x6
                  subst e6
                  by_cases hk : isKey false y = true
                  · rw [if_pos hk] at fin
                    obtain ⟨kk, rfl, rfl⟩ := key_of hk r5'
                    obtain ⟨p1, p2⟩ := put_pk (k := kk) r6 ra6
                    rw [← d1] at p1 p2
                    refine ⟨kvs, kk, rfl, hid6.at_, ?_, ?_⟩
                    · rw [← sizeLIM]; omega
                    · have hl6 := length_putK kvs kk w
                      exact ⟨{ g6 with H := upd g6.H D (.dK (putK kvs kk w)) }, dput d.1 d.2 (pvKey kk) z, putK kvs kk w, rfl, hid6.ok ok6, HidU.extRe x16 hD, hid6.re trivial, p1, p2.keep hid6.keeps, by omega, fin⟩
                  · rw [if_neg hk] at fin; exact fin.elim
      · have e : i = xs.length := by omega
        subst e
        refine .inl ⟨(J0 g1 x1 ok1 _).2 (Nat.le_refl _), ?_⟩
        rw [List.drop_length] at fin
        exact frz_fin ok hD x1 ok1 hid d1 d2 fin
  · simp only [hl, if_false] at q
    exact q.elim
theorem ie_dc (hc : X.calm = true) (hN : X.N.Nodup) (hi : II X W tg iter fi) (ok : BlkOk X.N X.env.scope scope own)
    (hg : ∀ (s : Shared) (H : Hp) (C : Addr) (cl : List (Str × Addr)) (fp : List Addr), IG (X.blk s H scope (compEnvC scope cl C X.env) fp) none tg ts as) (ht : ∀ (s : Shared) (H : Hp) (C : Addr) (cl : List (Str × Addr)) (fp : List Addr), ITs (X.blk s H scope (compEnvC scope cl C X.env) fp) W0 ifs tt)
    (hk : ∀ (s : Shared) (H : Hp) (C : Addr) (cl : List (Str × Addr)) (fp : List Addr), IE (X.blk s H scope (compEnvC scope cl C X.env) fp) W0 ek tk) (he : ∀ (s : Shared) (H : Hp) (C : Addr) (cl : List (Str × Addr)) (fp : List Addr), IE (X.blk s H scope (compEnvC scope cl C X.env) fp) W0 ev tv)
    (hts : ∀ i ∈ ts, i ∈ own.map (·.2) := by decide) (hs : ∀ x, foldedSetIterable iter X.env x = pure x := by intro _; rfl) :
    IE X W (.DictComp ek ev [⟨tg, iter, ifs, 0⟩] scope pos) (eDComp (own.map (·.2)) fi as tt tk tv) :=
  PE.weak (pe_frz (pe_dc hc hN hi ok hg ht hk he hs)) fun σ H Q q => tDc_of hts q
end
end
end Mr
namespace Mr
noncomputable section
open PySem PySem.Spec PyProof.Rows L2
/-! ### a, b = x, y with plain names -/
def setAll : List Nat → List PV → Env → Option Env
  | [], [], e => some e
  | i :: is, p :: ps, e => setAll is ps (e.set i (some p))
  | _, _, _ => none
def sPar (is : List Nat) (fs : List EX) : SX := fun e s => (eList fs e s).sbind e fun xs s => match setAll is xs e with
  | some e => .nx e s
  | none => .stuck
section
variable {K : PySem.W.Frag} {mg : MG} {g g' : G} {X : Cx} {W : WY} {pos : Pos} {fs : List EX}
theorem par_of {is : List Nat} {D : Ends} {σ : L2.St} {H : Hp} (q : RdS K mg W (sPar is fs) D σ H) : RdL K mg W (eList fs) σ H fun vs H1 => ∃ g env e ps, g.H = H1 ∧ g.Ok K mg ∧ RelEnv K mg W.b g env σ ∧ RelPs K mg g ps vs ∧ setAll is ps env = some e ∧
    ∀ σ', RelEnv K mg W.b g e σ' → D.nx σ' H1 := by
  refine (RdS.seq (R := fun g p v => RelPs K mg g p v) (d := fun xs e s => match setAll is xs e with
    | some e => .nx e s
    | none => .stuck) q).imp fun vs H1 q => ?_
  obtain ⟨p, g, env, rfl, ok, re, r, q⟩ := q
  cases hz : setAll is p env with
  | none => rw [hz] at q; exact q.elim
  | some e =>
    rw [hz] at q
    exact ⟨g, env, e, p, rfl, ok, re, r, hz, fun σ' re' => q g σ' (Ext.refl g) ok rfl re'⟩
theorem is_par2 {i j : Nat} {x y : Str} {a b : Expr} {px py pt : Pos} {kt k2 pt2} (hc : X.calm = true) (hN : X.N.Nodup) (ha : IA X W [a, b] (eList fs)) (hi : X.N[i]? = some x := by rfl) (hj : X.N[j]? = some y := by rfl) (hij : i ≠ j := by decide)
    (hx : X.env.scope.names.lookup x = some .local := by rfl) (hy : X.env.scope.names.lookup y = some .local := by rfl)
    (hw : swappedStores [.Tuple [.Name x px, .Name y py] kt pt] (.Tuple [a, b] k2 pt2) X.env = pure (some [x, y]) := by rfl)
    (hs : swapsWithSole [.Tuple [.Name x px, .Name y py] kt pt] (.Tuple [a, b] k2 pt2) pos.line X.env = pure false := by rfl)
    (hB : ∀ b, W.b = some b → b.1 ≠ i ∧ b.1 ≠ j := by intro b h; cases h <;> (dsimp only; decide)) :
    IS X W (.Assign [.Tuple [.Name x px, .Name y py] kt pt] (.Tuple [a, b] k2 pt2) pos) (sPar [i, j] fs) := PS.weak (ps_par hc hN hi hj hij hx hy ha hw hs) fun D σ H q => by
  unfold tPar
  refine (par_of q).imp fun vs H1 q => ?_
  obtain ⟨g, env, e, ps, rfl, ok, re, r, hz, q⟩ := q
  cases ps with
  | nil => simp [setAll] at hz
  | cons p ps =>
    cases ps with
    | nil => simp [setAll] at hz
    | cons p2 ps =>
      cases ps with
      | nil =>
        simp only [setAll, Option.some.injEq] at hz
        subst hz
        simp only [RelPs] at r
        obtain ⟨v, _, rfl, r1, w, _, rfl, r2, rfl⟩ := r
        exact ⟨v, w, rfl, q _ ((re.set i r1 fun b h => (hB b h).1).set j r2 fun b h => (hB b h).2)⟩
      | cons _ _ => simp [setAll] at hz
theorem is_par3 {i j l : Nat} {x y z : Str} {a b c : Expr} {px py pz pt : Pos} {kt k2 pt2} (hc : X.calm = true) (hN : X.N.Nodup) (ha : IA X W [a, b, c] (eList fs)) (hi : X.N[i]? = some x := by rfl) (hj : X.N[j]? = some y := by rfl) (hl : X.N[l]? = some z := by rfl) (hij : i ≠ j := by decide)
    (hil : i ≠ l := by decide) (hjl : j ≠ l := by decide) (hx : X.env.scope.names.lookup x = some .local := by rfl) (hy : X.env.scope.names.lookup y = some .local := by rfl) (hz : X.env.scope.names.lookup z = some .local := by rfl)
    (hw : swappedStores [.Tuple [.Name x px, .Name y py, .Name z pz] kt pt] (.Tuple [a, b, c] k2 pt2) X.env = pure (some [x, y, z]) := by rfl)
    (hs : swapsWithSole [.Tuple [.Name x px, .Name y py, .Name z pz] kt pt] (.Tuple [a, b, c] k2 pt2) pos.line X.env = pure false := by rfl)
    (hB : ∀ b, W.b = some b → b.1 ≠ i ∧ b.1 ≠ j ∧ b.1 ≠ l := by intro b h; cases h <;> (dsimp only; decide)) :
    IS X W (.Assign [.Tuple [.Name x px, .Name y py, .Name z pz] kt pt] (.Tuple [a, b, c] k2 pt2) pos) (sPar [i, j, l] fs) := PS.weak (ps_par3 hc hN hi hj hl hij hil hjl hx hy hz ha hw hs) fun D σ H q => by
  unfold tPar3
  refine (par_of q).imp fun vs H1 q => ?_
  obtain ⟨g, env, e, ps, rfl, ok, re, r, hz, q⟩ := q
  cases ps with
  | nil => simp [setAll] at hz
  | cons p ps =>
    cases ps with
    | nil => simp [setAll] at hz
    | cons p2 ps =>
      cases ps with
      | nil => simp [setAll] at hz
      | cons p3 ps =>
        cases ps with
        | nil =>
          simp only [setAll, Option.some.injEq] at hz
          subst hz
          simp only [RelPs] at r
          obtain ⟨v, _, rfl, r1, w, _, rfl, r2, w3, _, rfl, r3, rfl⟩ := r
          exact ⟨v, w, w3, rfl, q _ (((re.set i r1 fun b h => (hB b h).1).set j r2 fun b h => (hB b h).2.1).set l r3 fun b h => (hB b h).2.2)⟩
        | cons _ _ => simp [setAll] at hz
/-! ### more methods of texts -/
theorem m_upper : MtR X "str.upper" (MtM' X.K X.mg mUpper) := by
  intro pins s σ H x xs v us Q I rx rv ⟨g, p, ps, z, eH, ok, r1, r2, hz, q⟩
  subst eH
  unfold mUpper at hz
  split at hz
  · rename_i a
    split at hz
    · rename_i hl
      cases hz
      obtain rfl := relS r1
      obtain rfl : xs = [] := r2
      refine mt_upper pins s σ g.H _ _ v us Q I rx rv ⟨_, rfl, rfl, by rw [strlen]; exact hl, ?_⟩
      have e : (⟨(upL a).toArray⟩ : Str) = Txt.upper ⟨a.toArray⟩ := by unfold upL; rfl
      exact e ▸ fin_str ok q
    · cases hz
  · cases hz
theorem cnt_count (c : Nat) : ∀ l : List Nat, cnt c l = (l.count c : Int)
  | [] => rfl
  | x :: l => by
    rw [List.count_cons, cnt_cons, cnt_count c l]
    by_cases h : x = c <;> simp [h] <;> omega
theorem m_count : MtR X "str.count" (MtM' X.K X.mg mCount) := by
  intro pins s σ H x xs v us Q I rx rv ⟨g, p, ps, z, eH, ok, r1, r2, hz, q⟩
  subst eH
  unfold mCount at hz
  split at hz
  · rename_i a c
    cases hz
    obtain rfl := relS r1
    obtain ⟨w, rfl, r3⟩ := r2.one
    obtain rfl := relS r3
    refine mt_count pins s σ g.H _ _ v us Q I rx rv ⟨_, _, rfl, rfl, ?_⟩
    have e : ((a.count c : Nat) : Int) = Txt.count ⟨a.toArray⟩ ⟨#[c]⟩ := by
      rw [count_cnt]; exact (cnt_count c a).symm
    exact e ▸ fin_int ok q
  · cases hz
end
end
end Mr
namespace Mr.EG
open PySem PySem.W PySem.Calls PyProof.Rows PySem.HandSPX
/-! ### errors that keep what they are made with, by the name given -/
def prm (a b : Pos) : Arguments := { posonlyargs := [], args := [⟨"self", none, a⟩, ⟨"given", none, b⟩], vararg := none, kwonlyargs := [], kw_defaults := [], kwarg := none, defaults := [] }
def txt (a b c d : Pos) : List Stmt := [.Assign [.Attribute (.Name "self" a) "given" b] (.Name "given" c) d]
def sco : Scope := { kind := .function, names := [(Str.ofString "self", .local), (Str.ofString "given", .local)], isGenerator := false, isCoroutine := false, more := [] }
/-- what stands written of the class cl, at C, its first function at f -/
structure Txt (K : Frag) (mg : Str → Option Value) (cl : Str) (C f : Addr) : Prop where
  g : mg cl = some (.ref C)
  c : ∃ (n q : Str) (N : Addr) (bs bm : List Value) (sn : List Str) (sub : List Value) (ab : Bool) (col : Option Bool) (dd : Option Addr) (k0 k1 k2 k3 k5 : Option Value), K.lookup C = some (excClassObj n q C N bs bm true sn sub ab col dd k0 k1 k2 k3 k5 "ValueError.__new__") ∧ refsVE bm = true
  set_ : findIn K (.ref C) "__setattr__" = some (some (.builtin "object.__setattr__"))
  get_ : findIn K (.ref C) "__getattribute__" = some (some (.builtin "BaseException.__getattribute__"))
  gat_ : findIn K (.ref C) "__getattr__" = some none
  non_ : findIn K (.ref C) "given" = some none
  ini_ : findIn K (.ref C) "__init__" = some (some (.ref f))
  fty : typeIn K (.ref f) = some (.type "function")
  kee : keepIn K (.ref C) = true
  bas : subIn K (.ref C) (.type "BaseException") = some true
  cty : typeIn K (.ref C) = some (.type "type")
  dic : hasDictIn K C = true
  fun_ : ∃ (qn : Str) (oc : Value) (od : Option Addr) (doc pm : Value) (an : Option Addr) (cdv ct : Value) (osl : Array (Option Value)) (a b c d e h : Pos),
    K.lookup f = some ⟨oc, od, .func (fnOf "__init__" qn (prm a b) (txt c d e h) sco .none .none doc pm an cdv ct), osl⟩ ∧ codeIn K cdv qn = true
theorem fits1 (v : Value) : ([v] : List Value).length ≤ sizeLine := by rw [sizeLine_eq]; exact (by decide : (1 : Nat) ≤ 16777216)
theorem kin_but {K : Frag} {h h' : Heap} {x : Addr} (k0 : K.In h) (kx : K.lookup x = none) (kk : ∀ b o, b ≠ x → h.get? b = some o → h'.get? b = some o) : K.In h' :=
  fun b o q => kk b o (fun z => by rw [z, kx] at q; cases q) (k0 b o q)
theorem ldL {M : Model} {s : Shared} {nm x : Str} {sc : Scope} {fr a : Addr} {cd : Value} {m : Str → Option Value} {pos : Pos} {v : Value} {Q : Value → Shared → Prop} {A : Around} {E : Value → Shared → Prop} (ns : s.heap.Ns fr m) (mv : m x = some v) (q : Q v s)
    (k1 : sc.kind = .function := by rfl) (k2 : (envOfC nm sc fr a cd).kindOf x = some .local := by rfl) (k3 : (x == ("__debug__" : Str)) = false := by decide) :
    wpAny M A (eval (.Name x pos) (envOfC nm sc fr a cd)) Q E s := wpAny_Name (wpAny_loadName_local k1 k2 ns mv q) k3
/-- a new one, its field laid -/
structure Laid (h h' : Heap) (x C dx t : Addr) (v : Value) : Prop where
  kp : ∀ b o, b ≠ x → h.get? b = some o → h'.get? b = some o
  ob : h'.get? x = some { cls := .ref C, dict := some dx, data := .fields #[.ref t, .none, .none, .none, .bool false, .none] }
  lo : h.objs.size ≤ dx
  ne : dx ≠ x
  fld : h'.Ns1 dx (fun y => if y = "given" then some v else none)
structure Born (h h' : Heap) (e C d : Addr) (v : Value) : Prop where
  kp : ∀ b o, h.get? b = some o → h'.get? b = some o
  lo : h.objs.size ≤ e
  ob : ∃ oe fs, h'.get? e = some oe ∧ oe.cls = .ref C ∧ oe.dict = some d ∧ oe.data = .fields fs ∧ fs[1]? = some .none
  dlo : h.objs.size ≤ d
  ne : d ≠ e
  fld : h'.Ns1 d (fun y => if y = "given" then some v else none)
section
variable {prog : Program} {w : World} {A : Around} {E : Value → Shared → Prop} {R : Result → Shared → Prop} {s : Shared} {K : Frag} {mg : Str → Option Value} {C f : Addr} {cl : Str}
theorem runs_init (T : Txt K mg cl C f) {x t : Addr} {v : Value} (ki : K.In s.heap) (nl : s.heap.NoLimit) (gx : s.heap.get? x = some (excO C t)) (kx : K.lookup x = none) (dep : A.depth < recursionLimit)
    (fin : ∀ h' tk dx, Laid s.heap h' x C dx t v → R (.ok (.ret .none)) { s with heap := h', toks := tk }) :
    codeAny (model prog w) A (.call (.ref f) ⟨[.ref x, v], []⟩) R s := by
  obtain ⟨qn, oc, od, doc, pm, an, cdv, ct, osl, a, b, c, d, e, hh, ho, hcd⟩ := T.fun_
  obtain ⟨n, q, N, bs, bm, sn, sub, ab, col, dd, k0, k1, k2, k3, k5, lc, mro⟩ := T.c
  have cd : clsIn K C = some { name := n, bases := bs, mro := .ref C :: bm, ns := N, qualname := q, hasDict := true, slotNames := sn, subclasses := sub, abstract := ab, collection := col, hasDel := false } := by unfold clsIn; rw [lc] <;> rfl
  refine Att.call_fn (binds := [("self", .ref x), ("given", v)]) ki nl ho hcd dep (BindsTo.of_eq (by first | rfl | with_unfolding_all rfl)) (by first | rfl | decide | with_unfolding_all rfl) (fun s₁ ic => ?_) rfl rfl rfl
  obtain ⟨h₁, tk₁, rfl⟩ := ic.toInCall.same
  have old : ∀ b o, s.heap.get? b = some o → h₁.get? b = some o := ic.toInCall.keep
  have ns := ic.toInCall.ns
  have ki₁ : K.In h₁ := ki.keeps old
  have gx₁ := old _ _ gx
  have lt : s.heap.objs.size < h₁.objs.size := ns.lt
  show wpAny _ _ (execs _ _) _ _ _
  refine wpAny_execs_cons (plainObj_wpAny_Assign_Attribute ?_)
  refine ldL (v := v) ns (by first | rfl | with_unfolding_all rfl | kernel_rfl) (ldL (v := .ref x) ns (by first | rfl | with_unfolding_all rfl | kernel_rfl) ?_)
  refine set_plain ki₁ (ox := excO C t) (od := none) ⟨gx₁, rfl, rfl, trivial⟩ T.set_ ?_
  refine exc_osa ki₁ gx₁ cd (show refsVE (.ref C :: bm) = true from mro) rfl T.non_ (fun h₃ tk₃ dx kk lo ne gx₃ fl => ?_)
  show wpAny _ _ (execs _ _) _ _ _
  exact wpAny_execs_nil (fin h₃ tk₃ dx ⟨fun b o hb z => kk b o hb (old b o z), gx₃, Nat.le_of_lt (Nat.lt_of_lt_of_le lt lo), ne, fl⟩)
theorem runs_made (T : Txt K mg cl C f) {v : Value} (ki : K.In s.heap) (nl : s.heap.NoLimit) (dep : A.depth + 1 < recursionLimit)
    (fin : ∀ h' tk e d, Born s.heap h' e C d v → R (.ok (.ret (.ref e))) { s with heap := h', toks := tk }) : codeAny (model prog w) A (.call (.ref C) ⟨[v], []⟩) R s := by
  obtain ⟨n, q, N, bs, bm, sn, sub, ab, col, dd, k0, k1, k2, k3, k5, lc, mro⟩ := T.c
  obtain ⟨hp, g, dr, tk, os⟩ := s
  have up : ∀ b o, hp.get? b = some o → ((hp.push (kdv_tup [v])).push (excO C hp.objs.size)).get? b = some o := fun b o z => Heap.get?_push_of_some _ (Heap.get?_push_of_some _ z)
  have here : ((hp.push (kdv_tup [v])).push (excO C hp.objs.size)).get? (hp.objs.size + 1) = some (excO C hp.objs.size) := by heap_get
  have out : K.lookup (hp.objs.size + 1) = none := by
    rcases z : K.lookup (hp.objs.size + 1) with _ | o
    · rfl
    · have y : hp.get? (hp.objs.size + 1) = some o := ki _ _ z
      exact (Nat.lt_irrefl _ (Nat.lt_of_succ_lt (Heap.lt_size y))).elim
  refine call_own F.excBase_ValueError (fun X => refsVE_contains X bm mro) (ki _ _ lc) (looks_findIn ki T.ini_) (fun self => bind_fn ki self T.fty) (fits1 v) ?_
  refine runs_init (s := ⟨(hp.push (kdv_tup [v])).push (excO C hp.objs.size), g, dr, tk, os⟩) T (ki.keeps up) (nl.keeps up) here out dep fun h' tk' dx ⟨kk, gx, lo, ne, fl⟩ => ?_
  have old : ∀ b o, hp.get? b = some o → h'.get? b = some o := fun b o z => kk b o (Nat.ne_of_lt (Nat.lt_succ_of_lt (Heap.lt_size z))) (up b o z)
  have z : hp.objs.size + 2 ≤ dx := by
    have q := lo
    first
      | (simpa only [Heap.size_push] using q)
      | exact q
      | (rw [Heap.size_push, Heap.size_push] at q; exact q)
  exact ⟨rfl, fin h' tk' (hp.objs.size + 1) dx ⟨old, Nat.le_succ _, ⟨_, _, gx, rfl, rfl, rfl, rfl⟩, Nat.le_trans (Nat.le_add_right _ 2) z, ne, fl⟩⟩
end
end Mr.EG
namespace Mr.EG
open PySem PySem.Spec PyProof.Rows L2
theorem fld_rel {v : V} {u : Value} (r : RelV v u) (y : Str) : L2.RelO (List.lookup y [(("given" : Str), v)]) (if y = "given" then some u else none) := by
  by_cases z : y = "given"
  · subst z
    rw [if_pos rfl, show List.lookup ("given" : Str) [(("given" : Str), v)] = some v by simp [List.lookup]]
    exact r
  · have zb : (y == ("given" : Str)) = false := by simpa using z
    rw [if_neg z, show List.lookup y [(("given" : Str), v)] = none by simp [List.lookup, zb]]
    trivial
section
variable {X : Cx} {C f : Addr} {cl : Str}
def tMk (C : Addr) (ta : TA) : L2.St → Hp → XK → Prop := fun σ H Q => ta σ H fun vs H1 => ∃ v, vs = [v] ∧ ∀ d, H1 d = none → Q (.ref C) (some d) (upd H1 d (.xd [(("given" : Str), v)]))
theorem pmk {a : Expr} {ta : TA} {p pos : Pos} {k : Nat} (T : Txt X.K X.mg cl C f) (hr : Room k X.A) (ha : PA X [a] ta) (hg : Gl X cl) (hn : (cl == ("__debug__" : Str)) = false)
    (he : starEach [a] X.env = (false, eval a X.env) :: starEach [] X.env := by rfl) (hpl : (backTo pos (starEach [] X.env)).any (·.1) = false := by rfl) : PMk X (.Call (.Name cl p) [a] [] pos) (tMk C ta) := by
  intro pins s σ H Q I q
  refine wpAny_Call_Name_kw (ld_glob I hg T.g ?_ hn)
  refine PySem.W.callWith_K (h₀ := X.base) I.ok.mod.kin T.kee (thn (ha.run pos pins s σ H _ I q) fun us s1 hh => ?_) he hpl
  obtain ⟨vs, H1, I1, rr, v, rfl, q1⟩ := hh
  refine ⟨I1.kIn, ?_⟩
  rcases rr with _ | @⟨_, u, _, _, rv, rn⟩
  cases rn
  have nl := I1.nolimit
  obtain ⟨hp, g, dr, tk, os⟩ := s1
  show wpAny _ _ (call (.ref C) [u]) _ _ _
  refine wpAny_call (runs_made T I1.kIn nl (by have := hr.dp; omega) fun h' tk' e d B => ?_)
  show MkP X pins σ Q (.ref e) ⟨h', g, dr, tk', os⟩
  obtain ⟨oe, fv, goe, cls, dct, dat, f1⟩ := B.ob
  obtain ⟨G', ga, gn⟩ := restrict h' fun b => decide (b ≠ e)
  have gk : ∀ b, b ≠ e → G'.get? b = h'.get? b := fun b hb => ga b (decide_eq_true hb)
  have gz : G'.get? e = none := gn e (by simp)
  have old : ∀ b o, hp.get? b = some o → G'.get? b = some o := fun b o z => (gk b (Nat.ne_of_lt (Nat.lt_of_lt_of_le (Heap.lt_size z) B.lo))).trans (B.kp b o z)
  have ob : ObjOk X.prog X.w (upd H1 d (.xd [(("given" : Str), v)])) G' d (.xd [(("given" : Str), v)]) := ⟨_, B.fld.at (fun o z => (gk d B.ne).trans z), fun y => fld_rel rv y⟩
  refine ⟨e, oe, fv, ⟨G', g, dr, tk', os⟩, _, .ref C, some d, rfl, I1.laid (t' := tk') old B.dlo ob, fun b o z => ?_, gz, goe, ⟨cls, dct⟩, dat, f1, ?_, rfl, I1.bare, raises_own T.bas T.cty, q1 d (I1.hok.fresh B.dlo)⟩
  · by_cases hb : b = e
    · have z' : G'.get? b = some o := z
      rw [hb, gz] at z'; cases z'
    · exact (gk b hb).symm.trans z
  · rw [upd_ne (Ne.symm B.ne)]
    exact I1.hok.fresh B.lo
/-- e.given, e the error that the suite holds -/
def tFld (C a : Addr) (cls : Value) (d : Option Addr) (te : TE) : TE := fun σ H Q => te σ H fun x H1 => x = .ref a ∧ cls = .ref C ∧ ∃ (dd : Addr) (v : V), d = some dd ∧ H1 dd = some (.xd [(("given" : Str), v)]) ∧ Q v H1
theorem pe_fld {a : Addr} {oe : Obj} {cls : Value} {d : Option Addr} {pn : List (Addr × Obj)} {e : Expr} {te : TE} {pos : Pos} (T : Txt X.K X.mg cl C f) (hz : Zc cls d oe) (hf : ∃ vs, oe.data = .fields vs) (he : PE (X.suite a ((a, oe) :: pn)) e te)
    (hb : attributeBase e "given" X.env (eval e X.env) = eval e X.env := by rfl) : PE (X.suite a ((a, oe) :: pn)) (.Attribute e "given" pos) (tFld C a cls d te) := by
  refine ⟨fun pins s σ H Q I q => ?_⟩
  refine attr_of hb (thn (he.run pins s σ H _ I q) fun u s1 hh => ?_)
  obtain ⟨x, H1, I1, rx, rfl, rfl, dd, v, rfl, gd, q⟩ := hh
  obtain rfl : u = Value.ref a := rx
  obtain ⟨pa, _⟩ := I1.pin (a, oe) (List.mem_append_left _ List.mem_cons_self)
  obtain ⟨vs, dat⟩ := hf
  obtain ⟨m, ns, rr⟩ : ObjOk X.prog X.w H1 s1.heap dd (.xd [(("given" : Str), v)]) := I1.hok dd _ gd
  obtain ⟨od, gdd, lk⟩ := lookIn_ns ns
  obtain ⟨u, hu, ru⟩ := RelO.some_of (v := v) (o := m "given") (by rw [← show List.lookup ("given" : Str) [(("given" : Str), v)] = some v by simp [List.lookup]]; exact rr "given")
  have J : PySem.W.InstAt s1.heap a oe C (some od) := ⟨pa, hz.1, by unfold PySem.W.notCls; rw [dat] <;> rfl, by rw [hz.2]; exact gdd⟩
  exact HandSPX.exc_get I1.kIn J T.get_ T.gat_ T.bas (PySem.W.findObj_own T.dic T.non_ rfl (by rw [lk, hu])) (handed_of ru) ⟨v, H1, I1.tok _, ru, q⟩
end
end Mr.EG
namespace Mr.EG
open PySem PySem.W PySem.Calls PyProof.Rows PySem.HandSPX
/-- the class cl stands written so -/
def In (K : Frag) (cl : Str) : Prop := ∃ C f, nsIn K mainGlobals cl = some (some (.ref C)) ∧ ∀ mg : Str → Option Value, mg cl = some (.ref C) → Txt K mg cl C f
theorem in_of {K : Frag} {cl : Str} {C f : Addr} {n q : Str} {N : Addr} {bs bm : List Value} {sn : List Str} {sub : List Value} {ab : Bool} {col : Option Bool} {dd : Option Addr} {k0 k1 k2 k3 k5 : Option Value}
    {qn : Str} {oc : Value} {od : Option Addr} {doc pm : Value} {an : Option Addr} {cdv ct : Value} {osl : Array (Option Value)} (a b c d e h : Pos)
    (h1 : nsIn K mainGlobals cl = some (some (.ref C))) (h2 : K.lookup C = some (excClassObj n q C N bs bm true sn sub ab col dd k0 k1 k2 k3 k5 "ValueError.__new__")) (h3 : refsVE bm = true)
    (h4 : findIn K (.ref C) "__setattr__" = some (some (.builtin "object.__setattr__"))) (h5 : findIn K (.ref C) "__getattribute__" = some (some (.builtin "BaseException.__getattribute__"))) (h6 : findIn K (.ref C) "__getattr__" = some none)
    (h7 : findIn K (.ref C) "given" = some none) (h8 : findIn K (.ref C) "__init__" = some (some (.ref f))) (h9 : typeIn K (.ref f) = some (.type "function")) (h10 : keepIn K (.ref C) = true) (h11 : subIn K (.ref C) (.type "BaseException") = some true)
    (h12 : typeIn K (.ref C) = some (.type "type")) (h13 : hasDictIn K C = true) (h14 : K.lookup f = some ⟨oc, od, .func (fnOf "__init__" qn (prm a b) (txt c d e h) sco .none .none doc pm an cdv ct), osl⟩) (h15 : codeIn K cdv qn = true) : In K cl :=
  ⟨C, f, h1, fun mg hm => ⟨hm, ⟨n, q, N, bs, bm, sn, sub, ab, col, dd, k0, k1, k2, k3, k5, h2, h3⟩, h4, h5, h6, h7, h8, h9, h10, h11, h12, h13, ⟨qn, oc, od, doc, pm, an, cdv, ct, osl, a, b, c, d, e, h, h14, h15⟩⟩⟩
end Mr.EG
namespace Mr.EI
open PySem PySem.W PySem.Calls PyProof.Rows PySem.HandSPX
/-! ### errors that keep what they are made with, by the name index -/
def prm (a b : Pos) : Arguments := { posonlyargs := [], args := [⟨"self", none, a⟩, ⟨"index", none, b⟩], vararg := none, kwonlyargs := [], kw_defaults := [], kwarg := none, defaults := [] }
def txt (a b c d : Pos) : List Stmt := [.Assign [.Attribute (.Name "self" a) "index" b] (.Name "index" c) d]
def sco : Scope := { kind := .function, names := [(Str.ofString "self", .local), (Str.ofString "index", .local)], isGenerator := false, isCoroutine := false, more := [] }
/-- what stands written of the class cl, at C, its first function at f -/
structure Txt (K : Frag) (mg : Str → Option Value) (cl : Str) (C f : Addr) : Prop where
  g : mg cl = some (.ref C)
  c : ∃ (n q : Str) (N : Addr) (bs bm : List Value) (sn : List Str) (sub : List Value) (ab : Bool) (col : Option Bool) (dd : Option Addr) (k0 k1 k2 k3 k5 : Option Value), K.lookup C = some (excClassObj n q C N bs bm true sn sub ab col dd k0 k1 k2 k3 k5 "ValueError.__new__") ∧ refsVE bm = true
  set_ : findIn K (.ref C) "__setattr__" = some (some (.builtin "object.__setattr__"))
  get_ : findIn K (.ref C) "__getattribute__" = some (some (.builtin "BaseException.__getattribute__"))
  gat_ : findIn K (.ref C) "__getattr__" = some none
  non_ : findIn K (.ref C) "index" = some none
  ini_ : findIn K (.ref C) "__init__" = some (some (.ref f))
  fty : typeIn K (.ref f) = some (.type "function")
  kee : keepIn K (.ref C) = true
  bas : subIn K (.ref C) (.type "BaseException") = some true
  cty : typeIn K (.ref C) = some (.type "type")
  dic : hasDictIn K C = true
  fun_ : ∃ (qn : Str) (oc : Value) (od : Option Addr) (doc pm : Value) (an : Option Addr) (cdv ct : Value) (osl : Array (Option Value)) (a b c d e h : Pos),
    K.lookup f = some ⟨oc, od, .func (fnOf "__init__" qn (prm a b) (txt c d e h) sco .none .none doc pm an cdv ct), osl⟩ ∧ codeIn K cdv qn = true
theorem fits1 (v : Value) : ([v] : List Value).length ≤ sizeLine := by rw [sizeLine_eq]; exact (by decide : (1 : Nat) ≤ 16777216)
theorem kin_but {K : Frag} {h h' : Heap} {x : Addr} (k0 : K.In h) (kx : K.lookup x = none) (kk : ∀ b o, b ≠ x → h.get? b = some o → h'.get? b = some o) : K.In h' :=
  fun b o q => kk b o (fun z => by rw [z, kx] at q; cases q) (k0 b o q)
theorem ldL {M : Model} {s : Shared} {nm x : Str} {sc : Scope} {fr a : Addr} {cd : Value} {m : Str → Option Value} {pos : Pos} {v : Value} {Q : Value → Shared → Prop} {A : Around} {E : Value → Shared → Prop} (ns : s.heap.Ns fr m) (mv : m x = some v) (q : Q v s)
    (k1 : sc.kind = .function := by rfl) (k2 : (envOfC nm sc fr a cd).kindOf x = some .local := by rfl) (k3 : (x == ("__debug__" : Str)) = false := by decide) :
    wpAny M A (eval (.Name x pos) (envOfC nm sc fr a cd)) Q E s := wpAny_Name (wpAny_loadName_local k1 k2 ns mv q) k3
/-- a new one, its field laid -/
structure Laid (h h' : Heap) (x C dx t : Addr) (v : Value) : Prop where
  kp : ∀ b o, b ≠ x → h.get? b = some o → h'.get? b = some o
  ob : h'.get? x = some { cls := .ref C, dict := some dx, data := .fields #[.ref t, .none, .none, .none, .bool false, .none] }
  lo : h.objs.size ≤ dx
  ne : dx ≠ x
  fld : h'.Ns1 dx (fun y => if y = "index" then some v else none)
structure Born (h h' : Heap) (e C d : Addr) (v : Value) : Prop where
  kp : ∀ b o, h.get? b = some o → h'.get? b = some o
  lo : h.objs.size ≤ e
  ob : ∃ oe fs, h'.get? e = some oe ∧ oe.cls = .ref C ∧ oe.dict = some d ∧ oe.data = .fields fs ∧ fs[1]? = some .none
  dlo : h.objs.size ≤ d
  ne : d ≠ e
  fld : h'.Ns1 d (fun y => if y = "index" then some v else none)
section
variable {prog : Program} {w : World} {A : Around} {E : Value → Shared → Prop} {R : Result → Shared → Prop} {s : Shared} {K : Frag} {mg : Str → Option Value} {C f : Addr} {cl : Str}
theorem runs_init (T : Txt K mg cl C f) {x t : Addr} {v : Value} (ki : K.In s.heap) (nl : s.heap.NoLimit) (gx : s.heap.get? x = some (excO C t)) (kx : K.lookup x = none) (dep : A.depth < recursionLimit)
    (fin : ∀ h' tk dx, Laid s.heap h' x C dx t v → R (.ok (.ret .none)) { s with heap := h', toks := tk }) :
    codeAny (model prog w) A (.call (.ref f) ⟨[.ref x, v], []⟩) R s := by
  obtain ⟨qn, oc, od, doc, pm, an, cdv, ct, osl, a, b, c, d, e, hh, ho, hcd⟩ := T.fun_
  obtain ⟨n, q, N, bs, bm, sn, sub, ab, col, dd, k0, k1, k2, k3, k5, lc, mro⟩ := T.c
  have cd : clsIn K C = some { name := n, bases := bs, mro := .ref C :: bm, ns := N, qualname := q, hasDict := true, slotNames := sn, subclasses := sub, abstract := ab, collection := col, hasDel := false } := by unfold clsIn; rw [lc] <;> rfl
  refine Att.call_fn (binds := [("self", .ref x), ("index", v)]) ki nl ho hcd dep (BindsTo.of_eq (by first | rfl | with_unfolding_all rfl)) (by first | rfl | decide | with_unfolding_all rfl) (fun s₁ ic => ?_) rfl rfl rfl
  obtain ⟨h₁, tk₁, rfl⟩ := ic.toInCall.same
  have old : ∀ b o, s.heap.get? b = some o → h₁.get? b = some o := ic.toInCall.keep
  have ns := ic.toInCall.ns
  have ki₁ : K.In h₁ := ki.keeps old
  have gx₁ := old _ _ gx
  have lt : s.heap.objs.size < h₁.objs.size := ns.lt
  show wpAny _ _ (execs _ _) _ _ _
  refine wpAny_execs_cons (plainObj_wpAny_Assign_Attribute ?_)
  refine ldL (v := v) ns (by first | rfl | with_unfolding_all rfl | kernel_rfl) (ldL (v := .ref x) ns (by first | rfl | with_unfolding_all rfl | kernel_rfl) ?_)
  refine set_plain ki₁ (ox := excO C t) (od := none) ⟨gx₁, rfl, rfl, trivial⟩ T.set_ ?_
  refine exc_osa ki₁ gx₁ cd (show refsVE (.ref C :: bm) = true from mro) rfl T.non_ (fun h₃ tk₃ dx kk lo ne gx₃ fl => ?_)
  show wpAny _ _ (execs _ _) _ _ _
  exact wpAny_execs_nil (fin h₃ tk₃ dx ⟨fun b o hb z => kk b o hb (old b o z), gx₃, Nat.le_of_lt (Nat.lt_of_lt_of_le lt lo), ne, fl⟩)
theorem runs_made (T : Txt K mg cl C f) {v : Value} (ki : K.In s.heap) (nl : s.heap.NoLimit) (dep : A.depth + 1 < recursionLimit)
    (fin : ∀ h' tk e d, Born s.heap h' e C d v → R (.ok (.ret (.ref e))) { s with heap := h', toks := tk }) : codeAny (model prog w) A (.call (.ref C) ⟨[v], []⟩) R s := by
  obtain ⟨n, q, N, bs, bm, sn, sub, ab, col, dd, k0, k1, k2, k3, k5, lc, mro⟩ := T.c
  obtain ⟨hp, g, dr, tk, os⟩ := s
  have up : ∀ b o, hp.get? b = some o → ((hp.push (kdv_tup [v])).push (excO C hp.objs.size)).get? b = some o := fun b o z => Heap.get?_push_of_some _ (Heap.get?_push_of_some _ z)
  have here : ((hp.push (kdv_tup [v])).push (excO C hp.objs.size)).get? (hp.objs.size + 1) = some (excO C hp.objs.size) := by heap_get
  have out : K.lookup (hp.objs.size + 1) = none := by
    rcases z : K.lookup (hp.objs.size + 1) with _ | o
    · rfl
    · have y : hp.get? (hp.objs.size + 1) = some o := ki _ _ z
      exact (Nat.lt_irrefl _ (Nat.lt_of_succ_lt (Heap.lt_size y))).elim
  refine call_own F.excBase_ValueError (fun X => refsVE_contains X bm mro) (ki _ _ lc) (looks_findIn ki T.ini_) (fun self => bind_fn ki self T.fty) (fits1 v) ?_
  refine runs_init (s := ⟨(hp.push (kdv_tup [v])).push (excO C hp.objs.size), g, dr, tk, os⟩) T (ki.keeps up) (nl.keeps up) here out dep fun h' tk' dx ⟨kk, gx, lo, ne, fl⟩ => ?_
  have old : ∀ b o, hp.get? b = some o → h'.get? b = some o := fun b o z => kk b o (Nat.ne_of_lt (Nat.lt_succ_of_lt (Heap.lt_size z))) (up b o z)
  have z : hp.objs.size + 2 ≤ dx := by
    have q := lo
    first
      | (simpa only [Heap.size_push] using q)
      | exact q
      | (rw [Heap.size_push, Heap.size_push] at q; exact q)
  exact ⟨rfl, fin h' tk' (hp.objs.size + 1) dx ⟨old, Nat.le_succ _, ⟨_, _, gx, rfl, rfl, rfl, rfl⟩, Nat.le_trans (Nat.le_add_right _ 2) z, ne, fl⟩⟩
end
end Mr.EI
namespace Mr.EI
open PySem PySem.Spec PyProof.Rows L2
theorem fld_rel {v : V} {u : Value} (r : RelV v u) (y : Str) : L2.RelO (List.lookup y [(("index" : Str), v)]) (if y = "index" then some u else none) := by
  by_cases z : y = "index"
  · subst z
    rw [if_pos rfl, show List.lookup ("index" : Str) [(("index" : Str), v)] = some v by simp [List.lookup]]
    exact r
  · have zb : (y == ("index" : Str)) = false := by simpa using z
    rw [if_neg z, show List.lookup y [(("index" : Str), v)] = none by simp [List.lookup, zb]]
    trivial
section
variable {X : Cx} {C f : Addr} {cl : Str}
def tMk (C : Addr) (ta : TA) : L2.St → Hp → XK → Prop := fun σ H Q => ta σ H fun vs H1 => ∃ v, vs = [v] ∧ ∀ d, H1 d = none → Q (.ref C) (some d) (upd H1 d (.xd [(("index" : Str), v)]))
theorem pmk {a : Expr} {ta : TA} {p pos : Pos} {k : Nat} (T : Txt X.K X.mg cl C f) (hr : Room k X.A) (ha : PA X [a] ta) (hg : Gl X cl) (hn : (cl == ("__debug__" : Str)) = false)
    (he : starEach [a] X.env = (false, eval a X.env) :: starEach [] X.env := by rfl) (hpl : (backTo pos (starEach [] X.env)).any (·.1) = false := by rfl) : PMk X (.Call (.Name cl p) [a] [] pos) (tMk C ta) := by
  intro pins s σ H Q I q
  refine wpAny_Call_Name_kw (ld_glob I hg T.g ?_ hn)
  refine PySem.W.callWith_K (h₀ := X.base) I.ok.mod.kin T.kee (thn (ha.run pos pins s σ H _ I q) fun us s1 hh => ?_) he hpl
  obtain ⟨vs, H1, I1, rr, v, rfl, q1⟩ := hh
  refine ⟨I1.kIn, ?_⟩
  rcases rr with _ | @⟨_, u, _, _, rv, rn⟩
  cases rn
  have nl := I1.nolimit
  obtain ⟨hp, g, dr, tk, os⟩ := s1
  show wpAny _ _ (call (.ref C) [u]) _ _ _
  refine wpAny_call (runs_made T I1.kIn nl (by have := hr.dp; omega) fun h' tk' e d B => ?_)
  show MkP X pins σ Q (.ref e) ⟨h', g, dr, tk', os⟩
  obtain ⟨oe, fv, goe, cls, dct, dat, f1⟩ := B.ob
  obtain ⟨G', ga, gn⟩ := restrict h' fun b => decide (b ≠ e)
  have gk : ∀ b, b ≠ e → G'.get? b = h'.get? b := fun b hb => ga b (decide_eq_true hb)
  have gz : G'.get? e = none := gn e (by simp)
  have old : ∀ b o, hp.get? b = some o → G'.get? b = some o := fun b o z => (gk b (Nat.ne_of_lt (Nat.lt_of_lt_of_le (Heap.lt_size z) B.lo))).trans (B.kp b o z)
  have ob : ObjOk X.prog X.w (upd H1 d (.xd [(("index" : Str), v)])) G' d (.xd [(("index" : Str), v)]) := ⟨_, B.fld.at (fun o z => (gk d B.ne).trans z), fun y => fld_rel rv y⟩
  refine ⟨e, oe, fv, ⟨G', g, dr, tk', os⟩, _, .ref C, some d, rfl, I1.laid (t' := tk') old B.dlo ob, fun b o z => ?_, gz, goe, ⟨cls, dct⟩, dat, f1, ?_, rfl, I1.bare, raises_own T.bas T.cty, q1 d (I1.hok.fresh B.dlo)⟩
  · by_cases hb : b = e
    · have z' : G'.get? b = some o := z
      rw [hb, gz] at z'; cases z'
    · exact (gk b hb).symm.trans z
  · rw [upd_ne (Ne.symm B.ne)]
    exact I1.hok.fresh B.lo
/-- e.index, e the error that the suite holds -/
def tFld (C a : Addr) (cls : Value) (d : Option Addr) (te : TE) : TE := fun σ H Q => te σ H fun x H1 => x = .ref a ∧ cls = .ref C ∧ ∃ (dd : Addr) (v : V), d = some dd ∧ H1 dd = some (.xd [(("index" : Str), v)]) ∧ Q v H1
theorem pe_fld {a : Addr} {oe : Obj} {cls : Value} {d : Option Addr} {pn : List (Addr × Obj)} {e : Expr} {te : TE} {pos : Pos} (T : Txt X.K X.mg cl C f) (hz : Zc cls d oe) (hf : ∃ vs, oe.data = .fields vs) (he : PE (X.suite a ((a, oe) :: pn)) e te)
    (hb : attributeBase e "index" X.env (eval e X.env) = eval e X.env := by rfl) : PE (X.suite a ((a, oe) :: pn)) (.Attribute e "index" pos) (tFld C a cls d te) := by
  refine ⟨fun pins s σ H Q I q => ?_⟩
  refine attr_of hb (thn (he.run pins s σ H _ I q) fun u s1 hh => ?_)
  obtain ⟨x, H1, I1, rx, rfl, rfl, dd, v, rfl, gd, q⟩ := hh
  obtain rfl : u = Value.ref a := rx
  obtain ⟨pa, _⟩ := I1.pin (a, oe) (List.mem_append_left _ List.mem_cons_self)
  obtain ⟨vs, dat⟩ := hf
  obtain ⟨m, ns, rr⟩ : ObjOk X.prog X.w H1 s1.heap dd (.xd [(("index" : Str), v)]) := I1.hok dd _ gd
  obtain ⟨od, gdd, lk⟩ := lookIn_ns ns
  obtain ⟨u, hu, ru⟩ := RelO.some_of (v := v) (o := m "index") (by rw [← show List.lookup ("index" : Str) [(("index" : Str), v)] = some v by simp [List.lookup]]; exact rr "index")
  have J : PySem.W.InstAt s1.heap a oe C (some od) := ⟨pa, hz.1, by unfold PySem.W.notCls; rw [dat] <;> rfl, by rw [hz.2]; exact gdd⟩
  exact HandSPX.exc_get I1.kIn J T.get_ T.gat_ T.bas (PySem.W.findObj_own T.dic T.non_ rfl (by rw [lk, hu])) (handed_of ru) ⟨v, H1, I1.tok _, ru, q⟩
end
end Mr.EI
namespace Mr.EI
open PySem PySem.W PySem.Calls PyProof.Rows PySem.HandSPX
/-- the class cl stands written so -/
def In (K : Frag) (cl : Str) : Prop := ∃ C f, nsIn K mainGlobals cl = some (some (.ref C)) ∧ ∀ mg : Str → Option Value, mg cl = some (.ref C) → Txt K mg cl C f
theorem in_of {K : Frag} {cl : Str} {C f : Addr} {n q : Str} {N : Addr} {bs bm : List Value} {sn : List Str} {sub : List Value} {ab : Bool} {col : Option Bool} {dd : Option Addr} {k0 k1 k2 k3 k5 : Option Value}
    {qn : Str} {oc : Value} {od : Option Addr} {doc pm : Value} {an : Option Addr} {cdv ct : Value} {osl : Array (Option Value)} (a b c d e h : Pos)
    (h1 : nsIn K mainGlobals cl = some (some (.ref C))) (h2 : K.lookup C = some (excClassObj n q C N bs bm true sn sub ab col dd k0 k1 k2 k3 k5 "ValueError.__new__")) (h3 : refsVE bm = true)
    (h4 : findIn K (.ref C) "__setattr__" = some (some (.builtin "object.__setattr__"))) (h5 : findIn K (.ref C) "__getattribute__" = some (some (.builtin "BaseException.__getattribute__"))) (h6 : findIn K (.ref C) "__getattr__" = some none)
    (h7 : findIn K (.ref C) "index" = some none) (h8 : findIn K (.ref C) "__init__" = some (some (.ref f))) (h9 : typeIn K (.ref f) = some (.type "function")) (h10 : keepIn K (.ref C) = true) (h11 : subIn K (.ref C) (.type "BaseException") = some true)
    (h12 : typeIn K (.ref C) = some (.type "type")) (h13 : hasDictIn K C = true) (h14 : K.lookup f = some ⟨oc, od, .func (fnOf "__init__" qn (prm a b) (txt c d e h) sco .none .none doc pm an cdv ct), osl⟩) (h15 : codeIn K cdv qn = true) : In K cl :=
  ⟨C, f, h1, fun mg hm => ⟨hm, ⟨n, q, N, bs, bm, sn, sub, ab, col, dd, k0, k1, k2, k3, k5, h2, h3⟩, h4, h5, h6, h7, h8, h9, h10, h11, h12, h13, ⟨qn, oc, od, doc, pm, an, cdv, ct, osl, a, b, c, d, e, h, h14, h15⟩⟩⟩
end Mr.EI
namespace Mr
noncomputable section
open PySem PySem.Spec PyProof.Rows L2
/-! ### raise -/
def sRaise (c : String) (f : EX) : SX := fun e s => (f e s).sbind e fun p s => .ex c p e s
/-! ### try: .., except C as n: .. -/
/-- is the own class c one of these -/
def subE (c d : String) : Bool := c == d || ["WordError", "ValueError", "Exception", "BaseException", "object"].contains d
def sTry (cs : List String) (d : String) (i : Nat) (h : SX) (k : String → PV → SX) : SX := fun e s => match h e s with
  | .ex c p e s => if (cs.contains c && decide (i < e.length)) = true then (if subE c d = true then (match k c p (e.set i none) s with
      | .nx e s => .nx (e.set i none) s
      | .rt p s => .rt p s
      | .bk e s => .bk (e.set i none) s
      | .ct e s => .ct (e.set i none) s
      | _ => .stuck) else .ex c p e s) else .stuck
  | r => r
def eFld (cs : List String) (fld : String) (c : String) (p : PV) : EX := fun _ s => if cs.contains c = true then (if attrOf c = Str.ofString fld then .ok p s else .stuck) else .stuck
def eIsE (cs : List String) (c d : String) : EX := fun _ s => if cs.contains c = true then .ok (.bl (subE c d)) s else .stuck
section
variable {K : PySem.W.Frag} {mg : MG} {g g' : G} {X : Cx} {W : WY} {pos : Pos} {f : EX}
theorem RelEnv.clear {B : Option (Nat × Addr × Addr × String × PV)} {env : Env} {σ : L2.St} (h : RelEnv K mg B g env σ) (i : Nat) : RelEnv K mg none g (env.set i none) (σ.set i none) := h.wipe [i]
theorem RelEnv.hold {env : Env} {σ : L2.St} {i : Nat} {a dd : Addr} {c : String} {p : PV} {w : V} {B : Option (Nat × Addr × Addr × String × PV)} (h : RelEnv K mg B g env σ) (hi : i < env.length) (e : g.H dd = some (.xd [(attrOf c, w)])) (r : RelP K mg g p w) :
    RelEnv K mg (some (i, a, dd, c, p)) g (env.set i none) (σ.set i (some (.ref a))) := by
  refine ⟨by simp [h.len], fun i' a' dd' c' p' z => ?_, fun j q z => ?_⟩
  · cases z
    exact ⟨List.getElem?_set_self (h.len ▸ hi), w, e, r⟩
  · by_cases hj : j = i
    · subst hj
      rw [List.getElem?_set_self hi] at z
      cases z
    · rw [List.getElem?_set_ne (Ne.symm hj)] at z
      obtain ⟨u, z1, z2⟩ := h.at_ j q z
      exact ⟨u, by rw [List.getElem?_set_ne (Ne.symm hj)]; exact z1, z2⟩
theorem is_try {cs : List String} {d : String} {x n : Str} {cv : Value} {i : Nat} {body suite : List Stmt} {b₀ : Stmt} {np pos' : Pos} {h : SX} {k : String → PV → SX} (hW : W.b = none) (hs : X.stack = X.env :: X.outer) (hf : X.env.frame = some X.env.locals) (hN : X.N.Nodup) (hi : X.N[i]? = some n)
    (hln : X.env.kindOf n = some .local) (hc : Names X x cv) (tk : Takes X W.w) (hx : ∀ c ∈ cs, ∀ C, X.mg (Str.ofString c) = some (.ref C) → PySem.W.exmOne X.K (.ref C) cv = some (subE c d))
    (hb : ∀ (V : WX) (pn : List (Addr × Obj)) (xe : Value → Shared → Prop), Takes (X.tr pn xe) V → PassesOwn (model X.prog X.w) X.A X.env xe → ISs (X.tr pn xe) ⟨V, none⟩ body h)
    (hsu : ∀ (a dd C : Addr) (oe : Obj) (c : String) (p : PV) (pn : List (Addr × Obj)), X.mg (Str.ofString c) = some (.ref C) → Zc (.ref C) (some dd) oe → (∃ vs, oe.data = .fields vs) → ISs (X.suite a ((a, oe) :: pn)) ⟨fun _ _ _ _ => False, some (i, a, dd, c, p)⟩ (b₀ :: suite) (k c p)) :
    IS X W (.Try body [.ExceptHandler (some (.Name x np)) (some n) (b₀ :: suite) pos'] [] [] pos) (sTry cs d i h k) := by
  refine PS.weak (ps_try_as (c := cv) (i := i) (tb := fun V => RdS X.K X.mg ⟨V, none⟩ h) (Wout := W.w)
    (ts := fun a cls od D σ H => ∃ (c : String) (C dd : Addr) (p : PV), cls = .ref C ∧ od = some dd ∧ X.mg (Str.ofString c) = some (.ref C) ∧ RdS X.K X.mg ⟨fun _ _ _ _ => False, some (i, a, dd, c, p)⟩ (k c p) D σ H)
    hs hf hN hi hln hc tk hb fun a oe cls od pn hz hd => ⟨fun pins s σ H D I ⟨c, C, dd, p, e1, e2, hm, q⟩ => ?_⟩) fun D σ H q => ?_
  · subst e1 e2
    exact (hsu a dd C oe c p pn hm hz hd).run pins s σ H D I q
  · obtain ⟨g, env, e, ok, re, q⟩ := q
    rw [hW] at re
    refine ⟨g, env, e, ok, re, ?_⟩
    unfold sTry at q
    revert q
    cases h env g.s with
    | nx e s => exact fun q g' σ' x' ok' es re' => q g' σ' x' ok' es (hW ▸ re')
    | rt p s => exact id
    | bk e s => exact fun q g' σ' x' ok' es re' => q g' σ' x' ok' es (hW ▸ re')
    | ct e s => exact fun q g' σ' x' ok' es re' => q g' σ' x' ok' es (hW ▸ re')
    | stuck => exact id
    | ex c p e1 s1 =>
      dsimp only
      intro q g1 cls od σ1 x1 ok1 es re1 r
      by_cases hcs : (cs.contains c && decide (i < e1.length)) = true
      · rw [if_pos hcs] at q
        simp only [Bool.and_eq_true, decide_eq_true_eq, List.contains_iff_mem] at hcs
        have r0 := r
        obtain ⟨C, dd, w, rfl, hm, rfl, hdd, rp⟩ := r
        refine ⟨subE c d, hx c hcs.1 C hm, fun hb a ha => ⟨c, C, dd, p, rfl, rfl, hm, g1, e1.set i none, rfl, ok1, re1.hold hcs.2 hdd rp, ?_⟩, fun hb => ?_⟩
        · rw [if_pos hb] at q
          subst es
          have q := OutS.back ok ok1 x1 q
          revert q
          cases k c p (e1.set i none) g1.s with
          | nx e s => exact fun q g' σ' x' ok' es re' => q g' _ x' ok' es (hW ▸ re'.clear i)
          | rt p s => exact id
          | bk e s => exact fun q g' σ' x' ok' es re' => q g' _ x' ok' es (hW ▸ re'.clear i)
          | ct e s => exact fun q g' σ' x' ok' es re' => q g' _ x' ok' es (hW ▸ re'.clear i)
          | ex c p e s => exact fun q => q.elim
          | stuck => exact id
        · rw [if_neg (by rw [hb]; decide)] at q
          exact q g1 (.ref C) (some dd) σ1 x1 ok1 es (hW ▸ re1) r0
      · rw [if_neg hcs] at q; exact q.elim
end
end
end Mr
namespace Mr
noncomputable section
open PySem PySem.Spec PySem.Calls PyProof.Rows PySem.W
section
variable {prog : Program} {w : World} {A : Around} {E : Value → Shared → Prop} {s : Shared} {K : Frag} {x D : Addr} {ox od : Obj}
/-- what a class D says of its instances' class -/
structure ClsF (K : Frag) (D : Addr) : Prop where
  m1 : findIn K (.ref D) "__getattribute__" = some (some (.builtin "BaseException.__getattribute__"))
  m2 : findIn K (.ref D) "__getattr__" = some none
  m3 : subIn K (.ref D) (.type "BaseException") = some true
  m4 : hasDictIn K D = true
  m5 : findIn K (.ref D) "__class__" = some (some (.builtin "object.__class__"))
  m6 : specialIn K (.builtin "object.__class__") "__get__" = some (some (.builtin "getset_descriptor.__get__"))
  m7 : takesIn K (.builtin "object.__class__") = some true
  m8 : mroIn K D (.type "object") = some true
theorem data_found {C : Addr} {nm : Str} {a g : Value} (c1 : (clsIn K C).isSome = true) (c2 : findIn K (.ref C) nm = some (some a)) (c3 : specialIn K a "__get__" = some (some g)) (c4 : takesIn K a = some true) : findObj K C (some od) nm = some (.bind g a) := by
  obtain ⟨cd, c1⟩ := Option.isSome_iff_exists.mp c1
  simp only [findObj, c1, c2, Option.bind_some]
  simp [c3, c4]
theorem class_of_inst {Q : Option Value → Shared → Prop} (T : ClsF K D) (ki : K.In s.heap) (J : InstAt s.heap x ox D (some od)) (fin : Q (some (.ref D)) { s with toks := s.toks + 1 }) : wpAny (model prog w) A (getAttr? (.ref x) "__class__") Q E s := by
  have fo : findObj K D (some od) "__class__" = some (.bind (.builtin "getset_descriptor.__get__") (.builtin "object.__class__")) := data_found (by obtain ⟨cd, q, _⟩ := any_some T.m4; rw [q]; rfl) T.m5 T.m6 T.m7
  obtain ⟨hp, g, d, t, os⟩ := s
  have k0 := J.type (M := model prog w)
  have k1 := looks_findIn (M := model prog w) ki T.m1
  have k2 := looks_findIn (M := model prog w) ki T.m2
  have k3 := looks_find (M := model prog w) ki J fo
  have k4 : Looks (model prog w) hp (isInstance (.ref x) (.type "BaseException")) true := k0.andThen (looks_subIn ki T.m3)
  have n2 : (Value.builtin "BaseException.__getattribute__" == Value.builtin "object.__getattribute__") = false := by decide +kernel
  have n0 : (false && onTheHeap (Value.builtin "BaseException.__getattribute__")) = false := rfl
  have n1 : (onTheHeap (Value.ref D) && Value.builtin "BaseException.__getattribute__" == Value.builtin "object.__getattribute__") = false := by rw [n2]; rfl
  unfold getAttr? getAttrBy? getAttrBy
  refine wpAny_bind (wpAny_mkText (wpAny_bind (wpAny_attempt (wpAny_holding (wpAny_bind (k0.at (wpAny_bind (k1.at ?_))))))))
  show wpAny _ _ (if (onTheHeap (Value.ref D) && Value.builtin "BaseException.__getattribute__" == Value.builtin "object.__getattribute__") = true then _ else _) _ _ _
  rw [n1, if_neg Bool.false_ne_true]
  unfold getAttrByItsOwn hookBefore
  refine wpAny_bind ?_
  rw [if_pos (show onTheHeap (Value.ref D) = true by rfl)]
  refine k2.at (wpAny_bind (wpAny_attempt (wpAny_holding ?_)))
  unfold callGetattribute
  rw [n0, if_neg Bool.false_ne_true]
  unfold boundAndCalled
  rw [PySem.F.excAttr_ValueError.ga.bind (Value.ref x)]
  refine wpAny_bind (wpAny_pure ?_)
  show wpAny _ _ (call (.builtin "BaseException.__getattribute__") [Value.ref x, Value.str "__class__" t]) _ _ _
  refine wpAny_call (codeAny_call_builtin (PySem.F.excAttr_ValueError.ga.plain) (PySem.F.entry_bexc_ga) ?_)
  refine @check_slot (model prog w) _ _ ⟨hp, g, d, t + 1, os⟩ "BaseException.__getattribute__" "BaseException" "__getattribute__" (Value.ref x) [Value.str "__class__" t] [] _ (by decide +kernel) (by decide +kernel) k4 (PySem.F.args_bexc_ga _ (.str "__class__" t)) ?_
  unfold Builtin.«object.__getattribute__»
  refine wpAny_bind (wpAny_of_eq (a := ((Value.ref x : Value), [Value.str ("__class__" : Str) t])) (by first | rfl | (simp only [slotArgs]; rfl)) ?_)
  refine wpAny_bind (wpAny_pure (wpAny_bind (k0.at (wpAny_bind (k3.at ?_)))))
  show wpAny _ _ (holding [Value.builtin "object.__class__"] (call (.builtin "getset_descriptor.__get__") [Value.builtin "object.__class__", .ref x, .ref D]) >>= ret) _ _ _
  refine wpAny_bind (wpAny_holding (wpAny_call (class_get (s := ⟨hp, g, d, t + 1, os⟩) (ox := ox) (od := some od) ki J T.m8 (wpAny_pure ?_))))
  show wpAny _ _ (handedOut (.ref D)) _ _ _
  rw [handedOut_of (v := Value.ref D) rfl]
  first
    | exact wpAny_pure (wpAny_pure fin)
    | exact wpAny_pure fin
    | exact wpAny_pure (wpAny_bind (wpAny_pure (wpAny_pure fin)))
theorem kit_inst (T : ClsF K D) : KitX K (.ref x) (.ref D) (fun h => InstAt h x ox D (some od)) where
  ty := fun _ _ _ J => J.type
  it := fun _ _ ki _ => by
    obtain ⟨cdD, z, _⟩ := any_some T.m4
    unfold clsIn at z
    split at z
    · rename_i ho
      intro A' Q' E' s' k q
      unfold isType loadHead
      exact wpAny_bind (wpAny_loadPart (k _ _ (ki _ _ ho)) (wpAny_pure q))
    · cases z
  ne := fun h tp dd its n sl ki z0 => by
    obtain ⟨cdD, z, _⟩ := any_some T.m4
    refine Bool.eq_false_iff.mpr fun q => ?_
    obtain rfl : D = tp := Value.ref.inj (beq_iff_eq.mp q)
    unfold clsIn at z
    split at z
    · rename_i ho
      have y := (ki _ _ ho).symm.trans z0
      cases y
    · cases z
  ca := fun ki J k => class_of_inst T ki J k
end
end
end Mr
namespace Mr
noncomputable section
open PySem PySem.Spec PyProof.Rows L2
section
variable {K : PySem.W.Frag} {mg : MG} {g g' : G} {X : Cx} {W : WY} {pos : Pos} {f : EX} {c : String} {C fI : Addr}
theorem call_isB {a D dd : Addr} {oe : Obj} {pn : List (Addr × Obj)} (T : ClsF X.K D) (hz : Zc (.ref D) (some dd) oe) (hf : ∃ vs, oe.data = .fields vs) :
    CallR (X.suite a ((a, oe) :: pn)) (.builtin "isinstance") (fun xs H Q => (∃ ps, H dd = some (.xd ps)) ∧ rIsE X.K D a xs H Q) := by
  intro pins s σ H xs us Q I r ⟨⟨ps, hdd⟩, c, cv, b, e0, hcv, e, q⟩
  subst e0
  rcases r with _ | @⟨_, _, _, _, rx, rr⟩
  rcases rr with _ | @⟨_, _, _, _, rt, rr⟩
  cases rr
  cases rx
  obtain rfl := hcv _ rt
  obtain ⟨pa, _⟩ := I.pin (a, oe) (List.mem_append.mpr (.inl List.mem_cons_self))
  obtain ⟨vs, hv⟩ := hf
  obtain ⟨m, ns, _⟩ : ObjOk X.prog X.w H s.heap dd (.xd ps) := I.hok dd _ hdd
  obtain ⟨od, gdd, _⟩ := lookIn_ns ns
  have J : PySem.W.InstAt s.heap a oe D (some od) := ⟨pa, hz.1, by unfold PySem.W.notCls; rw [hv] <;> rfl, by rw [hz.2]; exact gdd⟩
  exact PySem.W.kia_one (kit_inst T) I.kIn J e (fun z => nomatch z) fun tk => ⟨.bl b, H, I.kept (t' := tk) fun _ _ z => z, rfl, q⟩
/-- isinstance(e, T), e the error that is handled: cv the class -/
theorem ie_isE {cs : List String} {d : String} {i : Nat} {a dd D : Addr} {oe : Obj} {p : PV} {pn : List (Addr × Obj)} {w : WX} {x n : Str} {cv : Value} {vv : V} {p1 p2 p3 : Pos} (T : c ∈ cs → ClsF X.K D) (hz : Zc (.ref D) (some dd) oe) (hf : ∃ vs, oe.data = .fields vs)
    (hk : c ∈ cs → PySem.W.kitOne X.K (.ref D) cv = some (subE c d)) (ht : PE (X.suite a ((a, oe) :: pn)) (.Name x p3) (tC vv)) (hv : ∀ u, L2.RelV vv u → u = cv) (hg : Gl X "isinstance") (hm : X.mg "isinstance" = none)
    (hN : X.N[i]? = some n := by rfl) (hvis : Vis X.env.scope n := by first | exact Or.inl rfl | exact Or.inr (Or.inl rfl) | exact Or.inr (Or.inr rfl)) (hd : (n == ("__debug__" : Str)) = false := by decide) (hcd : (n == ("__classdict__" : Str)) = false := by decide)
    (he : starEach [.Name n p2, .Name x p3] X.env = (false, eval (.Name n p2) X.env) :: starEach [.Name x p3] X.env := by rfl) (he2 : starEach [.Name x p3] X.env = (false, eval (.Name x p3) X.env) :: starEach [] X.env := by rfl)
    (hpl : (backTo pos (starEach [.Name x p3] X.env)).any (·.1) = false := by rfl) :
    IE (X.suite a ((a, oe) :: pn)) ⟨w, some (i, a, dd, c, p)⟩ (.Call (.Name "isinstance" p1) [.Name n p2, .Name x p3] [] pos) (eIsE cs c d) := by
  by_cases hcs : c ∈ cs
  · refine PE.weak (pe_callB (call_isB (T hcs) hz hf) hg hm rfl (pa_cons (pe_var (i := i) (X := X.suite a ((a, oe) :: pn)) hN hvis hd hcd) (pa_cons ht pa_nil he2) he) (by decide) (by decide) he hpl) fun σ H Q q => ?_
    obtain ⟨g, env, rfl, ok, re, q⟩ := q
    obtain ⟨e1, w1, e2, _⟩ := re.er i a dd c p rfl
    refine ⟨_, e1, ⟨_, e2⟩, vv, cv, subE c d, rfl, hv, hk hcs, ?_⟩
    unfold eIsE at q
    rw [if_pos (by simpa using hcs)] at q
    exact OutA.ok ok q (by simp only [RelP])
  · refine ⟨fun pins s σ H Q I q => ?_⟩
    obtain ⟨g, env, rfl, ok, re, q⟩ := q
    unfold eIsE at q
    rw [if_neg (by simpa using hcs)] at q
    exact q.elim
theorem ie_given {cs : List String} {i : Nat} {a dd : Addr} {oe : Obj} {p : PV} {pn : List (Addr × Obj)} {w : WX} {n : Str} {p2 : Pos} (hT : c ∈ cs → attrOf c = Str.ofString "given" → ∃ cl fI, EG.Txt X.K X.mg cl C fI) (hz : Zc (.ref C) (some dd) oe) (hf : ∃ vs, oe.data = .fields vs)
    (hN : X.N[i]? = some n := by rfl) (hvis : Vis X.env.scope n := by first | exact Or.inl rfl | exact Or.inr (Or.inl rfl) | exact Or.inr (Or.inr rfl)) (hd : (n == ("__debug__" : Str)) = false := by decide) (hcd : (n == ("__classdict__" : Str)) = false := by decide)
    (hb : attributeBase (.Name n p2) "given" X.env (eval (.Name n p2) X.env) = eval (.Name n p2) X.env := by rfl) :
    IE (X.suite a ((a, oe) :: pn)) ⟨w, some (i, a, dd, c, p)⟩ (.Attribute (.Name n p2) "given" pos) (eFld cs "given" c p) := by
  by_cases hcs : c ∈ cs
  rotate_left
  · refine ⟨fun pins s σ H Q I q => ?_⟩
    obtain ⟨g, env, rfl, ok, re, q⟩ := q
    unfold eFld at q
    rw [if_neg (by simpa using hcs)] at q
    exact q.elim
  by_cases ha : attrOf c = Str.ofString "given"
  · obtain ⟨cl, fI, T⟩ := hT hcs ha
    refine PE.weak (EG.pe_fld T hz hf (pe_var (i := i) (X := X.suite a ((a, oe) :: pn)) hN hvis hd hcd) hb) fun σ H Q q => ?_
    obtain ⟨g, env, rfl, ok, re, q⟩ := q
    obtain ⟨e1, w1, e2, r⟩ := re.er i a dd c p rfl
    unfold eFld at q
    rw [if_pos (by simpa using hcs), if_pos ha] at q
    rw [ha] at e2
    exact ⟨_, e1, rfl, rfl, dd, w1, rfl, e2, OutA.ok ok q r⟩
  · refine ⟨fun pins s σ H Q I q => ?_⟩
    obtain ⟨g, env, rfl, ok, re, q⟩ := q
    unfold eFld at q
    rw [if_pos (by simpa using hcs), if_neg ha] at q
    exact q.elim
theorem ie_index {cs : List String} {i : Nat} {a dd : Addr} {oe : Obj} {p : PV} {pn : List (Addr × Obj)} {w : WX} {n : Str} {p2 : Pos} (hT : c ∈ cs → attrOf c = Str.ofString "index" → ∃ cl fI, EI.Txt X.K X.mg cl C fI) (hz : Zc (.ref C) (some dd) oe) (hf : ∃ vs, oe.data = .fields vs)
    (hN : X.N[i]? = some n := by rfl) (hvis : Vis X.env.scope n := by first | exact Or.inl rfl | exact Or.inr (Or.inl rfl) | exact Or.inr (Or.inr rfl)) (hd : (n == ("__debug__" : Str)) = false := by decide) (hcd : (n == ("__classdict__" : Str)) = false := by decide)
    (hb : attributeBase (.Name n p2) "index" X.env (eval (.Name n p2) X.env) = eval (.Name n p2) X.env := by rfl) :
    IE (X.suite a ((a, oe) :: pn)) ⟨w, some (i, a, dd, c, p)⟩ (.Attribute (.Name n p2) "index" pos) (eFld cs "index" c p) := by
  by_cases hcs : c ∈ cs
  rotate_left
  · refine ⟨fun pins s σ H Q I q => ?_⟩
    obtain ⟨g, env, rfl, ok, re, q⟩ := q
    unfold eFld at q
    rw [if_neg (by simpa using hcs)] at q
    exact q.elim
  by_cases ha : attrOf c = Str.ofString "index"
  · obtain ⟨cl, fI, T⟩ := hT hcs ha
    refine PE.weak (EI.pe_fld T hz hf (pe_var (i := i) (X := X.suite a ((a, oe) :: pn)) hN hvis hd hcd) hb) fun σ H Q q => ?_
    obtain ⟨g, env, rfl, ok, re, q⟩ := q
    obtain ⟨e1, w1, e2, r⟩ := re.er i a dd c p rfl
    unfold eFld at q
    rw [if_pos (by simpa using hcs), if_pos ha] at q
    rw [ha] at e2
    exact ⟨_, e1, rfl, rfl, dd, w1, rfl, e2, OutA.ok ok q r⟩
  · refine ⟨fun pins s σ H Q I q => ?_⟩
    obtain ⟨g, env, rfl, ok, re, q⟩ := q
    unfold eFld at q
    rw [if_pos (by simpa using hcs), if_neg ha] at q
    exact q.elim
/-! ### raise C(e) -/
theorem raise_of {σ : L2.St} {H : Hp} {D : Ends} {fld : Str} (hm : mg (Str.ofString c) = some (.ref C)) (hat : attrOf c = fld) (q : RdS K mg W (sRaise c f) D σ H) :
    RdL K mg W (eList [f]) σ H fun vs H1 => ∃ v, vs = [v] ∧ ∀ d, H1 d = none → W.w (.ref C) (some d) σ (upd H1 d (.xd [(fld, v)])) := by
  obtain ⟨g, env, rfl, ok, re, q⟩ := q
  refine ⟨g, env, rfl, ok, re, ?_⟩
  revert q
  simp only [sRaise, eList]
  cases f env g.s with
  | exc c p s' => exact fun q g' cls d x' ok' es r => q g' cls d σ x' ok' es (re.ext ok x') r
  | stuck => exact id
  | ok x s1 =>
    intro q g1 vs x1 ok1 e1 r
    simp only [RelPs] at r
    obtain ⟨v, _, rfl, r1, rfl⟩ := r
    refine ⟨v, rfl, fun d hd => ?_⟩
    have x2 := G.new_ext (g := g1) (u := .xd [(fld, v)]) hd
    have ok2 := G.new_ok (u := .xd [(fld, v)]) ok1 hd
    refine q (g1.new d (.xd [(fld, v)])) _ _ σ (x1.trans ok ok1 x2) ok2 e1 ((re.ext ok x1).ext ok1 x2) ⟨C, d, v, rfl, hm, rfl, ?_, r1.ext ok1 x2⟩
    rw [hat]; exact upd_same
theorem is_raiseG {a : Expr} {k : Nat} {p pos2 : Pos} (T : EG.Txt X.K X.mg (Str.ofString c) C fI) (hc : X.calm = true) (hr : Room k X.A) (tk : Takes X W.w) (ha : IE X W a f) (hg : Gl X (Str.ofString c)) (hat : attrOf c = Str.ofString "given" := by decide +kernel) (hn : (Str.ofString c == ("__debug__" : Str)) = false := by decide +kernel)
    (he : starEach [a] X.env = (false, eval a X.env) :: starEach [] X.env := by rfl) (hpl : (backTo pos (starEach [] X.env)).any (·.1) = false := by rfl) :
    IS X W (.Raise (some (.Call (.Name (Str.ofString c) p) [a] [] pos)) none pos2) (sRaise c f) :=
  PS.weak (ps_raise hc tk (EG.pmk T hr (ia_cons ha ia_nil he) hg hn he hpl)) fun D σ H q => raise_of T.g hat q
theorem is_raiseI {a : Expr} {k : Nat} {p pos2 : Pos} (T : EI.Txt X.K X.mg (Str.ofString c) C fI) (hc : X.calm = true) (hr : Room k X.A) (tk : Takes X W.w) (ha : IE X W a f) (hg : Gl X (Str.ofString c)) (hat : attrOf c = Str.ofString "index" := by decide +kernel) (hn : (Str.ofString c == ("__debug__" : Str)) = false := by decide +kernel)
    (he : starEach [a] X.env = (false, eval a X.env) :: starEach [] X.env := by rfl) (hpl : (backTo pos (starEach [] X.env)).any (·.1) = false := by rfl) :
    IS X W (.Raise (some (.Call (.Name (Str.ofString c) p) [a] [] pos)) none pos2) (sRaise c f) :=
  PS.weak (ps_raise hc tk (EI.pmk T hr (ia_cons ha ia_nil he) hg hn he hpl)) fun D σ H q => raise_of T.g hat q
end
end
end Mr
namespace Mr
noncomputable section
open PySem PySem.Spec PyProof.Rows
/-! ### enumerate -/
theorem meets_enumB {v : Value} {o : Obj} {H : Heap → Prop} (B : Begins v o H) : Meets (Builtin.«enumerate.__new__» ⟨[.type "enumerate", v], []⟩) (fun _ R s => H s.heap ∧
    R (.ok (.ret (.ref (s.heap.push o).objs.size))) { s with heap := (s.heap.push o).push { cls := .type "enumerate", data := .fields #[.none, .bool false, .ref s.heap.objs.size, rawInt 0, .none, .none] } }) := by
  refine .of_wp fun prog w A R s h => ?_
  obtain ⟨hp, gs, dr, tk, os⟩ := s
  obtain ⟨h0, h⟩ := h
  have hsub := sub_enumerate
  have begin_ : ∀ {A' : Around} {E : Value → Shared → Prop} {Q : Value → Shared → Prop}, Q (.ref hp.objs.size) ⟨hp.push o, gs, dr, tk, os⟩ → wpAny (model prog w) A' (pyIter v) Q E ⟨hp, gs, dr, tk, os⟩ :=
    fun q => B.iter prog w _ _ ⟨hp, gs, dr, tk, os⟩ _ h0 q
  wp_walk using begin_
  refine wpAny_stack_any fun st => wpAny_pure ?_
  split
  · rename_i c _ _ _ _ _
    cases (c == Value.type "enumerate") <;> (wp_walk using begin_; exact ⟨_, rfl, h⟩)
  · wp_walk using begin_
    exact ⟨_, rfl, h⟩
section
variable {prog : Program} {w : World} {A : Around} {E : Value → Shared → Prop} {s : Shared}
theorem enum_one {v : Value} {o : Obj} {H : Heap → Prop} {Q : Value → Shared → Prop} (B : Begins v o H) (h1 : H s.heap)
    (fin : ∀ h', IsEnum h' (s.heap.objs.size + 1) s.heap.objs.size 0 .none → h'.get? s.heap.objs.size = some o → (∀ b o, s.heap.get? b = some o → h'.get? b = some o) → Q (.ref (s.heap.objs.size + 1)) { s with heap := h' }) :
    wpAny (model prog w) A (call (.type "enumerate") [v]) Q E s := by
  refine callType_new F.called_enumerate (by decide) (F.typeCall_enumerate_1 _) (F.newCall_enumerate_1 _) (fun obj => F.args_object_init_2 obj _) F.entry_enumerate_new (meets_enumB B) ⟨h1, ?_⟩
  have sz : (s.heap.push o).objs.size = s.heap.objs.size + 1 := Heap.size_push ..
  show _ ∧ _
  rw [sz]
  have made : IsEnum ((s.heap.push o).push { cls := .type "enumerate", data := .fields #[.none, .bool false, .ref s.heap.objs.size, rawInt 0, .none, .none] }) (s.heap.objs.size + 1) s.heap.objs.size 0 .none := by
    have q := Heap.get?_push_size (s.heap.push o) (o := { cls := .type "enumerate", data := .fields #[.none, .bool false, .ref s.heap.objs.size, rawInt 0, .none, .none] }) rfl
    rw [sz] at q; exact q
  exact ⟨⟨_, made, rfl⟩, fin _ made (Heap.get?_push_of_some _ (Heap.get?_push_size _ B.free)) fun b o x => Heap.get?_push_of_some _ (Heap.get?_push_of_some _ x)⟩
end
end
end Mr
namespace Mr
noncomputable section
open PySem PySem.Spec PyProof.Rows L2
/-- an iterator over a thing that stands: its state by the turn, what it draws -/
structure Src (P : Program) (w : World) (K : PySem.W.Frag) (it : Addr) (J : It) (S : Nat → Heap → Prop) : Prop where
  keep : ∀ i h h', S i h → (∀ o, h.get? it = some o → h'.get? it = some o) → S i h'
  obj : ∀ i h, S i h → ∃ o, h.get? it = some o ∧ ∀ v, o.data ≠ .cell v
  draw : ∀ (X : Cx), X.prog = P → X.w = w → X.K = K → X.calm = true → ∀ (i : Nat) (pins : List (Addr × Obj)) (s : Shared) (σ : L2.St) (H : Hp), Inv X pins σ H s → S i s.heap → J.go i H →
    ∃ (fp : List Addr) (n : Nat) (Pd : Nat → Value → Prop) (St : Nat → Heap → Prop), Draws P w X.A.in1 it fp n Pd St ∧ St i s.heap ∧ i < n ∧ (∀ b ∈ fp, ∃ o, s.heap.get? b = some o ∧ o.cls ≠ .type "enumerate") ∧ (∀ h, St (i + 1) h → S (i + 1) h) ∧ ∀ u, Pd i u → ∃ x, RelV x u ∧ J.yld i H x H
  fin : ∀ (X : Cx), X.prog = P → X.w = w → X.K = K → X.calm = true → ∀ (i : Nat) (pins : List (Addr × Obj)) (s : Shared) (σ : L2.St) (H : Hp), Inv X pins σ H s → S i s.heap → J.stop i H →
    ∃ (fp : List Addr) (n : Nat) (Pd : Nat → Value → Prop) (St : Nat → Heap → Prop), Draws P w X.A.in1 it fp n Pd St ∧ St n s.heap
/-- with its index, from k on -/
def ItE (k : Int) (J : It) : It := ⟨J.go, fun i H v H' => ∃ T x, v = .ref T ∧ H T = none ∧ H' = upd H T (.tup [.int (k + (i : Nat)), x]) ∧ J.yld i H x H, J.stop⟩
theorem turn_en {P : Program} {w : World} {K : PySem.W.Frag} {elts : List Expr} {kk : Nat} {tpos : Pos} {e it : Addr} {J : It} {S : Nat → Heap → Prop} (k : Int) (D : Src P w K it J S) (hne : e ≠ it) :
    Turn P w K (.Tuple elts kk tpos) (ItE k J) [e, it] e (fun i h => (∃ old, IsEnum h e it (k + (i : Nat)) old) ∧ S i h) where
  mem := List.mem_cons_self
  obj := fun i h st b hb => by
    obtain ⟨⟨old, he⟩, hs⟩ := st
    rcases List.mem_cons.mp hb with rfl | hb
    · exact ⟨_, he, fun v q => nomatch q⟩
    · rw [List.mem_singleton.mp hb]; exact D.obj i h hs
  keep := fun i h h' st kp => by
    obtain ⟨⟨old, he⟩, hs⟩ := st
    exact ⟨⟨old, kp e (by simp) _ he⟩, D.keep i h h' hs fun o q => kp it (by simp) o q⟩
  item := by
    intro X hP hw hK hc i pins s σ H E I hf st hg
    subst hP hw hK
    obtain ⟨⟨old, he⟩, hs⟩ := st
    obtain ⟨fp, n, Pd, St, dr, hst, hlt, hfp, hnx, hy⟩ := D.draw X rfl rfl rfl hc i pins s σ H I hs hg
    have hef : e ∉ fp := fun z => by
      obtain ⟨o, q1, q2⟩ := hfp e z
      have q3 : s.heap.get? e = some _ := he
      rw [q1] at q3
      cases q3
      exact q2 rfl
    have le : e < s.heap.objs.size := Heap.lt_size he
    have li : it < s.heap.objs.size := by
      obtain ⟨o, q, _⟩ := D.obj i _ hs
      exact Heap.lt_size q
    refine wpAny_pyNext_enum_itemC dr he hst hlt hne hef fun u h' tk hu ho hs' hT hsz hk => ?_
    obtain ⟨x, rx, yx⟩ := hy u hu
    refine ⟨_, rfl, wpAny_letOwnedTupleGo_enum (s := { s with heap := h', toks := tk + 1 }) ho fun h'' he' sb => ?_⟩
    have gT : h''.get? s.heap.objs.size = some { cls := .type "tuple", data := .seq #[.int (k + (i : Nat)) tk, u] } := (sb.2 _ (Nat.ne_of_gt le)).trans hT
    have new : ObjOk X.prog X.w (upd H s.heap.objs.size (.tup [.int (k + (i : Nat)), x])) h'' s.heap.objs.size (.tup [.int (k + (i : Nat)), x]) :=
      ⟨by show 2 ≤ sizeLine; decide, [.int (k + (i : Nat)) tk, u], .cons ⟨_, rfl⟩ (.cons rx .nil), ⟨_, gT, rfl, _, rfl⟩⟩
    have I1 : Inv X pins σ (upd H s.heap.objs.size (.tup [.int (k + (i : Nat)), x])) { s with heap := h'', toks := tk + 1 } :=
      I.turnedNew (ch := [e, it]) (fun b ob hb q => (sb.2 b (fun z => hb (by simp [z]))).trans (hk b ob (fun z => hb (by simp [z])) (fun z => hb (by simp [z])) q)) hf (Nat.le_refl _) new
    refine ⟨.ref s.heap.objs.size, _, I1, rfl, ⟨_, x, rfl, I.hok.fresh (Nat.le_refl _), rfl, yx⟩, ⟨⟨u, ?_⟩, D.keep _ _ _ (hnx _ hs') fun o q => (sb.2 it (Ne.symm hne)).trans q⟩, fun b hb => ?_⟩
    · have z : k + ((i + 1 : Nat) : Int) = k + (i : Nat) + 1 := by omega
      rw [z]; exact he'
    · have hb' : b < s.heap.objs.size := by
        rcases List.mem_cons.mp hb with z | z
        · rw [z]; exact le
        · rw [List.mem_singleton.mp z]; exact li
      rw [upd_ne (Nat.ne_of_lt hb')]
      exact (hf b hb).1
  done := by
    intro X hP hw hK hc i pins s σ H E I hf st hg
    subst hP hw hK
    obtain ⟨⟨old, he⟩, hs⟩ := st
    obtain ⟨fp, n, Pd, St, dr, hst⟩ := D.fin X rfl rfl rfl hc i pins s σ H I hs hg
    obtain ⟨f0, f1, f2, f3, f4, f5⟩ := hf it (by simp)
    exact wpAny_pyNext_enum_endD dr he hst fun h' eb => ⟨rfl, I.turned (t' := s.toks) (fun b o hb q => eb b o hb q) f0 f1 f3 f4 f5⟩
  self := fun A i s Q E st h => let ⟨⟨_, he⟩, _⟩ := st; wpAny_pyIter_enum he h
/-- the things xs, which stand by P -/
def ItX (P : Hp → Prop) (xs : List V) : It := ⟨fun i H => P H ∧ i < xs.length, fun i H x H' => H' = H ∧ xs[i]? = some x, fun i H => P H ∧ xs.length ≤ i⟩
theorem src_tup {P : Program} {w : World} {K : PySem.W.Frag} (a it : Addr) (xs : List V) : Src P w K it (ItX (fun H => SqT K H a xs) xs) (fun i h => h.IsTupleIter it a i ∧ i ≤ xs.length) where
  keep := fun i h h' st k => ⟨st.1.at k, st.2⟩
  obj := fun i h st => let ⟨o, e, _, d⟩ := st.1; ⟨o, e, fun v z => by rw [d] at z; cases z⟩
  draw := fun X hP hw hK hc i pins s σ H I st hg => by
    subst hP hw hK
    obtain ⟨hq, hx⟩ := hg
    obtain ⟨its, rv, p, hz⟩ := I.tuple hq
    have hl := rv.length
    obtain ⟨o1, e1, c1, d1⟩ := id st.1
    obtain ⟨o2, e2, c2, n2, d2⟩ := id p
    have ne : a ≠ it := fun z => by rw [z, e1] at e2; cases e2; rw [c1] at c2; exact absurd c2 (by decide)
    refine ⟨_, _, _, _, Draws.tuple (show X.A.in1.handled = none from I.ok.hd hc) it a ne its.toArray, ⟨st.1, p⟩, by simp; omega, fun b hb => ?_, fun h q => ⟨q.1, hx⟩, fun u' q => ?_⟩
    · rcases List.mem_cons.mp hb with rfl | hb
      · exact ⟨o1, e1, by rw [c1]; decide⟩
      · rw [List.mem_singleton.mp hb]; exact ⟨o2, e2, by rw [c2]; decide⟩
    · obtain ⟨u, hu, ru⟩ := rv.get (i := i) (x := xs[i]) (by simp [hx])
      have q' : its[i]? = some u' := by simpa using q
      rw [hu] at q'; cases q'
      exact ⟨xs[i], ru, rfl, by simp [hx]⟩
  fin := fun X hP hw hK hc i pins s σ H I st hg => by
    subst hP hw hK
    obtain ⟨hq, hx⟩ := hg
    obtain ⟨its, rv, p, hz⟩ := I.tuple hq
    have hl := rv.length
    obtain ⟨o1, e1, c1, d1⟩ := id st.1
    obtain ⟨o2, e2, c2, n2, d2⟩ := id p
    have ne : a ≠ it := fun z => by rw [z, e1] at e2; cases e2; rw [c1] at c2; exact absurd c2 (by decide)
    have ei : i = its.length := by omega
    exact ⟨_, _, _, _, Draws.tuple (show X.A.in1.handled = none from I.ok.hd hc) it a ne its.toArray, ⟨by have := st.1; rw [ei] at this; simpa using this, p⟩⟩
theorem src_lst {P : Program} {w : World} {K : PySem.W.Frag} (a it : Addr) (xs : List V) : Src P w K it (ItX (fun H => SqL K H a xs) xs) (fun i h => h.IsListIter it a i ∧ i ≤ xs.length) where
  keep := fun i h h' st k => ⟨st.1.at k, st.2⟩
  obj := fun i h st => let ⟨o, e, _, d⟩ := st.1; ⟨o, e, fun v z => by rw [d] at z; cases z⟩
  draw := fun X hP hw hK hc i pins s σ H I st hg => by
    subst hP hw hK
    obtain ⟨hq, hx⟩ := hg
    obtain ⟨its, rv, p, hz⟩ := I.list hq
    have hl := rv.length
    obtain ⟨o1, e1, c1, d1⟩ := id st.1
    obtain ⟨o2, e2, c2, n2, d2⟩ := id p.isList
    have ne : a ≠ it := fun z => by rw [z, e1] at e2; cases e2; rw [c1] at c2; exact absurd c2 (by decide)
    refine ⟨_, _, _, _, Draws.list (show X.A.in1.handled = none from I.ok.hd hc) it a ne its.toArray, ⟨st.1, p.isList⟩, by simp; omega, fun b hb => ?_, fun h q => ⟨q.1, hx⟩, fun u' q => ?_⟩
    · rcases List.mem_cons.mp hb with rfl | hb
      · exact ⟨o1, e1, by rw [c1]; decide⟩
      · rw [List.mem_singleton.mp hb]; exact ⟨o2, e2, by rw [c2]; decide⟩
    · obtain ⟨u, hu, ru⟩ := rv.get (i := i) (x := xs[i]) (by simp [hx])
      have q' : its[i]? = some u' := by simpa using q
      rw [hu] at q'; cases q'
      exact ⟨xs[i], ru, rfl, by simp [hx]⟩
  fin := fun X hP hw hK hc i pins s σ H I st hg => by
    subst hP hw hK
    obtain ⟨hq, hx⟩ := hg
    obtain ⟨its, rv, p, hz⟩ := I.list hq
    have hl := rv.length
    obtain ⟨o1, e1, c1, d1⟩ := id st.1
    obtain ⟨o2, e2, c2, n2, d2⟩ := id p.isList
    have ne : a ≠ it := fun z => by rw [z, e1] at e2; cases e2; rw [c1] at c2; exact absurd c2 (by decide)
    have ei : i = its.length := by omega
    exact ⟨_, _, _, _, Draws.list (show X.A.in1.handled = none from I.ok.hd hc) it a ne its.toArray, ⟨by have := st.1; rw [ei] at this; simpa using this, p.isList⟩⟩
theorem src_str {P : Program} {w : World} {K : PySem.W.Frag} (it : Addr) (l : List Nat) (t : Tok) : Src P w K it (ItX (fun _ => True) (l.map fun c => V.str ⟨#[c]⟩)) (fun i h => h.IsStrIter it (strIterType ⟨l.toArray⟩) ⟨l.toArray⟩ t i ∧ i ≤ l.length) where
  keep := fun i h h' st k => by
    obtain ⟨⟨o, e, c, d⟩, z⟩ := st
    exact ⟨⟨o, k o e, c, d⟩, z⟩
  obj := fun i h st => let ⟨o, e, _, d⟩ := st.1; ⟨o, e, fun v z => by rw [d] at z; cases z⟩
  draw := fun X hP hw hK hc i pins s σ H I st hg => by
    subst hP hw hK
    obtain ⟨_, hx⟩ := hg
    obtain ⟨o1, e1, c1, d1⟩ := id st.1
    rw [List.length_map] at hx
    refine ⟨_, _, _, _, Draws.text (show X.A.in1.handled = none from I.ok.hd hc) it ⟨l.toArray⟩ t, st.1, by simpa using hx, fun b hb => ?_, fun h q => ⟨q, hx⟩, fun u' q => ?_⟩
    · rw [List.mem_singleton.mp hb]
      refine ⟨o1, e1, ?_⟩
      rw [c1]
      unfold strIterType
      split <;> decide
    · obtain ⟨c, tk, hc', rfl⟩ := q
      have z : l[i]? = some c := by simpa using hc'
      exact ⟨.str ⟨#[c]⟩, ⟨_, rfl⟩, rfl, by rw [List.getElem?_map, z]; rfl⟩
  fin := fun X hP hw hK hc i pins s σ H I st hg => by
    subst hP hw hK
    obtain ⟨_, hx⟩ := hg
    rw [List.length_map] at hx
    have ei : i = l.length := by omega
    exact ⟨_, _, _, _, Draws.text (show X.A.in1.handled = none from I.ok.hd hc) it ⟨l.toArray⟩ t, by have := st.1; rw [ei] at this; simpa using this⟩
/-! the values: with indexes -/
def enumL (k : Int) : List PV → List PV
  | [] => []
  | x :: xs => .tup [.int k, x] :: enumL (k + 1) xs
/-- what is walked by index: not a dict -/
def elemsS : PV → Option (List PV)
  | .tup l => some l
  | .lst l => some l
  | .scr l => some l
  | .str l => some (l.map fun c => .str [c])
  | _ => none
def iEn (f : EX) : Env → MS → Res (List PV) := fun e s => (f e s).bind fun x s => ofO ((elemsS x).map (enumL 0)) s
def iEn2 (f h : EX) : Env → MS → Res (List PV) := fun e s => (f e s).bind fun x s => (h e s).bind fun y s => ofO (match y with
  | .int k => if smallI k = true then (elemsS x).map (enumL k) else none
  | _ => none) s
theorem enumL_get (k : Int) : ∀ (l : List PV) (i : Nat), (enumL k l)[i]? = (l[i]?).map fun x => .tup [.int (k + (i : Nat)), x]
  | [], i => by simp [enumL]
  | x :: xs, 0 => by simp [enumL]
  | x :: xs, i + 1 => by
    simp only [enumL, List.getElem?_cons_succ, enumL_get (k + 1) xs i]
    have e : k + 1 + (i : Nat) = k + ((i + 1 : Nat) : Int) := by omega
    rw [e]
theorem enumL_length (k : Int) : ∀ l : List PV, (enumL k l).length = l.length
  | [] => rfl
  | x :: xs => by simp [enumL, enumL_length (k + 1) xs]
section
variable {K : PySem.W.Frag} {mg : MG} {g : G} {X : Cx} {W : WY} {pos : Pos}
theorem itRel_en {P : Hp → Prop} {l : List PV} {xs : List V} (k : Int) (h : ∀ g', Ext g g' → g'.Ok K mg → P g'.H) (r : RelPs K mg g l xs) (ok : g.Ok K mg) : ItRel K mg g (enumL k l) (ItE k (ItX P xs)) := by
  intro g1 x1 ok1 i
  have hp := h g1 x1 ok1
  have hl := r.length
  refine ⟨fun p hq => ?_, fun hi => ⟨hp, by rw [enumL_length] at hi; omega⟩⟩
  rw [enumL_get] at hq
  obtain ⟨q, hq1, rfl⟩ := Option.map_eq_some_iff.mp hq
  obtain ⟨v, hv, rv⟩ := r.get' hq1
  refine ⟨⟨hp, (List.getElem?_eq_some_iff.mp hv).1⟩, fun v' H' hy => ?_⟩
  obtain ⟨T, y, rfl, hT, rfl, _, hy⟩ := hy
  rw [hv] at hy
  cases hy
  have x2 := G.new_ext (g := g1) (u := .tup [.int (k + (i : Nat)), v]) hT
  exact ⟨_, rfl, x2, G.new_ok ok1 hT, rfl, G.new_tup ok1 hT (RelPs.cons (by simp only [RelP]) (RelPs.cons (rv.ext ok x1) RelPs.nil))⟩
theorem begin_of {p : PV} {v : V} {u : Value} {l : List PV} {pins : List (Addr × Obj)} {σ : L2.St} {s : Shared} (I : Inv X pins σ g.H s) (ok : g.Ok X.K X.mg) (r : RelP X.K X.mg g p v) (ru : L2.RelV v u) (hl : elemsS p = some l) :
    ∃ (o : Obj) (Hb : Heap → Prop) (P : Hp → Prop) (xs : List V) (S : Addr → Nat → Heap → Prop), Begins u o Hb ∧ Hb s.heap ∧ (∀ it, Src X.prog X.w X.K it (ItX P xs) (S it)) ∧ (∀ it h, h.get? it = some o → S it 0 h) ∧ (∀ g', Ext g g' → g'.Ok X.K X.mg → P g'.H) ∧ RelPs X.K X.mg g l xs := by
  unfold elemsS at hl
  split at hl
  · cases hl
    simp only [RelP] at r
    obtain ⟨a, vs, rfl, h1, h2⟩ := r
    obtain ⟨its, rv, p, hz⟩ := I.tuple (SqT.of h1)
    cases ru
    exact ⟨_, _, _, vs, _, begins_tuple a its.toArray, p, fun it => src_tup a it vs, fun it h e => ⟨⟨_, e, rfl, rfl⟩, Nat.zero_le _⟩, fun g' x' ok' => ok.sqT x' (SqT.of h1), h2⟩
  · cases hl
    simp only [RelP] at r
    obtain ⟨a, vs, rfl, ⟨h1, hz0⟩, h2⟩ := r
    obtain ⟨its, rv, p, hz⟩ := I.list (SqL.of h1)
    cases ru
    exact ⟨_, _, _, vs, _, begins_list a its.toArray, p.isList, fun it => src_lst a it vs, fun it h e => ⟨⟨_, e, rfl, rfl⟩, Nat.zero_le _⟩, fun g' x' ok' => SqL.of (ok.stayZ x' h1 hz0), h2⟩
  · cases hl
    simp only [RelP] at r
    obtain ⟨a, vs, rfl, h1, h2⟩ := r
    obtain ⟨its, rv, p, hz⟩ := I.list h1.sq
    cases ru
    exact ⟨_, _, _, vs, _, begins_list a its.toArray, p.isList, fun it => src_lst a it vs, fun it h e => ⟨⟨_, e, rfl, rfl⟩, Nat.zero_le _⟩, fun g' x' ok' => ScrP.sq (g := g') (h1.imp (fun ⟨o, q⟩ => ⟨o, (x'.keeps ok).frz a o _ q⟩) id), h2⟩
  · rename_i l'
    cases hl
    obtain rfl := relS r.d
    obtain ⟨t, rfl⟩ := ru
    refine ⟨_, _, _, _, _, begins_text ⟨l'.toArray⟩ t, trivial, fun it => src_str it l' t, fun it h e => ⟨⟨_, e, rfl, rfl⟩, Nat.zero_le _⟩, fun _ _ _ => trivial, ?_⟩
    clear I r
    induction l' with
    | nil => exact RelPs.nil
    | cons c l ih => exact RelPs.cons (by simp only [RelP]) ih
  · cases hl
theorem ii_en {elts : List Expr} {kk : Nat} {tpos : Pos} {e : Expr} {f : EX} {p : Pos} (hg : Gl X "enumerate") (hm : X.mg "enumerate" = none) (ha : IE X W e f) (hs : starEach [e] X.env = [(false, eval e X.env)] := by rfl) :
    II X W (.Tuple elts kk tpos) (.Call (.Name "enumerate" p) [e] [] pos) (iEn f) := by
  refine ⟨fun pins s σ H R I q => ?_⟩
  have q2 := RdA.seq (R := fun g p v => RelP X.K X.mg g p v) (f := f) (k := fun x e s => ofO ((elemsS x).map (enumL 0)) s) q
  have q3 : RdL X.K X.mg W (eList [f]) σ H fun vs H1 => ∃ v, vs = [v] ∧ ∃ p, ∃ g env, g.H = H1 ∧ g.Ok X.K X.mg ∧ RelEnv X.K X.mg W.b g env σ ∧ RelP X.K X.mg g p v ∧ OutA X.K X.mg (ItRel X.K X.mg) g σ W (ofO ((elemsS p).map (enumL 0)) g.s) R := by
    obtain ⟨g, env, rfl, ok, re, q2⟩ := q2
    refine ⟨g, env, rfl, ok, re, ?_⟩
    revert q2
    simp only [eList]
    cases f env g.s with
    | exc c p s' => exact id
    | stuck => exact id
    | ok x s1 =>
      intro q2 g1 vs x1 ok1 e1 r
      simp only [RelPs] at r
      obtain ⟨v, _, rfl, r1, rfl⟩ := r
      exact ⟨v, rfl, q2 g1 v x1 ok1 e1 r1⟩
  refine Call_ (ld_blt I hg hm boot_enumerate (PyProof.Rows.callWith_type1 (thn ((ia_cons ha ia_nil hs).run pos pins s σ H _ I q3) fun us s1 ⟨vs, H1, I1, r1, v, ev, p, g, env, eH, ok, re, r, q⟩ => ?_) hs rfl))
  subst ev eH
  rcases r1 with _ | @⟨_, u, _, _, rv, rn⟩
  cases rn
  cases hl : elemsS p with
  | none => rw [hl] at q; exact q.elim
  | some l =>
    rw [hl] at q
    obtain ⟨o, Hb, P, xs, S, B, hb, src, s0, hp, rl⟩ := begin_of I1 ok r rv hl
    refine enum_one B hb fun h' he hit hk => wpAny_pyIter_enum he ?_
    have I2 : Inv X pins σ g.H { s1 with heap := h' } := I1.kept (t' := s1.toks) hk
    refine ⟨s1.heap.objs.size + 1, [s1.heap.objs.size + 1, s1.heap.objs.size], _, _, g.H, rfl, I2, turn_en 0 (src s1.heap.objs.size) (Nat.succ_ne_self _), ⟨⟨.none, he⟩, s0 _ _ hit⟩, fun b hb => ?_, OutA.ok ok q (itRel_en 0 hp rl ok)⟩
    have lo : s1.heap.objs.size ≤ b := by
      rcases List.mem_cons.mp hb with z | z
      · rw [z]; exact Nat.le_add_right _ _
      · rw [List.mem_singleton.mp z]; exact Nat.le_refl _
    exact I1.fpOk lo (I1.hok.fresh lo)
theorem smallI_fit {k : Int} (h : smallI k = true) : -(2 ^ 63) ≤ k ∧ k < 2 ^ 63 := by
  have q := smallI_b h
  omega
theorem ii_en2 {elts : List Expr} {kk : Nat} {tpos : Pos} {e e2 : Expr} {f h : EX} {p : Pos} (hg : Gl X "enumerate") (hm : X.mg "enumerate" = none) (ha : IE X W e f) (hb : IE X W e2 h) (hs : starEach [e, e2] X.env = (false, eval e X.env) :: starEach [e2] X.env := by rfl)
    (hpl : (backTo pos (starEach [e2] X.env)).any (·.1) = false := by rfl) (hs2 : starEach [e2] X.env = (false, eval e2 X.env) :: starEach [] X.env := by rfl) : II X W (.Tuple elts kk tpos) (.Call (.Name "enumerate" p) [e, e2] [] pos) (iEn2 f h) := by
  refine ⟨fun pins s σ H R I q => ?_⟩
  let m : PV → PV → Option (List PV) := fun x y => match y with
    | .int k => if smallI k = true then (elemsS x).map (enumL k) else none
    | _ => none
  have q3 : RdL X.K X.mg W (eList [f, h]) σ H fun vs H1 => ∃ v v2, vs = [v, v2] ∧ ∃ p p2, ∃ g, g.H = H1 ∧ g.Ok X.K X.mg ∧ RelP X.K X.mg g p v ∧ RelP X.K X.mg g p2 v2 ∧ OutA X.K X.mg (ItRel X.K X.mg) g σ W (ofO (m p p2) g.s) R := by
    obtain ⟨g, env, rfl, ok, re, q2⟩ := q
    refine ⟨g, env, rfl, ok, re, ?_⟩
    unfold iEn2 at q2
    revert q2
    simp only [eList]
    cases f env g.s with
    | exc c p s' => exact id
    | stuck => exact id
    | ok x s1 =>
      simp only [bind_ok]
      cases h env s1 with
      | exc c p s' => exact id
      | stuck => exact id
      | ok y s2 =>
        intro q2 g1 vs x1 ok1 e1 r
        simp only [RelPs] at r
        obtain ⟨v, _, rfl, r1, v2, _, rfl, r2, rfl⟩ := r
        exact ⟨v, v2, rfl, x, y, g1, rfl, ok1, r1, r2, OutA.back ok ok1 x1 (e1 ▸ q2)⟩
  refine Call_ (ld_blt I hg hm boot_enumerate (PyProof.Rows.callWith_type1 (thn ((ia_cons ha (ia_cons hb ia_nil hs2) hs).run pos pins s σ H _ I q3) fun us s1 ⟨vs, H1, I1, r1, v, v2, ev, p, p2, g, eH, ok, r, r2, q⟩ => ?_) hs hpl))
  subst ev eH
  rcases r1 with _ | @⟨_, u, _, _, rv, rn⟩
  rcases rn with _ | @⟨_, u2, _, _, rv2, rn⟩
  cases rn
  cases p2 with
  | int k =>
    by_cases hk : smallI k = true
    · cases hl : elemsS p with
      | none => simp only [m, hk, if_true, hl] at q; exact q.elim
      | some l =>
        simp only [m, hk, if_true, hl] at q
        simp only [RelP] at r2
        subst r2
        obtain ⟨t, rfl⟩ := rv2
        obtain ⟨o, Hb, P, xs, S, B, hb, src, s0, hp, rl⟩ := begin_of I1 ok r rv hl
        obtain ⟨k1, k2⟩ := smallI_fit hk
        refine enum_begins B hb k1 k2 fun h' he hit hsz hk => wpAny_pyIter_enum he ?_
        have I2 : Inv X pins σ g.H { s1 with heap := h' } := I1.kept (t' := s1.toks) hk
        refine ⟨s1.heap.objs.size + 1, [s1.heap.objs.size + 1, s1.heap.objs.size], _, _, g.H, rfl, I2, turn_en k (src s1.heap.objs.size) (Nat.succ_ne_self _), ⟨⟨.none, by simpa using he⟩, s0 _ _ hit⟩, fun b hb => ?_, OutA.ok ok q (itRel_en k hp rl ok)⟩
        have lo : s1.heap.objs.size ≤ b := by
          rcases List.mem_cons.mp hb with z | z
          · rw [z]; exact Nat.le_add_right _ _
          · rw [List.mem_singleton.mp z]; exact Nat.le_refl _
        exact I1.fpOk lo (I1.hok.fresh lo)
    · simp only [m, hk] at q
      exact q.elim
  | _ => exact q.elim
end
end
end Mr
namespace L2
open PySem
theorem Room.u66 {k : Nat} {A : Around} (r : Room k A) : A.units + 66 < cLine := by have := r.un; omega
theorem Room.u1 {k : Nat} {A : Around} (r : Room k A) : A.units + 1 < cLine := by have := r.un; omega
end L2
namespace Mr
noncomputable section
open PySem PySem.Spec PyProof.Rows L2
/-! ### x[::-1] -/
theorem map_back {α : Type} (d : α) (l : List α) : (List.range l.length).map (fun k => l.getD (l.length - 1 - k) d) = l.reverse := by
  apply List.ext_getElem?
  intro i
  rw [List.getElem?_map]
  by_cases h : i < l.length
  · rw [List.getElem?_range h, List.getElem?_reverse h]
    have e : l.length - 1 - i < l.length := by omega
    simp [List.getD, List.getElem?_eq_getElem e]
  · rw [List.getElem?_eq_none_iff.mpr (by simpa using h), List.getElem?_eq_none_iff.mpr (by simpa using h)]
    rfl
theorem back_str (l : List Nat) : (⟨((PySem.Builtin.Str.strSliceIndices none none (-1) l.length).filterMap (l.toArray[·]?)).toArray⟩ : Str) = ⟨l.reverse.toArray⟩ := by
  apply TL.ext_tl
  show ((PySem.Builtin.Str.strSliceIndices none none (-1) l.length).filterMap (l.toArray[·]?)).toArray.toList = l.reverse.toArray.toList
  rw [picked_rev, List.toList_toArray, List.toList_toArray, filterMap_get, List.map_map, ← map_back 0 l]
  · apply List.map_congr_left
    intro k hk
    have hk' := List.mem_range.mp hk
    have e : l.length - 1 - k < l.length := by omega
    simp [Array.getD, List.getD, e]
  · intro i hi
    obtain ⟨k, hk, rfl⟩ := List.mem_map.mp hi
    have hk' := List.mem_range.mp hk
    simp
    omega
section
variable {K : PySem.W.Frag} {mg : MG} {g : G} {X : Cx} {W : WY} {pos : Pos} {e : Expr} {f : EX}
/-- what stands of x[::-1], x a list or a text -/
def RevM (K : PySem.W.Frag) (mg : MG) : V → Hp → VK → Prop := fun x H Q => ∃ g p z, g.H = H ∧ g.Ok K mg ∧ RelD K mg g p x ∧ pRev p = some z ∧ ∀ g' v, Ext g g' → g'.Ok K mg → g'.s = g.s → RelP K mg g' z v → Q v g'.H
theorem pe_rev {k : Nat} {p1 p2 p3 : Pos} {te : TE} (he : PE X e te) : PE X (.Subscript e (.Slice none none (some (.UnaryOp .USub (.Constant (.int 1) k p1) p2)) p3) pos) (fun σ H Q => te σ H fun x H1 => RevM X.K X.mg x H1 Q) := by
  refine ⟨fun pins s σ H Q I h => ?_⟩
  refine Subscript_ (thn (he.run pins s σ H _ I h) fun v s1 ⟨x, H1, I1, r1, g, p, z, eH, ok, rd, hz, q⟩ => ?_)
  have hst : L2.PO X (some (.UnaryOp .USub (.Constant (.int 1) k p1) p2)) (tPart (tUn (rU fun i => .int (-i)) (tC (.int 1)))) := po_some (pe_un un_neg pe_int)
  refine wpAny_Slice (thn (po_none.run pins s1 σ H1 (fun o H2 => o = none ∧ H2 = H1) I1 ⟨rfl, rfl⟩) fun vl s2 ⟨l, H2, I2, pl, el, e2⟩ => ?_)
  subst el e2
  refine thn (po_none.run pins s2 σ H2 (fun o H3 => o = none ∧ H3 = H2) I2 ⟨rfl, rfl⟩) fun vu s3 ⟨u, H3, I3, pu, eu, e3⟩ => ?_
  subst eu e3
  refine thn (hst.run pins s3 σ H3 (fun o H4 => o = some (-1) ∧ H4 = H3) I3 ⟨1, rfl, -1, rfl, rfl, rfl⟩) fun vs s4 ⟨o, H4, I4, ps, eo, e4⟩ => ?_
  subst eo e4
  have I5 : Inv X pins σ H4 { s4 with heap := s4.heap.push { cls := .type "slice", data := .fields #[vl, vu, vs] } } := I4.kept (t' := s4.toks) fun b ob z => Heap.get?_push_of_some _ z
  subst eH
  show wpAny (model X.prog X.w) X.A (subscriptTail e (.Slice none none (some (.UnaryOp .USub (.Constant (.int 1) k p1) p2)) p3) v (.ref s4.heap.objs.size)) (EP X pins σ Q) X.xe _
  unfold pRev at hz
  split at hz
  · rename_i l
    split at hz
    · rename_i hl
      cases hz
      obtain rfl := relS rd
      obtain ⟨t, rfl⟩ := r1
      obtain ⟨l1, rfl, e1⟩ := IsPart.raw pl
      obtain ⟨l2, rfl, e2⟩ := IsPart.raw pu
      obtain ⟨l3, rfl, e3⟩ := IsPart.raw ps
      cases l1 with
      | some _ => cases e1
      | none =>
        cases l2 with
        | some _ => cases e2
        | none =>
          cases l3 with
          | none => cases e3
          | some it =>
            obtain ⟨i, tt⟩ := it
            cases e3
            refine tail_any (ops := [.str ⟨l.toArray⟩ t, .ref s4.heap.objs.size]) (typeIs_str _ _ _) (PySem.F.slot_str_getitem.lookup) ?_ (by with_unfolding_all rfl)
            refine wpAny_getItem_str_slice (l := none) (u := none) (st := some (-1, tt)) ⟨_, Heap.get?_push_size _ rfl, rfl, rfl⟩ rfl ?_
            have hne : ¬ (((((some ((-1 : Int), tt)).map (·.1)).getD 1 == 1) && (slicePicked ⟨l.toArray⟩ none none (some (-1, tt))).length == (⟨l.toArray⟩ : Str).length) = true) := by simp
            unfold sliceMade
            rw [if_neg hne]
            have eb : (⟨((slicePicked ⟨l.toArray⟩ none none (some ((-1 : Int), tt))).filterMap ((⟨l.toArray⟩ : Str).cps[·]?)).toArray⟩ : Str) = ⟨l.reverse.toArray⟩ := back_str l
            rw [eb]
            refine ⟨by rw [strlen, List.length_reverse]; exact toSz hl, .str _, g.H, I5.tok _, ⟨_, rfl⟩, fin_str ok q⟩
    · cases hz
  · rename_i l
    cases hz
    obtain ⟨a, xs, rfl, h1, h2⟩ := relL rd
    cases r1
    obtain ⟨its, r, ht, hz⟩ := I5.list (SqL.of h1)
    have hlen := r.length
    refine tail_any (ops := [.ref a, .ref s4.heap.objs.size]) ht.isList.typeIs (PySem.slot_list_getitem.lookup) ?_ (by with_unfolding_all rfl)
    refine wpAny_getItem_list_slice ht.isList (Heap.IsSliceOf.new _ vl vu vs) pl pu ps (by decide) ?_ (by rw [List.size_toArray]; omega)
    rw [PySem.W.krv_pick]
    refine ⟨.ref _, _, I5.laid (t' := s4.toks) (o := .lst xs.reverse) (fun b ob z => Heap.get?_push_of_some _ z) (Nat.le_refl _) ⟨by rw [List.length_reverse]; exact hz, _, 0, r.reverse, Heap.get?_push_size _ rfl⟩, rfl, ?_⟩
    exact fin_lst ok h2.reverse q _ (I5.hok.fresh (Nat.le_refl _))
  · cases hz
theorem ie_rev {k : Nat} {p1 p2 p3 : Pos} (he : IE X W e f) : IE X W (.Subscript e (.Slice none none (some (.UnaryOp .USub (.Constant (.int 1) k p1) p2)) p3) pos) (eUn pRev f) :=
  PE.weak (pe_rev he) fun σ H Q q => by
    refine (RdA.seq (R := fun g p v => RelP X.K X.mg g p v) (f := f) (k := fun x e s => ofO (pRev (deref s x)) s) q).imp fun v H1 q => ?_
    obtain ⟨p, g, env, rfl, ok, re, r, q⟩ := q
    cases hz : pRev (deref g.s p) with
    | none => rw [hz] at q; exact q.elim
    | some z =>
      rw [hz] at q
      exact ⟨g, _, z, rfl, ok, r.deref ok, hz, fun g' w x' ok' es r' => q g' w x' ok' es r'⟩
end
/-! ### what is given of the top -/
section
variable {P : Program} {w : World} {K : PySem.W.Frag} {mg : MG} {base : Heap}
theorem Def.zero {k : Nat} {x : Str} {st : Stmt} {ps : List Str} (F : ∃ f fd, mg x = some (.ref f) ∧ Fun K x x st f fd) (hb : ∀ {f : Addr} {fd : FuncData}, Fun K x x st f fd → Binds K fd ps []) : Def P w K mg base k x st ps (fun _ _ => .stuck) := by
  obtain ⟨f, fd, hm, F⟩ := F
  exact ⟨f, fd, hm, F.kp, F, hb F, ⟨fun _ _ _ _ h => h.1, fun _ _ _ _ _ _ _ _ _ _ _ _ _ h => (h.2.elim fun _ h => h.elim fun _ h => h.2.2.2.elim)⟩⟩
/-- what is known of each class of errors that the text names -/
structure Errs (K : PySem.W.Frag) (mg : MG) (cs : List String) : Prop where
  cls : ∀ c ∈ cs, ∀ D, mg (Str.ofString c) = some (.ref D) → ClsF K D
  given : ∀ c ∈ cs, ∀ D, mg (Str.ofString c) = some (.ref D) → attrOf c = Str.ofString "given" → ∃ cl f, EG.Txt K mg cl D f
  index : ∀ c ∈ cs, ∀ D, mg (Str.ofString c) = some (.ref D) → attrOf c = Str.ofString "index" → ∃ cl f, EI.Txt K mg cl D f
theorem Errs.nil : Errs K mg [] := ⟨fun _ h => (nomatch h), fun _ h => (nomatch h), fun _ h => (nomatch h)⟩
theorem Errs.consG {c : String} {cs : List String} {C f : Addr} (h : Errs K mg cs) (T : EG.Txt K mg (Str.ofString c) C f) (k : ClsF K C) (hc : attrOf c ≠ Str.ofString "index" := by decide +kernel) : Errs K mg (c :: cs) where
  cls := fun d hd D hm => by
    rcases List.mem_cons.mp hd with rfl | hd
    · rw [T.g] at hm; cases hm; exact k
    · exact h.cls d hd D hm
  given := fun d hd D hm ha => by
    rcases List.mem_cons.mp hd with rfl | hd
    · rw [T.g] at hm; cases hm; exact ⟨_, _, T⟩
    · exact h.given d hd D hm ha
  index := fun d hd D hm ha => by
    rcases List.mem_cons.mp hd with rfl | hd
    · exact absurd ha hc
    · exact h.index d hd D hm ha
theorem Errs.consI {c : String} {cs : List String} {C f : Addr} (h : Errs K mg cs) (T : EI.Txt K mg (Str.ofString c) C f) (k : ClsF K C) (hc : attrOf c ≠ Str.ofString "given" := by decide +kernel) : Errs K mg (c :: cs) where
  cls := fun d hd D hm => by
    rcases List.mem_cons.mp hd with rfl | hd
    · rw [T.g] at hm; cases hm; exact k
    · exact h.cls d hd D hm
  given := fun d hd D hm ha => by
    rcases List.mem_cons.mp hd with rfl | hd
    · exact absurd ha hc
    · exact h.given d hd D hm ha
  index := fun d hd D hm ha => by
    rcases List.mem_cons.mp hd with rfl | hd
    · rw [T.g] at hm; cases hm; exact ⟨_, _, T⟩
    · exact h.index d hd D hm ha
theorem pa_str : PlainAttrs "str" := PySem.F.plainAttrs_str
end
end
end Mr
namespace Mr
noncomputable section
open PySem PySem.Spec PyProof.Rows L2
/-! ### == of dicts, too, where they are the same -/
def flatEq : PV → PV → Bool
  | .non, .non => true
  | .bl a, .bl b => a == b
  | .int a, .int b => a == b
  | .str a, .str b => a == b
  | _, _ => false
def dsame : List PV → List PV → List PV → List PV → Bool
  | k :: ks, v :: vs, ls, ws => (match dget ls ws k with
    | some w => flatEq v w
    | none => false) && dsame ks vs ls ws
  | _, _, _, _ => true
def pEq2 (x y : PV) : Option Bool := match x, y with
  | .dct false ks vs, .dct false ls ws => if (ks.length == ls.length && dsame ks vs ls ws) = true then some true else none
  | x, y => pEq x y
def pNe2 (x y : PV) : Option Bool := (pEq2 x y).map (!·)
section
variable {K : PySem.W.Frag} {mg : MG} {g : G} {X : Cx}
theorem flatEq_rel {p q : PV} {v w : V} (h : flatEq p q = true) (r : RelP K mg g p v) (r2 : RelP K mg g q w) : v = w ∧ flatB v = true := by
  cases p <;> cases q <;> simp_all [flatEq, RelP, flatB]
theorem dsame_rel {ls : List (Key × V)} {ws : List PV} (rw_ : RelPs K mg g ws (ls.map (·.2))) : ∀ {ks : List (Key × V)} {vs : List PV}, RelPs K mg g vs (ks.map (·.2)) →
    dsame (ks.map fun q => pvKey q.1) vs (ls.map fun q => pvKey q.1) ws = true → ∀ p ∈ ks, valV ls p.1 = some p.2 ∧ flatB p.2 = true
  | [], vs, _, _ => fun p hp => nomatch hp
  | q :: ks, vs, r, h => by
    cases vs with
    | nil => simp [RelPs] at r
    | cons v vs =>
      simp only [List.map_cons, RelPs] at r
      obtain ⟨u, rs, e, r1, r2⟩ := r
      cases e
      simp only [List.map_cons, dsame, Bool.and_eq_true] at h
      intro p hp
      rcases List.mem_cons.mp hp with rfl | hp
      · cases hd : dget (ls.map fun q => pvKey q.1) ws (pvKey p.1) with
        | none => rw [hd] at h; exact absurd h.1 (by simp)
        | some w =>
          rw [hd] at h
          obtain ⟨v2, e2, r3⟩ := (dget_k (k := p.1) rw_).1 w hd
          obtain ⟨e3, e4⟩ := flatEq_rel h.1 r1 r3
          exact ⟨by rw [e2, e3], e4⟩
      · exact dsame_rel rw_ r2 h.2 p hp
theorem pEq2_some {x y : PV} {b : Bool} (h : pEq2 x y = some b) : pEq x y = some b ∨ (b = true ∧ ∃ ks vs ls ws, x = .dct false ks vs ∧ y = .dct false ls ws ∧ ks.length = ls.length ∧ dsame ks vs ls ws = true) := by
  unfold pEq2 at h
  split at h
  · split at h
    · rename_i hc
      cases h
      simp only [Bool.and_eq_true, beq_iff_eq] at hc
      exact .inr ⟨rfl, _, _, _, _, rfl, rfl, hc.1, hc.2⟩
    · cases h
  · exact .inl h
theorem eq_dct {pins : List (Addr × Obj)} {s : Shared} {σ : L2.St} {x y : V} {v u : Value} {ks vs ls ws : List PV} (I : L2.Inv X pins σ g.H s) (rx : L2.RelV x v) (ry : L2.RelV y u) (r1 : RelD X.K X.mg g (.dct false ks vs) x) (r2 : RelD X.K X.mg g (.dct false ls ws) y)
    (hl : ks.length = ls.length) (hd : dsame ks vs ls ws = true) : ∃ (a b : Addr) (kvs lvs : List (Key × V)), v = .ref a ∧ u = .ref b ∧ Rd g.H a (.dK kvs) ∧ Rd g.H b (.dK lvs) ∧ kvs.length = lvs.length ∧ ∀ p ∈ kvs, valV lvs p.1 = some p.2 ∧ flatB p.2 = true := by
  simp only [RelD] at r1 r2
  obtain ⟨a, rfl, ⟨_, kvs, h1, rfl, h3⟩ | ⟨z, _⟩⟩ := r1
  · obtain ⟨b, rfl, ⟨_, lvs, k1, rfl, k3⟩ | ⟨z, _⟩⟩ := r2
    · cases rx
      cases ry
      exact ⟨a, b, kvs, lvs, rfl, rfl, h1, k1, by simpa using hl, dsame_rel k3 h3 hd⟩
    · cases z
  · cases z
theorem o_eq2 (hu : X.A.units + 64 < cLine) : OpR X (compareOp .Eq) (OpM X.K X.mg fun x y => (pEq2 x y).map .bl) := cm_of fun pins s σ x y v u Q g px py b ok I rx ry r1 r2 hm q => by
  rcases pEq2_some hm with hm | ⟨rfl, ks, vs, ls, ws, rfl, rfl, hl, hd⟩
  · obtain ⟨h1, h2, h3, rfl⟩ := pEq_some hm
    obtain ⟨as, q1⟩ := Dp.reads I _ x v (r1.dp h1) rx
    obtain ⟨bs, q2⟩ := Dp.reads I _ y u (r2.dp h2) ry
    refine SeqAt.eq_plain q1 q2 (toD_plain px) (toD_plain py) (by rw [toD_dep, toD_dep]; omega) ?_
    rw [toD_eqv px py h1 h2]
    exact ⟨.bl _, g.H, I, rfl, q⟩
  · obtain ⟨a, b, kvs, lvs, rfl, rfl, e1, e2, hlen, hp⟩ := eq_dct I rx ry r1 r2 hl hd
    obtain ⟨_, ya, va, ra, da⟩ := dk_rd I.hok e1
    obtain ⟨_, yb, vb, rb, db⟩ := dk_rd I.hok e2
    have hv : va.length = vb.length := by rw [← ra.length, ← rb.length]; exact hlen
    exact PySem.W.keq_eq (knd := mixKind X.prog X.w) (r := true) ya yb da db (by omega) (fun _ => hits_all rb ra hp) (L2.fin_bl I q (by simp [hv]))
theorem o_ne2 (hu : X.A.units + 64 < cLine) : OpR X (compareOp .NotEq) (OpM X.K X.mg fun x y => (pNe2 x y).map .bl) := cm_of fun pins s σ x y v u Q g px py b ok I rx ry r1 r2 hm q => by
  obtain ⟨c, hm2, rfl⟩ := Option.map_eq_some_iff.mp hm
  rcases pEq2_some hm2 with hm2 | ⟨rfl, ks, vs, ls, ws, rfl, rfl, hl, hd⟩
  · obtain ⟨h1, h2, h3, rfl⟩ := pEq_some hm2
    obtain ⟨as, q1⟩ := Dp.reads I _ x v (r1.dp h1) rx
    obtain ⟨bs, q2⟩ := Dp.reads I _ y u (r2.dp h2) ry
    refine SeqAt.ne_plain q1 q2 (toD_plain px) (toD_plain py) (by rw [toD_dep, toD_dep]; omega) ?_
    rw [toD_eqv px py h1 h2]
    exact ⟨.bl _, g.H, I, rfl, q⟩
  · obtain ⟨a, b, kvs, lvs, rfl, rfl, e1, e2, hlen, hp⟩ := eq_dct I rx ry r1 r2 hl hd
    obtain ⟨_, ya, va, ra, da⟩ := dk_rd I.hok e1
    obtain ⟨_, yb, vb, rb, db⟩ := dk_rd I.hok e2
    have hv : va.length = vb.length := by rw [← ra.length, ← rb.length]; exact hlen
    exact PySem.W.keq_ne (knd := mixKind X.prog X.w) (r := true) ya yb da db (by omega) (fun _ => hits_all rb ra hp) (L2.fin_bl I q (by simp [hv]))
end
end
end Mr
namespace Mr
noncomputable section
open PySem PySem.Spec PyProof.Rows L2
/-! ### the end -/
def FnIn (K : PySem.W.Frag) (x : Str) (st : Stmt) : Prop := ∃ (f : Addr) (oc : Value) (od an : Option Addr) (osl : Array (Option Value)) (kV doc pm cdv ct : Value), PySem.W.nsIn K mainGlobals x = some (some (.ref f)) ∧
  K.lookup f = some ⟨oc, od, .func (PySem.W.fnOf x x (defArgs st) (defBody st) (defScope st) .none kV doc pm an cdv ct), osl⟩ ∧ PySem.W.codeIn K cdv x = true ∧ PySem.W.keepIn K (.ref f) = true
section
variable {K : PySem.W.Frag} {mg : MG} {h : Heap} {x : Str} {st : Stmt}
theorem fn_in {f : Addr} {oc : Value} {od an : Option Addr} {osl : Array (Option Value)} {kV doc pm cdv ct : Value} (a : PySem.W.nsIn K mainGlobals x = some (some (.ref f)))
    (l : K.lookup f = some ⟨oc, od, .func (PySem.W.fnOf x x (defArgs st) (defBody st) (defScope st) .none kV doc pm an cdv ct), osl⟩) (c : PySem.W.codeIn K cdv x = true) (k : PySem.W.keepIn K (.ref f) = true) : FnIn K x st := ⟨f, oc, od, an, osl, kV, doc, pm, cdv, ct, a, l, c, k⟩
theorem FnIn.get (X : K.In h) (G : h.Ns mainGlobals mg) (F : FnIn K x st) : ∃ f fd, mg x = some (.ref f) ∧ Fun K x x st f fd := by
  obtain ⟨f, oc, od, an, osl, kV, doc, pm, cdv, ct, a, l, c, k⟩ := F
  exact ⟨f, _, PySem.W.mg_of X G a, fun_mk (st := st) l c k⟩
/-- two classes of errors -/
theorem cls_pair {D C : Addr} {b : Bool} (h1 : PySem.W.subIn K (.ref C) (.type "BaseException") = some true) (hd : PySem.W.hasDictIn K C = true) (ht : PySem.W.typeIn K (.ref C) = some (.type "type")) (h4 : PySem.W.subIn K (.ref D) (.ref C) = some b) (he : D = C → b = true) :
    PySem.W.exmOne K (.ref D) (.ref C) = some b ∧ PySem.W.kitOne K (.ref D) (.ref C) = some b := by
  refine ⟨PySem.W.exm_ref h1 hd ht h4, ?_⟩
  unfold PySem.W.kitOne
  by_cases e : D = C
  · rw [he e, e, if_pos (by simp)]
  · rw [if_neg (by simpa using e)]
    obtain ⟨cd, hc, _⟩ := PySem.W.any_some hd
    have e2 : ((PySem.W.clsIn K C).isSome && PySem.W.typeIn K (.ref C) == some (.type "type")) = true := by rw [hc, ht] <;> rfl
    show (if ((PySem.W.clsIn K C).isSome && PySem.W.typeIn K (.ref C) == some (.type "type")) = true then PySem.W.subIn K (.ref D) (.ref C) else none) = some b
    rw [if_pos e2]
    exact h4
end
/-- what the class cl says of its instances' class -/
def ClsIn (K : PySem.W.Frag) (cl : Str) : Prop := ∃ C, PySem.W.nsIn K mainGlobals cl = some (some (.ref C)) ∧ ClsF K C
theorem clsIn_of {K : PySem.W.Frag} {cl : Str} {C : Addr} (h0 : PySem.W.nsIn K mainGlobals cl = some (some (.ref C))) (h1 : PySem.W.findIn K (.ref C) "__getattribute__" = some (some (.builtin "BaseException.__getattribute__"))) (h2 : PySem.W.findIn K (.ref C) "__getattr__" = some none)
    (h3 : PySem.W.subIn K (.ref C) (.type "BaseException") = some true) (h4 : PySem.W.hasDictIn K C = true) (h5 : PySem.W.findIn K (.ref C) "__class__" = some (some (.builtin "object.__class__")))
    (h6 : PySem.W.specialIn K (.builtin "object.__class__") "__get__" = some (some (.builtin "getset_descriptor.__get__"))) (h7 : PySem.W.takesIn K (.builtin "object.__class__") = some true) (h8 : PySem.W.mroIn K C (.type "object") = some true) : ClsIn K cl := ⟨C, h0, ⟨h1, h2, h3, h4, h5, h6, h7, h8⟩⟩
/-- a class of errors and one that may be asked for -/
def PairIn (K : PySem.W.Frag) (d c : Str) (b : Bool) : Prop := ∃ D C, PySem.W.nsIn K mainGlobals d = some (some (.ref D)) ∧ PySem.W.nsIn K mainGlobals c = some (some (.ref C)) ∧ PySem.W.exmOne K (.ref D) (.ref C) = some b ∧ PySem.W.kitOne K (.ref D) (.ref C) = some b
theorem pairIn_of {K : PySem.W.Frag} {d c : Str} {D C : Addr} {b : Bool} (a1 : PySem.W.nsIn K mainGlobals d = some (some (.ref D))) (a2 : PySem.W.nsIn K mainGlobals c = some (some (.ref C))) (h1 : PySem.W.subIn K (.ref C) (.type "BaseException") = some true) (hd : PySem.W.hasDictIn K C = true)
    (ht : PySem.W.typeIn K (.ref C) = some (.type "type")) (h4 : PySem.W.subIn K (.ref D) (.ref C) = some b) (he : D = C → b = true) : PairIn K d c b := ⟨D, C, a1, a2, cls_pair h1 hd ht h4 he⟩
section
variable {K : PySem.W.Frag} {mg : MG} {h : Heap}
theorem pairs_get {c : String} {cs : List String} (X : K.In h) (G : h.Ns mainGlobals mg) (n : ∃ C, PySem.W.nsIn K mainGlobals (Str.ofString c) = some (some (.ref C))) (a : ∀ d ∈ cs, PairIn K (Str.ofString d) (Str.ofString c) (subE d c)) :
    ∃ C, mg (Str.ofString c) = some (.ref C) ∧ ∀ d ∈ cs, ∀ D, mg (Str.ofString d) = some (.ref D) → PySem.W.exmOne K (.ref D) (.ref C) = some (subE d c) ∧ PySem.W.kitOne K (.ref D) (.ref C) = some (subE d c) := by
  obtain ⟨C, n⟩ := n
  refine ⟨C, PySem.W.mg_of X G n, fun d hd D hm => ?_⟩
  obtain ⟨D', C', e1, e2, e3⟩ := a d hd
  rw [PySem.W.mg_of X G e1] at hm
  cases hm
  rw [n] at e2
  cases e2
  exact e3
theorem errs_G {c : String} {cs : List String} (X : K.In h) (G : h.Ns mainGlobals mg) (a : EG.In K (Str.ofString c)) (b : ClsIn K (Str.ofString c)) (r : Errs K mg cs) (hc : attrOf c ≠ Str.ofString "index" := by decide +kernel) : Errs K mg (c :: cs) := by
  obtain ⟨C, f, n, T⟩ := a
  obtain ⟨C', n', k⟩ := b
  rw [n] at n'
  cases n'
  exact r.consG (T mg (PySem.W.mg_of X G n)) k hc
theorem errs_I {c : String} {cs : List String} (X : K.In h) (G : h.Ns mainGlobals mg) (a : EI.In K (Str.ofString c)) (b : ClsIn K (Str.ofString c)) (r : Errs K mg cs) (hc : attrOf c ≠ Str.ofString "given" := by decide +kernel) : Errs K mg (c :: cs) := by
  obtain ⟨C, f, n, T⟩ := a
  obtain ⟨C', n', k⟩ := b
  rw [n] at n'
  cases n'
  exact r.consI (T mg (PySem.W.mg_of X G n)) k hc
theorem err_G {cl : Str} (X : K.In h) (G : h.Ns mainGlobals mg) (a : EG.In K cl) : ∃ C f, EG.Txt K mg cl C f := by
  obtain ⟨C, f, n, T⟩ := a
  exact ⟨C, f, T mg (PySem.W.mg_of X G n)⟩
theorem err_I {cl : Str} (X : K.In h) (G : h.Ns mainGlobals mg) (a : EI.In K cl) : ∃ C f, EI.Txt K mg cl C f := by
  obtain ⟨C, f, n, T⟩ := a
  exact ⟨C, f, T mg (PySem.W.mg_of X G n)⟩
theorem glob_get {x : Str} {v : Tok → Value} (X : K.In h) (G : h.Ns mainGlobals mg) (a : ∃ t, PySem.W.nsIn K mainGlobals x = some (some (v t))) : ∃ t, mg x = some (v t) := a.imp fun _ q => PySem.W.mg_of X G q
end
theorem n_in {K : PySem.W.Frag} {x : Str} {C : Addr} (h : PySem.W.nsIn K mainGlobals x = some (some (.ref C))) : ∃ C, PySem.W.nsIn K mainGlobals x = some (some (.ref C)) := ⟨C, h⟩
theorem gs_in {K : PySem.W.Frag} {x y : Str} {t : Tok} (h : PySem.W.nsIn K mainGlobals x = some (some (.str y t))) : ∃ t, PySem.W.nsIn K mainGlobals x = some (some (.str y t)) := ⟨t, h⟩
theorem gi_in {K : PySem.W.Frag} {x : Str} {i : Int} {t : Tok} (h : PySem.W.nsIn K mainGlobals x = some (some (.int i t))) : ∃ t, PySem.W.nsIn K mainGlobals x = some (some (.int i t)) := ⟨t, h⟩
/-- the law's promise at its script -/
def LawSp (K : PySem.W.Frag) : Sp := fun vs H Q _ => ∃ (a : Addr) (ns : List Int), vs = [.ref a] ∧ ns.length ≤ 63 ∧ (∀ z ∈ ns, Builtin.Int.intBits z ≤ 1048576) ∧ Only H ∧ SqL K H a (ns.map V.int) ∧ ∀ H', Q (.bl true) H'
def ms0 : MS := ⟨0, fun _ => none⟩
theorem ints_rel {K : PySem.W.Frag} {mg : MG} {g : G} : ∀ ns : List Int, RelPs K mg g (ns.map PV.int) (ns.map V.int)
  | [] => RelPs.nil
  | n :: r => RelPs.cons (by simp only [RelP]) (ints_rel r)
theorem law_walk {l : PySem.W.OpenLaw} {k : Nat} {q : Program} {loose : List Str} {XP : (Str → Option Value) → Heap → Prop} {YP : World → Heap → Prop} {d : DefRec} {K : Params → PySem.W.Frag} {st : Stmt} {F : FN} {Top : PySem.W.Frag → MG → Prop}
    (hn : l.most = some 63) (hdf : d.params.defaults = []) (hd : d.name = "law") (hr : Room k callerA) (hY : ∀ (w : World) (h : Heap), YP w h → (K w.params).In h)
    (D : ∀ {P : Program} {w : World} {K : PySem.W.Frag} {mg : MG} {base : Heap}, Top K mg → Def P w K mg base k "law" st ["script"] F)
    (hb : ∀ (kV doc pm : Value) (an : Option Addr) (cdv ct : Value) (u : Value), bindArgs (PySem.W.fnOf "law" "law" (defArgs st) (defBody st) (defScope st) .none kV doc pm an cdv ct) ⟨[u], []⟩ = pure [(("script" : Str), u)])
    (T : ∀ (w : World) (mg : MG) (h : Heap), (K w.params).In h → h.Ns mainGlobals mg → Top (K w.params) mg)
    (pure_ : ∀ ns : List Int, ns.length ≤ 63 → (∀ z ∈ ns, Builtin.Int.intBits z ≤ 1048576) → ∃ s, F [.scr (ns.map PV.int)] ms0 = .ok (.bl true) s) :
    PySem.W.WalkO q loose XP YP l.row.toRowW d [] (fun f vs => PySem.call f vs) := by
  refine walk_ofB (n := 63) (k := k) (x := "script") (CX := fun w => L2.CX l.prog w) (sp := fun w => LawSp (K w.params)) hn (by decide) hdf hr hY (fun w mg fa h KX G hmg => ?_) (fun w H a ns hl hbits hO hS => ⟨a, ns, rfl, hl, hbits, hO, hS, fun _ => rfl⟩) (fun w H s e s' ⟨_, _, _, _, _, _, _, _, _, _, _, _, z⟩ => z)
  have TT := T w mg h KX G
  obtain ⟨f, fd, hm, hk, F0, hbd, hF⟩ := (D (P := l.prog) (w := w) (base := h) TT).ex
  rw [hd, hm] at hmg
  cases hmg
  refine ⟨fd, fun s u => ?_, fun base hb1 hb2 => ?_⟩
  · obtain ⟨oc, od, kV, doc, pm, an, cdv, ct, osl, rfl, _⟩ := F0.ex
    exact .of_eq (hb kV doc pm an cdv ct u)
  · obtain ⟨f2, fd2, hm2, hk2, F2, hbd2, hF2⟩ := (D (P := l.prog) (w := w) (base := base) TT).ex
    rw [hm] at hm2
    cases hm2
    have efd : fd2 = fd := by
      obtain ⟨oc, od, kV, doc, pm, an, cdv, ct, osl, rfl, lk, _⟩ := F0.ex
      obtain ⟨oc2, od2, kV2, doc2, pm2, an2, cdv2, ct2, osl2, rfl, lk2, _⟩ := F2.ex
      rw [lk] at lk2
      cases lk2
      rfl
    subst efd
    refine hF2.imp fun vs H Q E ⟨a, ns, ev, hl, hbits, hO, hS, hQ⟩ => ?_
    subst ev
    obtain ⟨s, hs⟩ := pure_ ns hl hbits
    refine ⟨rfl, ⟨H, fun _ => False, fun _ => 0, ms0⟩, [.scr (ns.map PV.int)], rfl, ⟨fun _ _ => rfl, fun _ _ h => absurd rfl h, fun _ h => absurd rfl h, fun _ h => h.elim, fun _ _ h => nomatch h⟩, ?_, ?_⟩
    · refine RelPs.cons ?_ RelPs.nil
      simp only [RelP]
      refine ⟨a, _, rfl, ?_, ints_rel ns⟩
      rcases hS with (h1 | h1) | h1
      · rcases hO a with z | ⟨o, xs, z⟩
        · rw [z] at h1; cases h1
        · rw [z] at h1; cases h1
      · exact .inl h1
      · exact .inr h1
    · show (match F [.scr (ns.map PV.int)] ms0 with
        | .ok p s' => _
        | .exc c p s' => _
        | .stuck => False)
      rw [hs]
      intro g' v x ok es r
      simp only [RelP] at r
      subst r
      exact hQ _
end
end Mr
namespace Mr
noncomputable section
open PySem PySem.Spec PyProof.Rows L2
/-! ### plain evaluation -/
section
variable {α β : Type} {e : Env} {s : MS} {f h k : EX} {fs : List EX} {p q : PV} {c d : ET} {i : Nat}
@[simp] theorem ap_var : eVar i e s = match e[i]? with
  | some (some p) => .ok p s
  | _ => .stuck := rfl
@[simp] theorem ap_c : eC p e s = .ok p s := rfl
@[simp] theorem ap_bin {op : PV → PV → Option PV} : eBin op f h e s = (f e s).bind fun x s => (h e s).bind fun y s => ofO (op (deref s x) (deref s y)) s := rfl
@[simp] theorem ap_cm {m : PV → PV → Option Bool} : eCm m f h e s = (f e s).bind fun x s => (h e s).bind fun y s => ofO ((m (deref s x) (deref s y)).map .bl) s := rfl
@[simp] theorem ap_un {m : PV → Option PV} : eUn m f e s = (f e s).bind fun x s => ofO (m (deref s x)) s := rfl
@[simp] theorem ap_tru : tTru f e s = (f e s).bind fun x s => ofO (truth (deref s x)) s := rfl
@[simp] theorem ap_tcm {m : PV → PV → Option Bool} : tCm m f h e s = (f e s).bind fun x s => (h e s).bind fun y s => ofO (m (deref s x) (deref s y)) s := rfl
@[simp] theorem ap_and2 : tAnd2 c d e s = (c e s).bind fun b s => if b = true then d e s else .ok false s := rfl
@[simp] theorem ap_or2 : tOr2 c d e s = (c e s).bind fun b s => if b = true then .ok true s else d e s := rfl
@[simp] theorem ap_nt : tNt c e s = (c e s).bind fun b s => .ok (!b) s := rfl
@[simp] theorem ap_eand : eAnd2 f h e s = (f e s).bind fun x s => (ofO (truth (deref s x)) s).bind fun b s => if b = true then h e s else .ok x s := rfl
@[simp] theorem ap_eor : eOr2 f h e s = (f e s).bind fun x s => (ofO (truth (deref s x)) s).bind fun b s => if b = true then .ok x s else h e s := rfl
@[simp] theorem ap_ent : eNt f e s = (f e s).bind fun x s => (ofO (truth (deref s x)) s).bind fun b s => .ok (.bl (!b)) s := rfl
@[simp] theorem ap_if : eIf c f h e s = (c e s).bind fun b s => if b = true then f e s else h e s := rfl
@[simp] theorem ap_nil : eList [] e s = .ok [] s := rfl
@[simp] theorem ap_cons : eList (f :: fs) e s = (f e s).bind fun x s => (eList fs e s).bind fun xs s => .ok (x :: xs) s := rfl
@[simp] theorem ap_tup : eTup fs e s = (eList fs e s).bind fun xs s => if xs.length ≤ LIM then .ok (.tup xs) s else .stuck := rfl
@[simp] theorem ap_lst : eLst fs e s = (eList fs e s).bind fun xs s => if xs.length ≤ LIM then .ok (.lst xs) s else .stuck := rfl
@[simp] theorem ap_lstM : eLstM fs e s = (eList fs e s).bind fun xs s => if xs.length ≤ LIM then .ok (.obj s.n) (s.new (.lst xs)) else .stuck := rfl
@[simp] theorem ap_call {F : FN} : eCall F fs e s = (eList fs e s).bind fun xs s => F xs s := rfl
@[simp] theorem ap_b {m : List PV → Option PV} : eB m fs e s = (eList fs e s).bind fun xs s => ofO (m (xs.map (deref s))) s := rfl
@[simp] theorem ap_mt {T : String} {m : PV → List PV → Option PV} : eMt T m f fs e s = (f e s).bind fun o s => if recv T (deref s o) = true then (eList fs e s).bind fun xs s => ofO (m (deref s o) (xs.map (deref s))) s else .stuck := rfl
@[simp] theorem ap_cut {l u : EO} : eCut f l u e s = (f e s).bind fun x s => (l e s).bind fun l s => (u e s).bind fun u s => ofO (pCut (deref s x) l u) s := rfl
@[simp] theorem ap_none : oNone e s = .ok none s := rfl
@[simp] theorem ap_chain {m m' : PV → PV → Option Bool} : eChain m m' f h k e s = (f e s).bind fun x s => (h e s).bind fun y s => (ofO (m (deref s x) (deref s y)) s).bind fun b s =>
  if b = true then (k e s).bind fun z s => (ofO (m' (deref s y) (deref s z)) s).bind fun b s => .ok (.bl b) s else .ok (.bl false) s := rfl
@[simp] theorem ap_comp {vs : List Nat} {fi : Env → MS → Res (List PV)} {as : AS} {tt : ET} : eComp vs fi as tt f e s = (fi e s).bind fun xs s => if xs.length ≤ LIM then (compM as tt f (wipeE e vs) xs s).calm.bind fun ys s => .ok (.lst ys) s else .stuck := rfl
@[simp] theorem ap_seq : iSeq f e s = (f e s).bind fun x s => ofO (elems x) s := rfl
@[simp] theorem ap_rng {m : List PV → Option (List PV)} : iRng m fs e s = (eList fs e s).bind fun xs s => ofO (m xs) s := rfl
@[simp] theorem ap_en : iEn f e s = (f e s).bind fun x s => ofO ((elemsS x).map (enumL 0)) s := rfl
@[simp] theorem ap_yes : tYs e s = .ok true s := rfl
@[simp] theorem ap_osome : oSome f e s = (f e s).bind fun x s => ofO (oInt x) s := rfl
@[simp] theorem lift_some {d : Int} : (do let a ← some d; pure (some a) : Option (Option Int)) = some (some d) := rfl
@[simp] theorem oInt_int {z : Int} : oInt (.int z) = some z := rfl
/-! statements -/
variable {u v : SX}
@[simp] theorem ap_snil : sNil e s = .nx e s := rfl
@[simp] theorem ap_sret : sRet f e s = (f e s).sbind e fun x s => .rt x s := rfl
@[simp] theorem ap_sdo : sDo f e s = (f e s).sbind e fun _ s => .nx e s := rfl
@[simp] theorem ap_sif : sIf c u v e s = (c e s).sbind e fun b s => if b = true then u e s else v e s := rfl
@[simp] theorem ap_sset {as : AS} : sSet f as e s = (f e s).sbind e fun x s => match as x e s with
  | some (e, s) => .nx e s
  | none => .stuck := rfl
@[simp] theorem ap_sfor {fi : Env → MS → Res (List PV)} {as : AS} : sFor fi as u e s = (fi e s).sbind e fun xs s => forM as u xs e s := rfl
@[simp] theorem ap_sraise {x : String} : sRaise x f e s = (f e s).sbind e fun p s => .ex x p e s := rfl
@[simp] theorem ap_par {is : List Nat} : sPar is fs e s = (eList fs e s).sbind e fun xs s => match setAll is xs e with
  | some e => .nx e s
  | none => .stuck := rfl
/-- one after the other -/
def SRes.then (r : SRes) (k : SX) : SRes := match r with
  | .nx e s => k e s
  | r => r
@[simp] theorem ap_sseq : sSeq u v e s = (u e s).then v := by
  unfold sSeq SRes.then; cases u e s <;> rfl
@[simp] theorem then_nx : (SRes.nx e s).then u = u e s := rfl
@[simp] theorem then_rt : (SRes.rt p s).then u = .rt p s := rfl
@[simp] theorem then_ex {x : String} : (SRes.ex x p e s).then u = .ex x p e s := rfl
@[simp] theorem then_bk : (SRes.bk e s).then u = .bk e s := rfl
@[simp] theorem then_ct : (SRes.ct e s).then u = .ct e s := rfl
@[simp] theorem then_st : SRes.stuck.then u = .stuck := rfl
@[simp] theorem ap_name : aName i p e s = some (e.set i (some p), s) := rfl
@[simp] theorem d_non : deref s .non = .non := rfl
@[simp] theorem d_bl {b : Bool} : deref s (.bl b) = .bl b := rfl
@[simp] theorem d_int {z : Int} : deref s (.int z) = .int z := rfl
@[simp] theorem d_str {l : List Nat} : deref s (.str l) = .str l := rfl
@[simp] theorem d_tup {l : List PV} : deref s (.tup l) = .tup l := rfl
@[simp] theorem d_lst {l : List PV} : deref s (.lst l) = .lst l := rfl
@[simp] theorem d_scr {l : List PV} : deref s (.scr l) = .scr l := rfl
@[simp] theorem d_dct {t : Bool} {a b : List PV} : deref s (.dct t a b) = .dct t a b := rfl
@[simp] theorem d_ty {t : String} : deref s (.ty t) = .ty t := rfl
@[simp] theorem t_bl {b : Bool} : truth (.bl b) = some b := rfl
@[simp] theorem t_non : truth .non = some false := rfl
def SRes.fin (r : SRes) : Res PV := match r with
  | .rt v s => .ok v s
  | .nx _ s => .ok .non s
  | .ex c p _ s => .exc c p s
  | _ => .stuck
theorem defF_ap {n : Nat} {args : List PV} : defF n u args s = (u (startE n args) s).fin := by
  unfold defF SRes.fin; cases u (startE n args) s <;> rfl
@[simp] theorem fin_rt : (SRes.rt p s).fin = .ok p s := rfl
@[simp] theorem fin_nx : (SRes.nx e s).fin = .ok .non s := rfl
@[simp] theorem fin_ex {x : String} : (SRes.ex x p e s).fin = .exc x p s := rfl
end
end
end Mr
namespace Lw
open PySem PySem.Spec PyProof.Rows L2 Mr
def top (i : Nat) : Stmt := PySem.Challenge.pw_leastwords_k04_whole_turns_of_words.main.body.getD i (.Pass ⟨0, 0, 0, 0⟩)
/-! ### what each def computes -/
noncomputable section
def m_is_whole : FN := defF 1 (sRet (eAnd2 (eB bIsi [eVar 0, eC (.ty "int")]) (eNt (eB bIsi [eVar 0, eC (.ty "bool")]))))
def m_is_between : FN := defF 3 (sRet (eAnd2 (eCall m_is_whole [eVar 0]) (eChain pLe pLe (eVar 1) (eVar 0) (eVar 2))))
def m_is_text_of : FN := defF 3 (sRet (eAnd2 (eB bIsi [eVar 0, eC (.ty "str")]) (eB bAll [eComp [2] (iSeq (eVar 0)) (aName 2) (tYs) (eCm pIn (eVar 2) (eVar 1))])))
def m_letters_of : FN := defF 1 (sRet (eCut (eC (.str [97, 98, 99])) (oNone) (oSome (eVar 0))))
def m_is_word_of : FN := defF 2 (sRet (eAnd2 (eCall m_is_text_of [eVar 1, eCall m_letters_of [eVar 0]]) (eCm pLe (eB bLen [eVar 1]) (eC (.int 12)))))
def m_is_worded : FN := defF 1 (sRet (eCall m_is_word_of [eC (.int 3), eVar 0]))
def m_is_letter : FN := defF 1 (sRet (eAnd2 (eCall m_is_worded [eVar 0]) (eCm pEq2 (eB bLen [eVar 0]) (eC (.int 1)))))
def m_turned_by : FN := defF 3 (sSeq (sSet (eIf (tCm pNe2 (eVar 0) (eC (.str []))) (eBin pMod (eVar 1) (eB bLen [eVar 0])) (eC (.int 0))) (aName 2))
  (sRet (eBin pAdd (eCut (eVar 0) (oSome (eVar 2)) (oNone)) (eCut (eVar 0) (oNone) (oSome (eVar 2))))))
def m_turns_of : FN := defF 2 (sRet (eComp [1] (iRng rng1 [eB bMax2 [eC (.int 1), eB bLen [eVar 0]]]) (aName 1) (tYs) (eCall m_turned_by [eVar 0, eVar 1])))
def m_unlike_turns : FN := defF 2 (sRet (eB bSorted [eDComp [1] (iSeq (eCall m_turns_of [eVar 0])) (aName 1) (tYs) (eVar 1) (eC (.bl true))]))
def m_divisors_of : FN := defF 2 (sRet (eComp [1] (iRng rng2 [eC (.int 1), eBin pAdd (eVar 0) (eC (.int 1))]) (aName 1) (tCm pEq2 (eBin pMod (eVar 0) (eVar 1)) (eC (.int 0))) (eVar 1)))
def m_root_by : FN := defF 3 (sSeq (sSet (eBin pIx (eComp [2] (iSeq (eCall m_divisors_of [eB bLen [eVar 0]])) (aName 2) (tCm pEq2 (eCall m_turned_by [eVar 0, eVar 2]) (eVar 0)) (eVar 2)) (eC (.int 0))) (aName 1))
  (sRet (eCut (eVar 0) (oNone) (oSome (eVar 1)))))
def m_check_word : FN := defF 1 (sIf (tNt (tTru (eCall m_is_worded [eVar 0]))) (sRaise "InvalidWord" (eVar 0)) (sNil))
def m_check_letter : FN := defF 1 (sIf (tNt (tTru (eCall m_is_letter [eVar 0]))) (sRaise "InvalidWord" (eVar 0)) (sNil))
def m_check_size : FN := defF 3 (sIf (tNt (tTru (eCall m_is_between [eVar 0, eVar 1, eVar 2]))) (sRaise "InvalidSize" (eVar 0)) (sNil))
def m_check_rooted : FN := defF 1 (sSeq (sDo (eCall m_check_word [eVar 0]))
  (sIf (tCm pEq2 (eVar 0) (eC (.str []))) (sRaise "DoesNotFit" (eVar 0)) (sNil)))
def m_turned : FN := defF 2 (sSeq (sDo (eCall m_check_word [eVar 0]))
  (sSeq (sDo (eCall m_check_size [eVar 1, eC (.int 0), eC (.int 12)]))
  (sRet (eCall m_turned_by [eVar 0, eVar 1]))))
def m_all_turns : FN := defF 1 (sSeq (sDo (eCall m_check_word [eVar 0]))
  (sRet (eB bTuple [eCall m_unlike_turns [eVar 0]])))
def m_root : FN := defF 1 (sSeq (sDo (eCall m_check_rooted [eVar 0]))
  (sRet (eCall m_root_by [eVar 0])))
def m_letter_count : FN := defF 2 (sSeq (sDo (eCall m_check_word [eVar 0]))
  (sSeq (sDo (eCall m_check_letter [eVar 1]))
  (sRet (eMt "str" mCount (eVar 0) [eVar 1]))))
def m__law_well : FN := defF 5 (sSeq (sSet (eIf (tCm pLt (eVar 1) (eB bLen [eVar 0])) (eB bInt [eBin pIx (eVar 0) (eVar 1)]) (eBin pAdd (eBin pAdd (eBin pMul (eC (.int 9311)) (eVar 1)) (eBin pMod (eB bInt [eB bSum [eCut (eVar 0) (oNone) (oSome (eC (.int 2)))]]) (eC (.int 1000003)))) (eC (.int 71)))) (aName 2))
  (sSeq (sSet (eBin pAdd (eC (.int 50021)) (eBin pMul (eC (.int 1013)) (eVar 1))) (aName 3))
  (sSeq (sFor (iSeq (eBin pAdd (eCut (eVar 0) (oNone) (oSome (eC (.int 5)))) (eLst [eVar 2]))) (aName 4) (sSet (eBin pMod (eB bInt [eBin pAdd (eBin pAdd (eBin pMul (eVar 3) (eC (.int 45013))) (eBin pMod (eB bInt [eVar 4]) (eC (.int 2147483399)))) (eC (.int 37))]) (eC (.int 2147483563))) (aName 3)))
  (sRet (eLstM [eIf (tOr2 (tCm pLt (eVar 2) (eC (.int 0))) (tCm pGe (eVar 2) (eBin pPow (eC (.int 10)) (eC (.int 17))))) (eBin pMod (eB bInt [eB bAbs [eVar 2]]) (eBin pPow (eC (.int 10)) (eC (.int 60)))) (eC (.int 0)), eVar 3, eC (.int 0)])))))
def m__law_take : FN := defF 4 (sSeq (sIf (tCm pGt (eBin pIx (eVar 0) (eC (.int 0))) (eC (.int 0))) (sSeq (sSet (eB bDivmod [eBin pIx (eVar 0) (eC (.int 0)), eVar 1]) (aTup [aSub (eVar 0) (eC (.int 0)), aName 2]))
  (sRet (eVar 2))) (sNil))
  (sSeq (sSet (eBin pAdd (eBin pIx (eVar 0) (eC (.int 2))) (eC (.int 1))) (aSub (eVar 0) (eC (.int 2))))
  (sSeq (sSet (eBin pAdd (eBin pMod (eB bInt [eBin pIx (eVar 0) (eC (.int 1))]) (eC (.int 28657))) (eC (.int 40009))) (aName 3))
  (sSeq (sSet (eBin pMod (eB bInt [eBin pAdd (eBin pAdd (eBin pMul (eBin pIx (eVar 0) (eC (.int 1))) (eVar 3)) (eBin pMul (eC (.int 50023)) (eBin pIx (eVar 0) (eC (.int 2))))) (eC (.int 17))]) (eC (.int 2147483563))) (aSub (eVar 0) (eC (.int 1))))
  (sRet (eBin pMod (eB bInt [eBin pFdiv (eBin pIx (eVar 0) (eC (.int 1))) (eC (.int 83))]) (eVar 1)))))))
def m__law_pick : FN := defF 2 (sRet (eBin pIx (eVar 1) (eCall m__law_take [eVar 0, eB bLen [eVar 1]])))
def m__law_is : Nat → FN
  | 0 => fun _ _ => .stuck
  | d + 1 => let r := m__law_is d
    defF 4 (sSeq (sIf (tTru (eB bIsi [eVar 1, eC (.ty "tuple")])) (sSeq (sIf (tOr2 (tNt (tTru (eB bIsi [eVar 0, eC (.ty "tuple")]))) (tCm pNe2 (eB bLen [eVar 0]) (eB bLen [eVar 1]))) (sRet (eC (.bl false))) (sNil))
  (sRet (eB bAll [eComp [2, 3] (iEn (eVar 1)) (aTup [aName 2, aName 3]) (tYs) (eCall r [eBin pIx (eVar 0) (eVar 2), eVar 3])]))) (sNil))
  (sSeq (sIf (tTru (eB bIsi [eVar 1, eC (.ty "list")])) (sRet (eAnd2 (eB bIsi [eVar 0, eC (.ty "list")]) (eCall r [eB bTuple [eVar 0], eB bTuple [eVar 1]]))) (sNil))
  (sSeq (sIf (tTru (eB bIsi [eVar 1, eC (.ty "dict")])) (sRet (eAnd2 (eB bIsi [eVar 0, eC (.ty "dict")]) (eCm pEq2 (eVar 0) (eVar 1)))) (sNil))
  (sSeq (sIf (tOr2 (tCm pIs (eVar 1) (eC .non)) (tOr2 (tCm pIs (eVar 1) (eC (.bl true))) (tCm pIs (eVar 1) (eC (.bl false))))) (sRet (eIf (tCm pIs (eVar 1) (eC .non)) (eCm pIs (eVar 0) (eC .non)) (eIf (tCm pIs (eVar 1) (eC (.bl true))) (eCm pIs (eVar 0) (eC (.bl true))) (eCm pIs (eVar 0) (eC (.bl false)))))) (sNil))
  (sSeq (sIf (tTru (eB bIsi [eVar 1, eC (.ty "int")])) (sRet (eAnd2 (eB bIsi [eVar 0, eC (.ty "int")]) (eAnd2 (eNt (eB bIsi [eVar 0, eC (.ty "bool")])) (eCm pEq2 (eVar 0) (eVar 1))))) (sNil))
  (sRet (eAnd2 (eB bIsi [eVar 0, eC (.ty "str")]) (eCm pEq2 (eVar 0) (eVar 1)))))))))
def m__law_is_word : FN := defF 2 (sRet (eAnd2 (eB bIsi [eVar 0, eC (.ty "str")]) (eAnd2 (eCm pLt (eB bLen [eVar 0]) (eC (.int 13))) (eCm pEq2 (eComp [1] (iSeq (eVar 0)) (aName 1) (tCm pNin (eVar 1) (eC (.str [97, 98, 99]))) (eVar 1)) (eLst [])))))
def m__law_turned : FN := defF 3 (sSeq (sSet (eBin pMod (eB bInt [eVar 1]) (eB bMax2 [eC (.int 1), eB bLen [eVar 0]])) (aName 2))
  (sRet (eBin pAdd (eCut (eVar 0) (oSome (eVar 2)) (oNone)) (eCut (eVar 0) (oNone) (oSome (eVar 2))))))
def m__law_turns : FN := defF 3 (sSeq (sSet (eDispM [(eVar 0, eC (.bl true))]) (aName 1))
  (sSeq (sFor (iRng rng1 [eB bLen [eVar 0]]) (aName 2) (sSet (eC (.bl true)) (aSub (eVar 1) (eCall m__law_turned [eVar 0, eVar 2]))))
  (sRet (eB bTuple [eB bSorted [eB bList [eVar 1]]]))))
def m__law_root : FN := defF 2 (sSeq (sFor (iRng rng2 [eC (.int 1), eBin pAdd (eB bLen [eVar 0]) (eC (.int 1))]) (aName 1) (sIf (tAnd2 (tCm pEq2 (eBin pMod (eB bInt [eB bLen [eVar 0]]) (eVar 1)) (eC (.int 0))) (tCm pEq2 (eBin pMul (eCut (eVar 0) (oNone) (oSome (eVar 1))) (eBin pFdiv (eB bLen [eVar 0]) (eVar 1))) (eVar 0))) (sRet (eCut (eVar 0) (oNone) (oSome (eVar 1)))) (sNil)))
  (sRet (eVar 0)))
def m__law_drawn_word : FN := defF 7 (sSeq (sSet (eTup [eCall m__law_take [eVar 0, eC (.int 6)], eCall m__law_take [eVar 0, eBin pAdd (eVar 1) (eC (.int 1))], eBin pAdd (eC (.int 1)) (eCall m__law_take [eVar 0, eC (.int 3)])]) (aTup [aName 2, aName 3, aName 4]))
  (sSeq (sIf (tCm pEq2 (eVar 2) (eC (.int 0))) (sRet (eBin pMul (eBin pIx (eC (.str [97, 98, 99])) (eCall m__law_take [eVar 0, eC (.int 3)])) (eVar 3))) (sNil))
  (sSeq (sIf (tCm pLt (eVar 2) (eC (.int 3))) (sSeq (sSet (eMt "str" mJoin (eC (.str [])) [eComp [6] (iRng rng1 [eBin pAdd (eC (.int 1)) (eCall m__law_take [eVar 0, eC (.int 3)])]) (aName 6) (tYs) (eBin pIx (eC (.str [97, 98, 99])) (eCall m__law_take [eVar 0, eVar 4]))]) (aName 5))
  (sRet (eCall m__law_turned [eCut (eBin pMul (eVar 5) (eC (.int 12))) (oNone) (oSome (eBin pMul (eBin pFdiv (eVar 3) (eB bLen [eVar 5])) (eB bLen [eVar 5]))), eCall m__law_take [eVar 0, eC (.int 4)]]))) (sNil))
  (sRet (eMt "str" mJoin (eC (.str [])) [eComp [6] (iRng rng1 [eVar 3]) (aName 6) (tYs) (eBin pIx (eC (.str [97, 98, 99])) (eCall m__law_take [eVar 0, eVar 4]))])))))
def m__law_bent_word : FN := defF 5 (sSeq (sPar [2, 3] [eCall m__law_take [eVar 0, eBin pAdd (eB bLen [eVar 1]) (eC (.int 1))], eCall m__law_pick [eVar 0, eLst [eC (.str [100]), eC (.str [65]), eC (.str [32]), eC (.str [49]), eC (.str []), eC (.str [97, 98]), eC (.str [10])]]])
  (sSeq (sSet (eLst [eBin pAdd (eBin pAdd (eCut (eVar 1) (oNone) (oSome (eVar 2))) (eVar 3)) (eCut (eVar 1) (oSome (eVar 2)) (oNone)), eBin pAdd (eVar 1) (eC (.str [97, 98, 99, 97, 98, 99, 97, 98, 99, 97, 98, 99, 97])), eMt "str" mUpper (eVar 1) [], eB bTuple [eVar 1], eB bList [eVar 1], eTup [eVar 1], eDisp [(eVar 1, eC (.int 1))], eBin pAdd (eVar 1) (eC (.str [100]))]) (aName 4))
  (sRet (eCall m__law_pick [eVar 0, eBin pAdd (eVar 4) (eLst [eC .non, eC (.int 0), eC (.bl true), eC (.str [97, 98, 100]), eC (.str [97, 98, 99, 97, 98, 99, 97, 98, 99, 97, 98, 99, 97]), eLst [eVar 1], eC (.int 1)])]))))
def m__law_word_right : FN := defF 10 (sSeq (sSet (eTup [eB bLen [eVar 1], eCall m__law_turns [eVar 1], eCall m__law_take [eVar 0, eC (.int 13)], eCall m__law_take [eVar 0, eC (.int 13)]]) (aTup [aName 2, aName 3, aName 4, aName 5]))
  (sSeq (sSet (eCall m__law_turned [eVar 1, eVar 4]) (aName 6))
  (sSeq (sSet (eLst [eCall m_turned [eVar 1, eVar 4], eCallKw m_turned [1, 0] [] [eVar 4, eVar 1], eCall m_turned [eVar 1, eC (.int 0)], eCall m_turned [eVar 1, eVar 2], eCall m_turned [eCall m_turned [eVar 1, eVar 4], eVar 5], eCall m_all_turns [eVar 1], eCallKw m_all_turns [0] [] [eVar 1], eCall m_all_turns [eVar 6]]) (aName 7))
  (sSeq (sIf (tNt (tTru (eCall (m__law_is 6) [eVar 7, eLst [eVar 6, eVar 6, eVar 1, eVar 1, eCall m__law_turned [eVar 1, eBin pAdd (eVar 4) (eVar 5)], eVar 3, eVar 3, eVar 3]]))) (sRet (eC (.bl false))) (sNil))
  (sSeq (sIf (tCm pNe2 (eComp [8] (iRng rng1 [eC (.int 13)]) (aName 8) (tOr2 (tCm pNin (eCall m_turned [eVar 1, eVar 8]) (eVar 3)) (tCm pNe2 (eCall m_turned [eVar 1, eVar 8]) (eCall m__law_turned [eVar 1, eVar 8]))) (eVar 8)) (eLst [])) (sRet (eC (.bl false))) (sNil))
  (sSeq (sIf (tCm pEq2 (eVar 1) (eC (.str []))) (sRet (eCall (m__law_is 6) [eLst [eCall m_turned [eC (.str []), eC (.int 7)], eCall m_all_turns [eC (.str [])]], eLst [eC (.str []), eTup [eC (.str [])]]])) (sNil))
  (sSeq (sIf (tOr2 (tCm pNe2 (eB bLen [eVar 3]) (eB bLen [eCall m__law_root [eVar 1]])) (tCm pNe2 (eB bLen [eCall m_root [eVar 1]]) (eB bLen [eVar 3]))) (sRet (eC (.bl false))) (sNil))
  (sSeq (sIf (tCm pNe2 (eCall m_all_turns [eUn pRev (eVar 1)]) (eB bTuple [eB bSorted [eComp [8] (iSeq (eVar 3)) (aName 8) (tYs) (eUn pRev (eVar 8))]])) (sRet (eC (.bl false))) (sNil))
  (sRet (eCm pEq2 (eComp [9] (iSeq (eC (.str [97, 98, 99]))) (aName 9) (tCm pNe2 (eCall m_letter_count [eVar 6, eVar 9]) (eMt "str" mCount (eVar 1) [eVar 9])) (eVar 9)) (eLst [])))))))))))
def m__law_refused_right : FN := defF 11 (sSeq (sSet (eCall m__law_bent_word [eVar 0, eVar 1]) (aName 2))
  (sSeq (sSet (eIf (tTru (eCall m__law_is_word [eVar 2])) (eC .non) (eVar 2)) (aName 2))
  (sSeq (sSet (eLst [eTup [eC (.int 0), eVar 2, eC .non, eLst [eC (.str [119, 111, 114, 100]), eVar 2]], eTup [eC (.int 1), eVar 2, eC .non, eLst [eC (.str [119, 111, 114, 100]), eVar 2]]]) (aName 3))
  (sSeq (sFor (iSeq (eBin pAdd (eVar 3) (eComp [10] (iSeq (eLst [eC (.int 13), eUn pNeg (eC (.int 1)), eC (.bl true), eC .non, eC (.str [48]), eTup [eC (.int 0)], eBin pPow (eC (.int 10)) (eC (.int 20)), eC (.bl false)])) (aName 10) (tYs) (eTup [eC (.int 0), eVar 1, eVar 10, eLst [eC (.str [115, 105, 122, 101]), eVar 10]])))) (aTup [aName 4, aName 5, aName 6, aName 7]) (sSeq (sTry ["InvalidWord", "InvalidSize", "DoesNotFit"] "WordError" 9 (sSet (eLst [eC (.str [108, 101, 116]), eIf (tCm pEq2 (eVar 4) (eC (.int 0))) (eCall m_turned [eVar 5, eVar 6]) (eCall m_all_turns [eVar 5])]) (aName 8)) (fun c p => sSet (eLst [eIf (tTru (eIsE ["InvalidWord", "InvalidSize", "DoesNotFit"] c "InvalidWord")) (eC (.str [119, 111, 114, 100])) (eIf (tTru (eIsE ["InvalidWord", "InvalidSize", "DoesNotFit"] c "InvalidSize")) (eC (.str [115, 105, 122, 101])) (eC (.str [111, 100, 100]))), eFld ["InvalidWord", "InvalidSize", "DoesNotFit"] "given" c p]) (aName 8)))
  (sIf (tNt (tTru (eCall (m__law_is 6) [eVar 8, eVar 7]))) (sRet (eC (.bl false))) (sNil))))
  (sRet (eC (.bl true)))))))
def m__law_right : FN := defF 3 (sSeq (sFor (iSeq (eLst [eC (.int 0), eC (.int 1), eC (.int 2), eC (.int 3), eC (.int 5), eC (.int 8), eC (.int 12), eC (.int 12)])) (aName 1) (sSeq (sSet (eCall m__law_drawn_word [eVar 0, eVar 1]) (aName 2))
  (sIf (tOr2 (tNt (tTru (eCall m__law_word_right [eVar 0, eVar 2]))) (tNt (tTru (eCall m__law_refused_right [eVar 0, eVar 2])))) (sRet (eC (.bl false))) (sNil))))
  (sRet (eC (.bl true))))
def m_law : FN := defF 2 (sRet (eB bAll [eComp [1] (iRng rng1 [eB bMax2 [eC (.int 2), eB bMin2 [eB bLen [eVar 0], eC (.int 3)]]]) (aName 1) (tYs) (eCall m__law_right [eCall m__law_well [eVar 0, eVar 1]])]))
end
/-! ### what the top has written -/
structure Top (K : PySem.W.Frag) (mg : MG) : Prop where
  b_abs : mg "abs" = none
  b_all : mg "all" = none
  b_bool : mg "bool" = none
  b_dict : mg "dict" = none
  b_divmod : mg "divmod" = none
  b_enumerate : mg "enumerate" = none
  b_int : mg "int" = none
  b_isinstance : mg "isinstance" = none
  b_len : mg "len" = none
  b_list : mg "list" = none
  b_max : mg "max" = none
  b_min : mg "min" = none
  b_range : mg "range" = none
  b_sorted : mg "sorted" = none
  b_str : mg "str" = none
  b_sum : mg "sum" = none
  b_tuple : mg "tuple" = none
  c_InvalidSize : ∃ C, mg "InvalidSize" = some (.ref C) ∧ ∀ c ∈ (["InvalidWord", "InvalidSize", "DoesNotFit"] : List String), ∀ D, mg (Str.ofString c) = some (.ref D) → PySem.W.exmOne K (.ref D) (.ref C) = some (subE c "InvalidSize") ∧ PySem.W.kitOne K (.ref D) (.ref C) = some (subE c "InvalidSize")
  c_InvalidWord : ∃ C, mg "InvalidWord" = some (.ref C) ∧ ∀ c ∈ (["InvalidWord", "InvalidSize", "DoesNotFit"] : List String), ∀ D, mg (Str.ofString c) = some (.ref D) → PySem.W.exmOne K (.ref D) (.ref C) = some (subE c "InvalidWord") ∧ PySem.W.kitOne K (.ref D) (.ref C) = some (subE c "InvalidWord")
  c_WordError : ∃ C, mg "WordError" = some (.ref C) ∧ ∀ c ∈ (["InvalidWord", "InvalidSize", "DoesNotFit"] : List String), ∀ D, mg (Str.ofString c) = some (.ref D) → PySem.W.exmOne K (.ref D) (.ref C) = some (subE c "WordError") ∧ PySem.W.kitOne K (.ref D) (.ref C) = some (subE c "WordError")
  e_DoesNotFit : ∃ C f, EG.Txt K mg "DoesNotFit" C f
  e_InvalidSize : ∃ C f, EG.Txt K mg "InvalidSize" C f
  e_InvalidWord : ∃ C f, EG.Txt K mg "InvalidWord" C f
  f__law_bent_word : ∃ f fd, mg "_law_bent_word" = some (.ref f) ∧ Fun K "_law_bent_word" "_law_bent_word" (top 44) f fd
  f__law_drawn_word : ∃ f fd, mg "_law_drawn_word" = some (.ref f) ∧ Fun K "_law_drawn_word" "_law_drawn_word" (top 43) f fd
  f__law_is : ∃ f fd, mg "_law_is" = some (.ref f) ∧ Fun K "_law_is" "_law_is" (top 38) f fd
  f__law_is_word : ∃ f fd, mg "_law_is_word" = some (.ref f) ∧ Fun K "_law_is_word" "_law_is_word" (top 39) f fd
  f__law_pick : ∃ f fd, mg "_law_pick" = some (.ref f) ∧ Fun K "_law_pick" "_law_pick" (top 37) f fd
  f__law_refused_right : ∃ f fd, mg "_law_refused_right" = some (.ref f) ∧ Fun K "_law_refused_right" "_law_refused_right" (top 46) f fd
  f__law_right : ∃ f fd, mg "_law_right" = some (.ref f) ∧ Fun K "_law_right" "_law_right" (top 47) f fd
  f__law_root : ∃ f fd, mg "_law_root" = some (.ref f) ∧ Fun K "_law_root" "_law_root" (top 42) f fd
  f__law_take : ∃ f fd, mg "_law_take" = some (.ref f) ∧ Fun K "_law_take" "_law_take" (top 36) f fd
  f__law_turned : ∃ f fd, mg "_law_turned" = some (.ref f) ∧ Fun K "_law_turned" "_law_turned" (top 40) f fd
  f__law_turns : ∃ f fd, mg "_law_turns" = some (.ref f) ∧ Fun K "_law_turns" "_law_turns" (top 41) f fd
  f__law_well : ∃ f fd, mg "_law_well" = some (.ref f) ∧ Fun K "_law_well" "_law_well" (top 35) f fd
  f__law_word_right : ∃ f fd, mg "_law_word_right" = some (.ref f) ∧ Fun K "_law_word_right" "_law_word_right" (top 45) f fd
  f_all_turns : ∃ f fd, mg "all_turns" = some (.ref f) ∧ Fun K "all_turns" "all_turns" (top 30) f fd
  f_check_letter : ∃ f fd, mg "check_letter" = some (.ref f) ∧ Fun K "check_letter" "check_letter" (top 25) f fd
  f_check_rooted : ∃ f fd, mg "check_rooted" = some (.ref f) ∧ Fun K "check_rooted" "check_rooted" (top 28) f fd
  f_check_size : ∃ f fd, mg "check_size" = some (.ref f) ∧ Fun K "check_size" "check_size" (top 26) f fd
  f_check_word : ∃ f fd, mg "check_word" = some (.ref f) ∧ Fun K "check_word" "check_word" (top 24) f fd
  f_divisors_of : ∃ f fd, mg "divisors_of" = some (.ref f) ∧ Fun K "divisors_of" "divisors_of" (top 21) f fd
  f_is_between : ∃ f fd, mg "is_between" = some (.ref f) ∧ Fun K "is_between" "is_between" (top 7) f fd
  f_is_letter : ∃ f fd, mg "is_letter" = some (.ref f) ∧ Fun K "is_letter" "is_letter" (top 16) f fd
  f_is_text_of : ∃ f fd, mg "is_text_of" = some (.ref f) ∧ Fun K "is_text_of" "is_text_of" (top 8) f fd
  f_is_whole : ∃ f fd, mg "is_whole" = some (.ref f) ∧ Fun K "is_whole" "is_whole" (top 6) f fd
  f_is_word_of : ∃ f fd, mg "is_word_of" = some (.ref f) ∧ Fun K "is_word_of" "is_word_of" (top 14) f fd
  f_is_worded : ∃ f fd, mg "is_worded" = some (.ref f) ∧ Fun K "is_worded" "is_worded" (top 15) f fd
  f_law : ∃ f fd, mg "law" = some (.ref f) ∧ Fun K "law" "law" (top 48) f fd
  f_letter_count : ∃ f fd, mg "letter_count" = some (.ref f) ∧ Fun K "letter_count" "letter_count" (top 33) f fd
  f_letters_of : ∃ f fd, mg "letters_of" = some (.ref f) ∧ Fun K "letters_of" "letters_of" (top 13) f fd
  f_root : ∃ f fd, mg "root" = some (.ref f) ∧ Fun K "root" "root" (top 31) f fd
  f_root_by : ∃ f fd, mg "root_by" = some (.ref f) ∧ Fun K "root_by" "root_by" (top 22) f fd
  f_turned : ∃ f fd, mg "turned" = some (.ref f) ∧ Fun K "turned" "turned" (top 29) f fd
  f_turned_by : ∃ f fd, mg "turned_by" = some (.ref f) ∧ Fun K "turned_by" "turned_by" (top 18) f fd
  f_turns_of : ∃ f fd, mg "turns_of" = some (.ref f) ∧ Fun K "turns_of" "turns_of" (top 19) f fd
  f_unlike_turns : ∃ f fd, mg "unlike_turns" = some (.ref f) ∧ Fun K "unlike_turns" "unlike_turns" (top 20) f fd
  g_LETTERS : ∃ t, mg "LETTERS" = some (.str "abc" t)
  g_LONGEST : ∃ t, mg "LONGEST" = some (.int 12 t)
  g_MOST_LETTERS : ∃ t, mg "MOST_LETTERS" = some (.int 3 t)
  x_all : Errs K mg ["InvalidWord", "InvalidSize", "DoesNotFit"]
/-! ### each def computes it -/
section
variable {P : Program} {w : World} {K : PySem.W.Frag} {mg : MG} {base : Heap}
theorem d_is_whole (T : Top K mg) : Def P w K mg base 1 "is_whole" (top 6) ["value"] m_is_whole := by
  obtain ⟨f, fd, hm0, F⟩ := T.f_is_whole
  have S : FnScope ["value"] ["value"] (defScope (top 6)) := ⟨rfl, rfl, rfl, by decide +kernel, rfl, by decide +kernel, by decide +kernel⟩
  refine Def.mk' F hm0 S (F.binds fun _ _ _ _ _ _ us hl => match us, hl with | [_], _ => rfl) fun cdv A outer s H E hr => ?_
  exact (iss_one (is_ret (ie_and (ie_b c_isi (by rfl) T.b_isinstance rfl (ia_cons (ie_var 0) (ia_cons (ie_tyName "int" (by rfl) T.b_int rfl) ia_nil))) (ie_one (ie_not (ie_b c_isi (by rfl) T.b_isinstance rfl (ia_cons (ie_var 0) (ia_cons (ie_tyName "bool" (by rfl) T.b_bool rfl) ia_nil))))))))
theorem d_is_between (T : Top K mg) : Def P w K mg base 2 "is_between" (top 7) ["value", "low", "high"] m_is_between := by
  obtain ⟨f, fd, hm0, F⟩ := T.f_is_between
  have S : FnScope ["value", "low", "high"] ["value", "low", "high"] (defScope (top 7)) := ⟨rfl, rfl, rfl, by decide +kernel, rfl, by decide +kernel, by decide +kernel⟩
  refine Def.mk' F hm0 S (F.binds fun _ _ _ _ _ _ us hl => match us, hl with | [_, _, _], _ => rfl) fun cdv A outer s H E hr => ?_
  exact (iss_one (is_ret (ie_and (ie_call (d_is_whole T) (hr.mono (by decide)) (by rfl) (takes_of rfl rfl rfl rfl) (ia_cons (ie_var 0) ia_nil)) (ie_one (ie_chain o_le o_le (ie_var 1) (ie_var 0) (ie_var 2))))))
theorem d_is_text_of (T : Top K mg) : Def P w K mg base 1 "is_text_of" (top 8) ["value", "signs"] m_is_text_of := by
  obtain ⟨f, fd, hm0, F⟩ := T.f_is_text_of
  have S : FnScope ["value", "signs", "sign"] ["value", "signs"] (defScope (top 8)) := ⟨rfl, rfl, rfl, by decide +kernel, rfl, by decide +kernel, by decide +kernel⟩
  refine Def.mk' F hm0 S (F.binds fun _ _ _ _ _ _ us hl => match us, hl with | [_, _], _ => rfl) fun cdv A outer s H E hr => ?_
  exact (iss_one (is_ret (ie_and (ie_b c_isi (by rfl) T.b_isinstance rfl (ia_cons (ie_var 0) (ia_cons (ie_tyName "str" (by rfl) T.b_str rfl) ia_nil))) (ie_one (ie_b (c_all rfl) (by rfl) T.b_all rfl (ia_cons (ie_lc (own := [("sign", 2)]) rfl S.nd (ii_seq (ie_var 0)) (blkOk_by (by kernel_rfl)) (fun _ _ _ _ _ => (ig_name 2 S.nd rfl (by first | exact Or.inl rfl | exact Or.inr rfl))) (fun _ _ _ _ _ => its_nil) (fun _ _ _ _ _ => (ie_cm (o_in hr.u66) (ie_var 2) (ie_var 1) (by rfl)))) ia_nil))))))
theorem d_letters_of (T : Top K mg) : Def P w K mg base 1 "letters_of" (top 13) ["number"] m_letters_of := by
  obtain ⟨f, fd, hm0, F⟩ := T.f_letters_of
  have S : FnScope ["number"] ["number"] (defScope (top 13)) := ⟨rfl, rfl, rfl, by decide +kernel, rfl, by decide +kernel, by decide +kernel⟩
  refine Def.mk' F hm0 S (F.binds fun _ _ _ _ _ _ us hl => match us, hl with | [_], _ => rfl) fun cdv A outer s H E hr => ?_
  exact (iss_one (is_ret (ie_cut (ie_gStr [97, 98, 99] (by rfl) T.g_LETTERS) io_none (io_some (ie_var 0)))))
theorem d_is_word_of (T : Top K mg) : Def P w K mg base 2 "is_word_of" (top 14) ["number", "value"] m_is_word_of := by
  obtain ⟨f, fd, hm0, F⟩ := T.f_is_word_of
  have S : FnScope ["number", "value"] ["number", "value"] (defScope (top 14)) := ⟨rfl, rfl, rfl, by decide +kernel, rfl, by decide +kernel, by decide +kernel⟩
  refine Def.mk' F hm0 S (F.binds fun _ _ _ _ _ _ us hl => match us, hl with | [_, _], _ => rfl) fun cdv A outer s H E hr => ?_
  exact (iss_one (is_ret (ie_and (ie_call (d_is_text_of T) (hr.mono (by decide)) (by rfl) (takes_of rfl rfl rfl rfl) (ia_cons (ie_var 1) (ia_cons (ie_call (d_letters_of T) (hr.mono (by decide)) (by rfl) (takes_of rfl rfl rfl rfl) (ia_cons (ie_var 0) ia_nil)) ia_nil))) (ie_one (ie_cm o_le (ie_b c_len (by rfl) T.b_len rfl (ia_cons (ie_var 1) ia_nil)) (ie_gInt (by rfl) T.g_LONGEST) (by rfl))))))
theorem d_is_worded (T : Top K mg) : Def P w K mg base 3 "is_worded" (top 15) ["value"] m_is_worded := by
  obtain ⟨f, fd, hm0, F⟩ := T.f_is_worded
  have S : FnScope ["value"] ["value"] (defScope (top 15)) := ⟨rfl, rfl, rfl, by decide +kernel, rfl, by decide +kernel, by decide +kernel⟩
  refine Def.mk' F hm0 S (F.binds fun _ _ _ _ _ _ us hl => match us, hl with | [_], _ => rfl) fun cdv A outer s H E hr => ?_
  exact (iss_one (is_ret (ie_call (d_is_word_of T) (hr.mono (by decide)) (by rfl) (takes_of rfl rfl rfl rfl) (ia_cons (ie_gInt (by rfl) T.g_MOST_LETTERS) (ia_cons (ie_var 0) ia_nil)))))
theorem d_is_letter (T : Top K mg) : Def P w K mg base 4 "is_letter" (top 16) ["value"] m_is_letter := by
  obtain ⟨f, fd, hm0, F⟩ := T.f_is_letter
  have S : FnScope ["value"] ["value"] (defScope (top 16)) := ⟨rfl, rfl, rfl, by decide +kernel, rfl, by decide +kernel, by decide +kernel⟩
  refine Def.mk' F hm0 S (F.binds fun _ _ _ _ _ _ us hl => match us, hl with | [_], _ => rfl) fun cdv A outer s H E hr => ?_
  exact (iss_one (is_ret (ie_and (ie_call (d_is_worded T) (hr.mono (by decide)) (by rfl) (takes_of rfl rfl rfl rfl) (ia_cons (ie_var 0) ia_nil)) (ie_one (ie_cm (o_eq2 hr.units) (ie_b c_len (by rfl) T.b_len rfl (ia_cons (ie_var 0) ia_nil)) ie_int (by rfl))))))
theorem d_turned_by (T : Top K mg) : Def P w K mg base 1 "turned_by" (top 18) ["word", "size"] m_turned_by := by
  obtain ⟨f, fd, hm0, F⟩ := T.f_turned_by
  have S : FnScope ["word", "size", "behind"] ["word", "size"] (defScope (top 18)) := ⟨rfl, rfl, rfl, by decide +kernel, rfl, by decide +kernel, by decide +kernel⟩
  refine Def.mk' F hm0 S (F.binds fun _ _ _ _ _ _ us hl => match us, hl with | [_, _], _ => rfl) fun cdv A outer s H E hr => ?_
  exact (iss_cons (is_name 2 S.nd rfl (by first | exact Or.inl rfl | exact Or.inr rfl) (ie_if (it_cm (o_ne2 hr.units) (ie_var 0) (ie_str []) (by rfl)) (ie_bin o_mod (ie_var 1) (ie_b c_len (by rfl) T.b_len rfl (ia_cons (ie_var 0) ia_nil))) ie_int))
    (iss_one (is_ret (ie_bin o_add (ie_cut (ie_var 0) (io_some (ie_var 2)) io_none) (ie_cut (ie_var 0) io_none (io_some (ie_var 2)))))))
theorem d_turns_of (T : Top K mg) : Def P w K mg base 2 "turns_of" (top 19) ["word"] m_turns_of := by
  obtain ⟨f, fd, hm0, F⟩ := T.f_turns_of
  have S : FnScope ["word", "size"] ["word"] (defScope (top 19)) := ⟨rfl, rfl, rfl, by decide +kernel, rfl, by decide +kernel, by decide +kernel⟩
  refine Def.mk' F hm0 S (F.binds fun _ _ _ _ _ _ us hl => match us, hl with | [_], _ => rfl) fun cdv A outer s H E hr => ?_
  exact (iss_one (is_ret (ie_lc (own := [("size", 1)]) rfl S.nd (ii_rng1 (by rfl) T.b_range (ia_cons (ie_b (c_max2 rfl) (by rfl) T.b_max rfl (ia_cons ie_int (ia_cons (ie_b c_len (by rfl) T.b_len rfl (ia_cons (ie_var 0) ia_nil)) ia_nil))) ia_nil)) (blkOk_by (by kernel_rfl)) (fun _ _ _ _ _ => (ig_name 1 S.nd rfl (by first | exact Or.inl rfl | exact Or.inr rfl))) (fun _ _ _ _ _ => its_nil) (fun _ _ _ _ _ => (ie_call (d_turned_by T) (hr.mono (by decide)) (by rfl) takes0 (ia_cons (ie_var 0) (ia_cons (ie_var 1) ia_nil)))))))
theorem d_unlike_turns (T : Top K mg) : Def P w K mg base 3 "unlike_turns" (top 20) ["word"] m_unlike_turns := by
  obtain ⟨f, fd, hm0, F⟩ := T.f_unlike_turns
  have S : FnScope ["word", "turn"] ["word"] (defScope (top 20)) := ⟨rfl, rfl, rfl, by decide +kernel, rfl, by decide +kernel, by decide +kernel⟩
  refine Def.mk' F hm0 S (F.binds fun _ _ _ _ _ _ us hl => match us, hl with | [_], _ => rfl) fun cdv A outer s H E hr => ?_
  exact (iss_one (is_ret (ie_b (c_sorted hr.u66 rfl) (by rfl) T.b_sorted rfl (ia_cons (ie_dc (own := [("turn", 1)]) rfl S.nd (ii_seq (ie_call (d_turns_of T) (hr.mono (by decide)) (by rfl) (takes_of rfl rfl rfl rfl) (ia_cons (ie_var 0) ia_nil))) (blkOk_by (by kernel_rfl)) (fun _ _ _ _ _ => (ig_name 1 S.nd rfl (by first | exact Or.inl rfl | exact Or.inr rfl))) (fun _ _ _ _ _ => its_nil) (fun _ _ _ _ _ => (ie_var 1)) (fun _ _ _ _ _ => ie_bl)) ia_nil))))
theorem d_divisors_of (T : Top K mg) : Def P w K mg base 1 "divisors_of" (top 21) ["number"] m_divisors_of := by
  obtain ⟨f, fd, hm0, F⟩ := T.f_divisors_of
  have S : FnScope ["number", "each"] ["number"] (defScope (top 21)) := ⟨rfl, rfl, rfl, by decide +kernel, rfl, by decide +kernel, by decide +kernel⟩
  refine Def.mk' F hm0 S (F.binds fun _ _ _ _ _ _ us hl => match us, hl with | [_], _ => rfl) fun cdv A outer s H E hr => ?_
  exact (iss_one (is_ret (ie_lc (own := [("each", 1)]) rfl S.nd (ii_rng2 (by rfl) T.b_range (ia_cons ie_int (ia_cons (ie_bin o_add (ie_var 0) ie_int) ia_nil))) (blkOk_by (by kernel_rfl)) (fun _ _ _ _ _ => (ig_name 1 S.nd rfl (by first | exact Or.inl rfl | exact Or.inr rfl))) (fun _ _ _ _ _ => (its_one (it_cm (o_eq2 hr.units) (ie_bin o_mod (ie_var 0) (ie_var 1)) ie_int (by rfl)))) (fun _ _ _ _ _ => (ie_var 1)))))
theorem d_root_by (T : Top K mg) : Def P w K mg base 2 "root_by" (top 22) ["word"] m_root_by := by
  obtain ⟨f, fd, hm0, F⟩ := T.f_root_by
  have S : FnScope ["word", "size", "each"] ["word"] (defScope (top 22)) := ⟨rfl, rfl, rfl, by decide +kernel, rfl, by decide +kernel, by decide +kernel⟩
  refine Def.mk' F hm0 S (F.binds fun _ _ _ _ _ _ us hl => match us, hl with | [_], _ => rfl) fun cdv A outer s H E hr => ?_
  exact (iss_cons (is_name 1 S.nd rfl (by first | exact Or.inl rfl | exact Or.inr rfl) (ie_ix hr.u1 (ie_lc (own := [("each", 2)]) rfl S.nd (ii_seq (ie_call (d_divisors_of T) (hr.mono (by decide)) (by rfl) (takes_of rfl rfl rfl rfl) (ia_cons (ie_b c_len (by rfl) T.b_len rfl (ia_cons (ie_var 0) ia_nil)) ia_nil))) (blkOk_by (by kernel_rfl)) (fun _ _ _ _ _ => (ig_name 2 S.nd rfl (by first | exact Or.inl rfl | exact Or.inr rfl))) (fun _ _ _ _ _ => (its_one (it_cm (o_eq2 hr.units) (ie_call (d_turned_by T) (hr.mono (by decide)) (by rfl) takes0 (ia_cons (ie_var 0) (ia_cons (ie_var 2) ia_nil))) (ie_var 0) (by rfl)))) (fun _ _ _ _ _ => (ie_var 2))) ie_int))
    (iss_one (is_ret (ie_cut (ie_var 0) io_none (io_some (ie_var 1))))))
theorem d_check_word (T : Top K mg) : Def P w K mg base 4 "check_word" (top 24) ["word"] m_check_word := by
  obtain ⟨_, _, x_InvalidWord⟩ := T.e_InvalidWord
  obtain ⟨f, fd, hm0, F⟩ := T.f_check_word
  have S : FnScope ["word"] ["word"] (defScope (top 24)) := ⟨rfl, rfl, rfl, by decide +kernel, rfl, by decide +kernel, by decide +kernel⟩
  refine Def.mk' F hm0 S (F.binds fun _ _ _ _ _ _ us hl => match us, hl with | [_], _ => rfl) fun cdv A outer s H E hr => ?_
  exact (iss_one (is_if (it_not (it_tru (ie_call (d_is_worded T) (hr.mono (by decide)) (by rfl) (takes_of rfl rfl rfl rfl) (ia_cons (ie_var 0) ia_nil)))) (iss_one (is_raiseG (c := "InvalidWord") x_InvalidWord rfl hr (takes_of rfl rfl rfl rfl) (ie_var 0) (by rfl))) iss_nil))
theorem d_check_letter (T : Top K mg) : Def P w K mg base 5 "check_letter" (top 25) ["letter"] m_check_letter := by
  obtain ⟨_, _, x_InvalidWord⟩ := T.e_InvalidWord
  obtain ⟨f, fd, hm0, F⟩ := T.f_check_letter
  have S : FnScope ["letter"] ["letter"] (defScope (top 25)) := ⟨rfl, rfl, rfl, by decide +kernel, rfl, by decide +kernel, by decide +kernel⟩
  refine Def.mk' F hm0 S (F.binds fun _ _ _ _ _ _ us hl => match us, hl with | [_], _ => rfl) fun cdv A outer s H E hr => ?_
  exact (iss_one (is_if (it_not (it_tru (ie_call (d_is_letter T) (hr.mono (by decide)) (by rfl) (takes_of rfl rfl rfl rfl) (ia_cons (ie_var 0) ia_nil)))) (iss_one (is_raiseG (c := "InvalidWord") x_InvalidWord rfl hr (takes_of rfl rfl rfl rfl) (ie_var 0) (by rfl))) iss_nil))
theorem d_check_size (T : Top K mg) : Def P w K mg base 3 "check_size" (top 26) ["size", "low", "high"] m_check_size := by
  obtain ⟨_, _, x_InvalidSize⟩ := T.e_InvalidSize
  obtain ⟨f, fd, hm0, F⟩ := T.f_check_size
  have S : FnScope ["size", "low", "high"] ["size", "low", "high"] (defScope (top 26)) := ⟨rfl, rfl, rfl, by decide +kernel, rfl, by decide +kernel, by decide +kernel⟩
  refine Def.mk' F hm0 S (F.binds fun _ _ _ _ _ _ us hl => match us, hl with | [_, _, _], _ => rfl) fun cdv A outer s H E hr => ?_
  exact (iss_one (is_if (it_not (it_tru (ie_call (d_is_between T) (hr.mono (by decide)) (by rfl) (takes_of rfl rfl rfl rfl) (ia_cons (ie_var 0) (ia_cons (ie_var 1) (ia_cons (ie_var 2) ia_nil)))))) (iss_one (is_raiseG (c := "InvalidSize") x_InvalidSize rfl hr (takes_of rfl rfl rfl rfl) (ie_var 0) (by rfl))) iss_nil))
theorem d_check_rooted (T : Top K mg) : Def P w K mg base 5 "check_rooted" (top 28) ["word"] m_check_rooted := by
  obtain ⟨_, _, x_DoesNotFit⟩ := T.e_DoesNotFit
  obtain ⟨f, fd, hm0, F⟩ := T.f_check_rooted
  have S : FnScope ["word"] ["word"] (defScope (top 28)) := ⟨rfl, rfl, rfl, by decide +kernel, rfl, by decide +kernel, by decide +kernel⟩
  refine Def.mk' F hm0 S (F.binds fun _ _ _ _ _ _ us hl => match us, hl with | [_], _ => rfl) fun cdv A outer s H E hr => ?_
  exact (iss_cons (is_do (ie_call (d_check_word T) (hr.mono (by decide)) (by rfl) (takes_of rfl rfl rfl rfl) (ia_cons (ie_var 0) ia_nil)))
    (iss_one (is_if (it_cm (o_eq2 hr.units) (ie_var 0) (ie_str []) (by rfl)) (iss_one (is_raiseG (c := "DoesNotFit") x_DoesNotFit rfl hr (takes_of rfl rfl rfl rfl) (ie_var 0) (by rfl))) iss_nil)))
theorem d_turned (T : Top K mg) : Def P w K mg base 5 "turned" (top 29) ["word", "size"] m_turned := by
  obtain ⟨f, fd, hm0, F⟩ := T.f_turned
  have S : FnScope ["word", "size"] ["word", "size"] (defScope (top 29)) := ⟨rfl, rfl, rfl, by decide +kernel, rfl, by decide +kernel, by decide +kernel⟩
  refine Def.mk' F hm0 S (F.binds fun _ _ _ _ _ _ us hl => match us, hl with | [_, _], _ => rfl) fun cdv A outer s H E hr => ?_
  exact (iss_cons (is_do (ie_call (d_check_word T) (hr.mono (by decide)) (by rfl) (takes_of rfl rfl rfl rfl) (ia_cons (ie_var 0) ia_nil)))
    (iss_cons (is_do (ie_call (d_check_size T) (hr.mono (by decide)) (by rfl) (takes_of rfl rfl rfl rfl) (ia_cons (ie_var 1) (ia_cons ie_int (ia_cons (ie_gInt (by rfl) T.g_LONGEST) ia_nil)))))
    (iss_one (is_ret (ie_call (d_turned_by T) (hr.mono (by decide)) (by rfl) (takes_of rfl rfl rfl rfl) (ia_cons (ie_var 0) (ia_cons (ie_var 1) ia_nil)))))))
theorem d_all_turns (T : Top K mg) : Def P w K mg base 5 "all_turns" (top 30) ["word"] m_all_turns := by
  obtain ⟨f, fd, hm0, F⟩ := T.f_all_turns
  have S : FnScope ["word"] ["word"] (defScope (top 30)) := ⟨rfl, rfl, rfl, by decide +kernel, rfl, by decide +kernel, by decide +kernel⟩
  refine Def.mk' F hm0 S (F.binds fun _ _ _ _ _ _ us hl => match us, hl with | [_], _ => rfl) fun cdv A outer s H E hr => ?_
  exact (iss_cons (is_do (ie_call (d_check_word T) (hr.mono (by decide)) (by rfl) (takes_of rfl rfl rfl rfl) (ia_cons (ie_var 0) ia_nil)))
    (iss_one (is_ret (ie_ty (c_tuple rfl) (by rfl) T.b_tuple rfl (ia_cons (ie_call (d_unlike_turns T) (hr.mono (by decide)) (by rfl) (takes_of rfl rfl rfl rfl) (ia_cons (ie_var 0) ia_nil)) ia_nil)))))
theorem d_root (T : Top K mg) : Def P w K mg base 6 "root" (top 31) ["word"] m_root := by
  obtain ⟨f, fd, hm0, F⟩ := T.f_root
  have S : FnScope ["word"] ["word"] (defScope (top 31)) := ⟨rfl, rfl, rfl, by decide +kernel, rfl, by decide +kernel, by decide +kernel⟩
  refine Def.mk' F hm0 S (F.binds fun _ _ _ _ _ _ us hl => match us, hl with | [_], _ => rfl) fun cdv A outer s H E hr => ?_
  exact (iss_cons (is_do (ie_call (d_check_rooted T) (hr.mono (by decide)) (by rfl) (takes_of rfl rfl rfl rfl) (ia_cons (ie_var 0) ia_nil)))
    (iss_one (is_ret (ie_call (d_root_by T) (hr.mono (by decide)) (by rfl) (takes_of rfl rfl rfl rfl) (ia_cons (ie_var 0) ia_nil)))))
theorem d_letter_count (T : Top K mg) : Def P w K mg base 6 "letter_count" (top 33) ["word", "letter"] m_letter_count := by
  obtain ⟨f, fd, hm0, F⟩ := T.f_letter_count
  have S : FnScope ["word", "letter"] ["word", "letter"] (defScope (top 33)) := ⟨rfl, rfl, rfl, by decide +kernel, rfl, by decide +kernel, by decide +kernel⟩
  refine Def.mk' F hm0 S (F.binds fun _ _ _ _ _ _ us hl => match us, hl with | [_, _], _ => rfl) fun cdv A outer s H E hr => ?_
  exact (iss_cons (is_do (ie_call (d_check_word T) (hr.mono (by decide)) (by rfl) (takes_of rfl rfl rfl rfl) (ia_cons (ie_var 0) ia_nil)))
    (iss_cons (is_do (ie_call (d_check_letter T) (hr.mono (by decide)) (by rfl) (takes_of rfl rfl rfl rfl) (ia_cons (ie_var 1) ia_nil)))
    (iss_one (is_ret (ie_m pa_str PySem.F.slot_str_count rfl m_count (ie_var 0) (ia_cons (ie_var 1) ia_nil))))))
theorem d__law_well (T : Top K mg) : Def P w K mg base 1 "_law_well" (top 35) ["script", "turn"] m__law_well := by
  obtain ⟨f, fd, hm0, F⟩ := T.f__law_well
  have S : FnScope ["script", "turn", "own", "stir", "cell"] ["script", "turn"] (defScope (top 35)) := ⟨rfl, rfl, rfl, by decide +kernel, rfl, by decide +kernel, by decide +kernel⟩
  refine Def.mk' F hm0 S (F.binds fun _ _ _ _ _ _ us hl => match us, hl with | [_, _], _ => rfl) fun cdv A outer s H E hr => ?_
  exact (iss_cons (is_name 2 S.nd rfl (by first | exact Or.inl rfl | exact Or.inr rfl) (ie_if (it_cm (o_lt hr.units) (ie_var 1) (ie_b c_len (by rfl) T.b_len rfl (ia_cons (ie_var 0) ia_nil)) (by rfl)) (ie_ty c_int (by rfl) T.b_int rfl (ia_cons (ie_ix hr.u1 (ie_var 0) (ie_var 1)) ia_nil)) (ie_bin o_add (ie_bin o_add (ie_bin o_mul ie_int (ie_var 1)) (ie_bin o_mod (ie_ty c_int (by rfl) T.b_int rfl (ia_cons (ie_b (c_sum rfl) (by rfl) T.b_sum rfl (ia_cons (ie_cut (ie_var 0) io_none (io_some ie_int)) ia_nil)) ia_nil)) ie_int)) ie_int)))
    (iss_cons (is_name 3 S.nd rfl (by first | exact Or.inl rfl | exact Or.inr rfl) (ie_bin o_add ie_int (ie_bin o_mul ie_int (ie_var 1))))
    (iss_cons (is_for (passes_of rfl) rfl (ii_seq (ie_bin o_add (ie_cut (ie_var 0) io_none (io_some ie_int)) (ie_lst (ia_cons (ie_var 2) ia_nil)))) (ig_name 4 S.nd rfl (by first | exact Or.inl rfl | exact Or.inr rfl)) (iss_one (is_name 3 S.nd rfl (by first | exact Or.inl rfl | exact Or.inr rfl) (ie_bin o_mod (ie_ty c_int (by rfl) T.b_int rfl (ia_cons (ie_bin o_add (ie_bin o_add (ie_bin o_mul (ie_var 3) ie_int) (ie_bin o_mod (ie_ty c_int (by rfl) T.b_int rfl (ia_cons (ie_var 4) ia_nil)) ie_int)) ie_int) ia_nil)) ie_int))))
    (iss_one (is_ret (ie_lstM (ia_cons (ie_if (it_w (iw_or (it_cm (o_lt hr.units) (ie_var 2) ie_int (by rfl)) (iw_or1 (it_cm o_ge (ie_var 2) (ie_bin o_pow ie_int ie_int) (by rfl))))) (ie_bin o_mod (ie_ty c_int (by rfl) T.b_int rfl (ia_cons (ie_b c_abs (by rfl) T.b_abs rfl (ia_cons (ie_var 2) ia_nil)) ia_nil)) (ie_bin o_pow ie_int ie_int)) ie_int) (ia_cons (ie_var 3) (ia_cons ie_int ia_nil)))))))))
theorem d__law_take (T : Top K mg) : Def P w K mg base 1 "_law_take" (top 36) ["well", "many"] m__law_take := by
  obtain ⟨f, fd, hm0, F⟩ := T.f__law_take
  have S : FnScope ["well", "many", "figure", "by"] ["well", "many"] (defScope (top 36)) := ⟨rfl, rfl, rfl, by decide +kernel, rfl, by decide +kernel, by decide +kernel⟩
  refine Def.mk' F hm0 S (F.binds fun _ _ _ _ _ _ us hl => match us, hl with | [_, _], _ => rfl) fun cdv A outer s H E hr => ?_
  exact (iss_cons (is_if (it_cm o_gt (ie_ix hr.u1 (ie_var 0) ie_int) ie_int (by rfl)) (iss_cons (is_set (ie_b c_divmod (by rfl) T.b_divmod rfl (ia_cons (ie_ix hr.u1 (ie_var 0) ie_int) (ia_cons (ie_var 1) ia_nil))) (ig_tup rfl (igs_cons (ig_sub hr.u1 (ie_var 0) ie_int) (igs_cons (ig_name 2 S.nd rfl (by first | exact Or.inl rfl | exact Or.inr rfl)) igs_nil))))
    (iss_one (is_ret (ie_var 2)))) iss_nil)
    (iss_cons (is_set (ie_bin o_add (ie_ix hr.u1 (ie_var 0) ie_int) ie_int) (ig_sub hr.u1 (ie_var 0) ie_int))
    (iss_cons (is_name 3 S.nd rfl (by first | exact Or.inl rfl | exact Or.inr rfl) (ie_bin o_add (ie_bin o_mod (ie_ty c_int (by rfl) T.b_int rfl (ia_cons (ie_ix hr.u1 (ie_var 0) ie_int) ia_nil)) ie_int) ie_int))
    (iss_cons (is_set (ie_bin o_mod (ie_ty c_int (by rfl) T.b_int rfl (ia_cons (ie_bin o_add (ie_bin o_add (ie_bin o_mul (ie_ix hr.u1 (ie_var 0) ie_int) (ie_var 3)) (ie_bin o_mul ie_int (ie_ix hr.u1 (ie_var 0) ie_int))) ie_int) ia_nil)) ie_int) (ig_sub hr.u1 (ie_var 0) ie_int))
    (iss_one (is_ret (ie_bin o_mod (ie_ty c_int (by rfl) T.b_int rfl (ia_cons (ie_bin o_fdiv (ie_ix hr.u1 (ie_var 0) ie_int) ie_int) ia_nil)) (ie_var 1))))))))
theorem d__law_pick (T : Top K mg) : Def P w K mg base 2 "_law_pick" (top 37) ["well", "some"] m__law_pick := by
  obtain ⟨f, fd, hm0, F⟩ := T.f__law_pick
  have S : FnScope ["well", "some"] ["well", "some"] (defScope (top 37)) := ⟨rfl, rfl, rfl, by decide +kernel, rfl, by decide +kernel, by decide +kernel⟩
  refine Def.mk' F hm0 S (F.binds fun _ _ _ _ _ _ us hl => match us, hl with | [_, _], _ => rfl) fun cdv A outer s H E hr => ?_
  exact (iss_one (is_ret (ie_ix hr.u1 (ie_var 1) (ie_call (d__law_take T) (hr.mono (by decide)) (by rfl) (takes_of rfl rfl rfl rfl) (ia_cons (ie_var 0) (ia_cons (ie_b c_len (by rfl) T.b_len rfl (ia_cons (ie_var 1) ia_nil)) ia_nil))))))
theorem d__law_is (T : Top K mg) : ∀ n : Nat, Def P w K mg base (1 + n) "_law_is" (top 38) ["one", "due"] (m__law_is n)
  | 0 => Def.zero T.f__law_is (fun F => F.binds fun _ _ _ _ _ _ us hl => match us, hl with | [_, _], _ => rfl)
  | n + 1 => by
    have ih := d__law_is T n
    obtain ⟨f, fd, hm0, F⟩ := T.f__law_is
    have S : FnScope ["one", "due", "at", "each"] ["one", "due"] (defScope (top 38)) := ⟨rfl, rfl, rfl, by decide +kernel, rfl, by decide +kernel, by decide +kernel⟩
    refine Def.mk' F hm0 S (F.binds fun _ _ _ _ _ _ us hl => match us, hl with | [_, _], _ => rfl) fun cdv A outer s H E hr => ?_
    exact (iss_cons (is_if (it_tru (ie_b c_isi (by rfl) T.b_isinstance rfl (ia_cons (ie_var 1) (ia_cons (ie_tyName "tuple" (by rfl) T.b_tuple rfl) ia_nil)))) (iss_cons (is_if (it_w (iw_or (it_not (it_tru (ie_b c_isi (by rfl) T.b_isinstance rfl (ia_cons (ie_var 0) (ia_cons (ie_tyName "tuple" (by rfl) T.b_tuple rfl) ia_nil))))) (iw_or1 (it_cm (o_ne2 hr.units) (ie_b c_len (by rfl) T.b_len rfl (ia_cons (ie_var 0) ia_nil)) (ie_b c_len (by rfl) T.b_len rfl (ia_cons (ie_var 1) ia_nil)) (by rfl))))) (iss_one (is_ret ie_bl)) iss_nil)
    (iss_one (is_ret (ie_b (c_all rfl) (by rfl) T.b_all rfl (ia_cons (ie_lc (own := [("at", 2), ("each", 3)]) rfl S.nd (ii_en (by rfl) T.b_enumerate (ie_var 1)) (blkOk_by (by kernel_rfl)) (fun _ _ _ _ _ => (ig_tup rfl (igs_cons (ig_name 2 S.nd rfl (by first | exact Or.inl rfl | exact Or.inr rfl)) (igs_cons (ig_name 3 S.nd rfl (by first | exact Or.inl rfl | exact Or.inr rfl)) igs_nil)))) (fun _ _ _ _ _ => its_nil) (fun _ _ _ _ _ => (ie_call ih (hr.mono (Nat.le_refl _)) (by rfl) takes0 (ia_cons (ie_ix hr.u1 (ie_var 0) (ie_var 2)) (ia_cons (ie_var 3) ia_nil))))) ia_nil))))) iss_nil)
    (iss_cons (is_if (it_tru (ie_b c_isi (by rfl) T.b_isinstance rfl (ia_cons (ie_var 1) (ia_cons (ie_tyName "list" (by rfl) T.b_list rfl) ia_nil)))) (iss_one (is_ret (ie_and (ie_b c_isi (by rfl) T.b_isinstance rfl (ia_cons (ie_var 0) (ia_cons (ie_tyName "list" (by rfl) T.b_list rfl) ia_nil))) (ie_one (ie_call ih (hr.mono (Nat.le_refl _)) (by rfl) (takes_of rfl rfl rfl rfl) (ia_cons (ie_ty (c_tuple rfl) (by rfl) T.b_tuple rfl (ia_cons (ie_var 0) ia_nil)) (ia_cons (ie_ty (c_tuple rfl) (by rfl) T.b_tuple rfl (ia_cons (ie_var 1) ia_nil)) ia_nil))))))) iss_nil)
    (iss_cons (is_if (it_tru (ie_b c_isi (by rfl) T.b_isinstance rfl (ia_cons (ie_var 1) (ia_cons (ie_tyName "dict" (by rfl) T.b_dict rfl) ia_nil)))) (iss_one (is_ret (ie_and (ie_b c_isi (by rfl) T.b_isinstance rfl (ia_cons (ie_var 0) (ia_cons (ie_tyName "dict" (by rfl) T.b_dict rfl) ia_nil))) (ie_one (ie_cm (o_eq2 hr.units) (ie_var 0) (ie_var 1) (by rfl)))))) iss_nil)
    (iss_cons (is_if (it_w (iw_or (it_cm o_is (ie_var 1) ie_non (by rfl)) (iw_or (it_cm o_is (ie_var 1) ie_bl (by rfl)) (iw_or1 (it_cm o_is (ie_var 1) ie_bl (by rfl)))))) (iss_one (is_ret (ie_if (it_cm o_is (ie_var 1) ie_non (by rfl)) (ie_cm o_is (ie_var 0) ie_non (by rfl)) (ie_if (it_cm o_is (ie_var 1) ie_bl (by rfl)) (ie_cm o_is (ie_var 0) ie_bl (by rfl)) (ie_cm o_is (ie_var 0) ie_bl (by rfl)))))) iss_nil)
    (iss_cons (is_if (it_tru (ie_b c_isi (by rfl) T.b_isinstance rfl (ia_cons (ie_var 1) (ia_cons (ie_tyName "int" (by rfl) T.b_int rfl) ia_nil)))) (iss_one (is_ret (ie_and (ie_b c_isi (by rfl) T.b_isinstance rfl (ia_cons (ie_var 0) (ia_cons (ie_tyName "int" (by rfl) T.b_int rfl) ia_nil))) (ie_and (ie_not (ie_b c_isi (by rfl) T.b_isinstance rfl (ia_cons (ie_var 0) (ia_cons (ie_tyName "bool" (by rfl) T.b_bool rfl) ia_nil)))) (ie_one (ie_cm (o_eq2 hr.units) (ie_var 0) (ie_var 1) (by rfl))))))) iss_nil)
    (iss_one (is_ret (ie_and (ie_b c_isi (by rfl) T.b_isinstance rfl (ia_cons (ie_var 0) (ia_cons (ie_tyName "str" (by rfl) T.b_str rfl) ia_nil))) (ie_one (ie_cm (o_eq2 hr.units) (ie_var 0) (ie_var 1) (by rfl)))))))))))
theorem d__law_is_word (T : Top K mg) : Def P w K mg base 1 "_law_is_word" (top 39) ["value"] m__law_is_word := by
  obtain ⟨f, fd, hm0, F⟩ := T.f__law_is_word
  have S : FnScope ["value", "letter"] ["value"] (defScope (top 39)) := ⟨rfl, rfl, rfl, by decide +kernel, rfl, by decide +kernel, by decide +kernel⟩
  refine Def.mk' F hm0 S (F.binds fun _ _ _ _ _ _ us hl => match us, hl with | [_], _ => rfl) fun cdv A outer s H E hr => ?_
  exact (iss_one (is_ret (ie_and (ie_b c_isi (by rfl) T.b_isinstance rfl (ia_cons (ie_var 0) (ia_cons (ie_tyName "str" (by rfl) T.b_str rfl) ia_nil))) (ie_and (ie_cm (o_lt hr.units) (ie_b c_len (by rfl) T.b_len rfl (ia_cons (ie_var 0) ia_nil)) ie_int (by rfl)) (ie_one (ie_cm (o_eq2 hr.units) (ie_lc (own := [("letter", 1)]) rfl S.nd (ii_seq (ie_var 0)) (blkOk_by (by kernel_rfl)) (fun _ _ _ _ _ => (ig_name 1 S.nd rfl (by first | exact Or.inl rfl | exact Or.inr rfl))) (fun _ _ _ _ _ => (its_one (it_cm (o_notIn hr.u66) (ie_var 1) (ie_str [97, 98, 99]) (by rfl)))) (fun _ _ _ _ _ => (ie_var 1))) (ie_lst ia_nil) (by rfl)))))))
theorem d__law_turned (T : Top K mg) : Def P w K mg base 1 "_law_turned" (top 40) ["word", "size"] m__law_turned := by
  obtain ⟨f, fd, hm0, F⟩ := T.f__law_turned
  have S : FnScope ["word", "size", "at"] ["word", "size"] (defScope (top 40)) := ⟨rfl, rfl, rfl, by decide +kernel, rfl, by decide +kernel, by decide +kernel⟩
  refine Def.mk' F hm0 S (F.binds fun _ _ _ _ _ _ us hl => match us, hl with | [_, _], _ => rfl) fun cdv A outer s H E hr => ?_
  exact (iss_cons (is_name 2 S.nd rfl (by first | exact Or.inl rfl | exact Or.inr rfl) (ie_bin o_mod (ie_ty c_int (by rfl) T.b_int rfl (ia_cons (ie_var 1) ia_nil)) (ie_b (c_max2 rfl) (by rfl) T.b_max rfl (ia_cons ie_int (ia_cons (ie_b c_len (by rfl) T.b_len rfl (ia_cons (ie_var 0) ia_nil)) ia_nil)))))
    (iss_one (is_ret (ie_bin o_add (ie_cut (ie_var 0) (io_some (ie_var 2)) io_none) (ie_cut (ie_var 0) io_none (io_some (ie_var 2)))))))
theorem d__law_turns (T : Top K mg) : Def P w K mg base 2 "_law_turns" (top 41) ["word"] m__law_turns := by
  obtain ⟨f, fd, hm0, F⟩ := T.f__law_turns
  have S : FnScope ["word", "found", "at"] ["word"] (defScope (top 41)) := ⟨rfl, rfl, rfl, by decide +kernel, rfl, by decide +kernel, by decide +kernel⟩
  refine Def.mk' F hm0 S (F.binds fun _ _ _ _ _ _ us hl => match us, hl with | [_], _ => rfl) fun cdv A outer s H E hr => ?_
  exact (iss_cons (is_name 1 S.nd rfl (by first | exact Or.inl rfl | exact Or.inr rfl) (ie_dispM (ip_cons (ie_var 0) ie_bl ip_nil)))
    (iss_cons (is_for (passes_of rfl) rfl (ii_rng1 (by rfl) T.b_range (ia_cons (ie_b c_len (by rfl) T.b_len rfl (ia_cons (ie_var 0) ia_nil)) ia_nil)) (ig_name 2 S.nd rfl (by first | exact Or.inl rfl | exact Or.inr rfl)) (iss_one (is_set ie_bl (ig_sub hr.u1 (ie_var 1) (ie_call (d__law_turned T) (hr.mono (by decide)) (by rfl) (takes_of rfl rfl rfl rfl) (ia_cons (ie_var 0) (ia_cons (ie_var 2) ia_nil)))))))
    (iss_one (is_ret (ie_ty (c_tuple rfl) (by rfl) T.b_tuple rfl (ia_cons (ie_b (c_sorted hr.u66 rfl) (by rfl) T.b_sorted rfl (ia_cons (ie_ty (c_list rfl) (by rfl) T.b_list rfl (ia_cons (ie_var 1) ia_nil)) ia_nil)) ia_nil))))))
theorem d__law_root (T : Top K mg) : Def P w K mg base 1 "_law_root" (top 42) ["word"] m__law_root := by
  obtain ⟨f, fd, hm0, F⟩ := T.f__law_root
  have S : FnScope ["word", "size"] ["word"] (defScope (top 42)) := ⟨rfl, rfl, rfl, by decide +kernel, rfl, by decide +kernel, by decide +kernel⟩
  refine Def.mk' F hm0 S (F.binds fun _ _ _ _ _ _ us hl => match us, hl with | [_], _ => rfl) fun cdv A outer s H E hr => ?_
  exact (iss_cons (is_for (passes_of rfl) rfl (ii_rng2 (by rfl) T.b_range (ia_cons ie_int (ia_cons (ie_bin o_add (ie_b c_len (by rfl) T.b_len rfl (ia_cons (ie_var 0) ia_nil)) ie_int) ia_nil))) (ig_name 1 S.nd rfl (by first | exact Or.inl rfl | exact Or.inr rfl)) (iss_one (is_if (it_w (iw_and (it_cm (o_eq2 hr.units) (ie_bin o_mod (ie_ty c_int (by rfl) T.b_int rfl (ia_cons (ie_b c_len (by rfl) T.b_len rfl (ia_cons (ie_var 0) ia_nil)) ia_nil)) (ie_var 1)) ie_int (by rfl)) (iw_and1 (it_cm (o_eq2 hr.units) (ie_bin o_mul (ie_cut (ie_var 0) io_none (io_some (ie_var 1))) (ie_bin o_fdiv (ie_b c_len (by rfl) T.b_len rfl (ia_cons (ie_var 0) ia_nil)) (ie_var 1))) (ie_var 0) (by rfl))))) (iss_one (is_ret (ie_cut (ie_var 0) io_none (io_some (ie_var 1))))) iss_nil)))
    (iss_one (is_ret (ie_var 0))))
theorem d__law_drawn_word (T : Top K mg) : Def P w K mg base 2 "_law_drawn_word" (top 43) ["well", "most"] m__law_drawn_word := by
  obtain ⟨f, fd, hm0, F⟩ := T.f__law_drawn_word
  have S : FnScope ["well", "most", "way", "size", "number", "few", "at"] ["well", "most"] (defScope (top 43)) := ⟨rfl, rfl, rfl, by decide +kernel, rfl, by decide +kernel, by decide +kernel⟩
  refine Def.mk' F hm0 S (F.binds fun _ _ _ _ _ _ us hl => match us, hl with | [_, _], _ => rfl) fun cdv A outer s H E hr => ?_
  exact (iss_cons (is_set (ie_tup (ia_cons (ie_call (d__law_take T) (hr.mono (by decide)) (by rfl) (takes_of rfl rfl rfl rfl) (ia_cons (ie_var 0) (ia_cons ie_int ia_nil))) (ia_cons (ie_call (d__law_take T) (hr.mono (by decide)) (by rfl) (takes_of rfl rfl rfl rfl) (ia_cons (ie_var 0) (ia_cons (ie_bin o_add (ie_var 1) ie_int) ia_nil))) (ia_cons (ie_bin o_add ie_int (ie_call (d__law_take T) (hr.mono (by decide)) (by rfl) (takes_of rfl rfl rfl rfl) (ia_cons (ie_var 0) (ia_cons ie_int ia_nil)))) ia_nil)))) (ig_tup rfl (igs_cons (ig_name 2 S.nd rfl (by first | exact Or.inl rfl | exact Or.inr rfl)) (igs_cons (ig_name 3 S.nd rfl (by first | exact Or.inl rfl | exact Or.inr rfl)) (igs_cons (ig_name 4 S.nd rfl (by first | exact Or.inl rfl | exact Or.inr rfl)) igs_nil)))))
    (iss_cons (is_if (it_cm (o_eq2 hr.units) (ie_var 2) ie_int (by rfl)) (iss_one (is_ret (ie_bin o_mul (ie_ix hr.u1 (ie_str [97, 98, 99]) (ie_call (d__law_take T) (hr.mono (by decide)) (by rfl) (takes_of rfl rfl rfl rfl) (ia_cons (ie_var 0) (ia_cons ie_int ia_nil)))) (ie_var 3)))) iss_nil)
    (iss_cons (is_if (it_cm (o_lt hr.units) (ie_var 2) ie_int (by rfl)) (iss_cons (is_name 5 S.nd rfl (by first | exact Or.inl rfl | exact Or.inr rfl) (ie_m pa_str PySem.F.slot_str_join rfl m_join (ie_str []) (ia_cons (ie_lc (own := [("at", 6)]) rfl S.nd (ii_rng1 (by rfl) T.b_range (ia_cons (ie_bin o_add ie_int (ie_call (d__law_take T) (hr.mono (by decide)) (by rfl) (takes_of rfl rfl rfl rfl) (ia_cons (ie_var 0) (ia_cons ie_int ia_nil)))) ia_nil)) (blkOk_by (by kernel_rfl)) (fun _ _ _ _ _ => (ig_name 6 S.nd rfl (by first | exact Or.inl rfl | exact Or.inr rfl))) (fun _ _ _ _ _ => its_nil) (fun _ _ _ _ _ => (ie_ix hr.u1 (ie_str [97, 98, 99]) (ie_call (d__law_take T) (hr.mono (by decide)) (by rfl) takes0 (ia_cons (ie_var 0) (ia_cons (ie_var 4) ia_nil)))))) ia_nil)))
    (iss_one (is_ret (ie_call (d__law_turned T) (hr.mono (by decide)) (by rfl) (takes_of rfl rfl rfl rfl) (ia_cons (ie_cut (ie_bin o_mul (ie_var 5) ie_int) io_none (io_some (ie_bin o_mul (ie_bin o_fdiv (ie_var 3) (ie_b c_len (by rfl) T.b_len rfl (ia_cons (ie_var 5) ia_nil))) (ie_b c_len (by rfl) T.b_len rfl (ia_cons (ie_var 5) ia_nil))))) (ia_cons (ie_call (d__law_take T) (hr.mono (by decide)) (by rfl) (takes_of rfl rfl rfl rfl) (ia_cons (ie_var 0) (ia_cons ie_int ia_nil))) ia_nil)))))) iss_nil)
    (iss_one (is_ret (ie_m pa_str PySem.F.slot_str_join rfl m_join (ie_str []) (ia_cons (ie_lc (own := [("at", 6)]) rfl S.nd (ii_rng1 (by rfl) T.b_range (ia_cons (ie_var 3) ia_nil)) (blkOk_by (by kernel_rfl)) (fun _ _ _ _ _ => (ig_name 6 S.nd rfl (by first | exact Or.inl rfl | exact Or.inr rfl))) (fun _ _ _ _ _ => its_nil) (fun _ _ _ _ _ => (ie_ix hr.u1 (ie_str [97, 98, 99]) (ie_call (d__law_take T) (hr.mono (by decide)) (by rfl) takes0 (ia_cons (ie_var 0) (ia_cons (ie_var 4) ia_nil)))))) ia_nil)))))))
theorem d__law_bent_word (T : Top K mg) : Def P w K mg base 3 "_law_bent_word" (top 44) ["well", "word"] m__law_bent_word := by
  obtain ⟨f, fd, hm0, F⟩ := T.f__law_bent_word
  have S : FnScope ["well", "word", "at", "sign", "some"] ["well", "word"] (defScope (top 44)) := ⟨rfl, rfl, rfl, by decide +kernel, rfl, by decide +kernel, by decide +kernel⟩
  refine Def.mk' F hm0 S (F.binds fun _ _ _ _ _ _ us hl => match us, hl with | [_, _], _ => rfl) fun cdv A outer s H E hr => ?_
  exact (iss_cons (is_par2 rfl S.nd (ia_cons (ie_call (d__law_take T) (hr.mono (by decide)) (by rfl) (takes_of rfl rfl rfl rfl) (ia_cons (ie_var 0) (ia_cons (ie_bin o_add (ie_b c_len (by rfl) T.b_len rfl (ia_cons (ie_var 1) ia_nil)) ie_int) ia_nil))) (ia_cons (ie_call (d__law_pick T) (hr.mono (by decide)) (by rfl) (takes_of rfl rfl rfl rfl) (ia_cons (ie_var 0) (ia_cons (ie_lst (ia_cons (ie_str [100]) (ia_cons (ie_str [65]) (ia_cons (ie_str [32]) (ia_cons (ie_str [49]) (ia_cons (ie_str []) (ia_cons (ie_str [97, 98]) (ia_cons (ie_str [10]) ia_nil)))))))) ia_nil))) ia_nil)))
    (iss_cons (is_name 4 S.nd rfl (by first | exact Or.inl rfl | exact Or.inr rfl) (ie_lst (ia_cons (ie_bin o_add (ie_bin o_add (ie_cut (ie_var 1) io_none (io_some (ie_var 2))) (ie_var 3)) (ie_cut (ie_var 1) (io_some (ie_var 2)) io_none)) (ia_cons (ie_bin o_add (ie_var 1) (ie_str [97, 98, 99, 97, 98, 99, 97, 98, 99, 97, 98, 99, 97])) (ia_cons (ie_m0 pa_str PySem.F.slot_str_upper rfl m_upper (ie_var 1)) (ia_cons (ie_ty (c_tuple rfl) (by rfl) T.b_tuple rfl (ia_cons (ie_var 1) ia_nil)) (ia_cons (ie_ty (c_list rfl) (by rfl) T.b_list rfl (ia_cons (ie_var 1) ia_nil)) (ia_cons (ie_tup (ia_cons (ie_var 1) ia_nil)) (ia_cons (ie_disp (ip_cons (ie_var 1) ie_int ip_nil)) (ia_cons (ie_bin o_add (ie_var 1) (ie_str [100])) ia_nil))))))))))
    (iss_one (is_ret (ie_call (d__law_pick T) (hr.mono (by decide)) (by rfl) (takes_of rfl rfl rfl rfl) (ia_cons (ie_var 0) (ia_cons (ie_bin o_add (ie_var 4) (ie_lst (ia_cons ie_non (ia_cons ie_int (ia_cons ie_bl (ia_cons (ie_str [97, 98, 100]) (ia_cons (ie_str [97, 98, 99, 97, 98, 99, 97, 98, 99, 97, 98, 99, 97]) (ia_cons (ie_lst (ia_cons (ie_var 1) ia_nil)) (ia_cons ie_int ia_nil))))))))) ia_nil)))))))
theorem d__law_word_right (T : Top K mg) : Def P w K mg base 8 "_law_word_right" (top 45) ["well", "word"] m__law_word_right := by
  obtain ⟨f, fd, hm0, F⟩ := T.f__law_word_right
  have S : FnScope ["well", "word", "many", "due", "size", "more", "here", "told", "turn", "letter"] ["well", "word"] (defScope (top 45)) := ⟨rfl, rfl, rfl, by decide +kernel, rfl, by decide +kernel, by decide +kernel⟩
  refine Def.mk' F hm0 S (F.binds fun _ _ _ _ _ _ us hl => match us, hl with | [_, _], _ => rfl) fun cdv A outer s H E hr => ?_
  exact (iss_cons (is_set (ie_tup (ia_cons (ie_b c_len (by rfl) T.b_len rfl (ia_cons (ie_var 1) ia_nil)) (ia_cons (ie_call (d__law_turns T) (hr.mono (by decide)) (by rfl) (takes_of rfl rfl rfl rfl) (ia_cons (ie_var 1) ia_nil)) (ia_cons (ie_call (d__law_take T) (hr.mono (by decide)) (by rfl) (takes_of rfl rfl rfl rfl) (ia_cons (ie_var 0) (ia_cons ie_int ia_nil))) (ia_cons (ie_call (d__law_take T) (hr.mono (by decide)) (by rfl) (takes_of rfl rfl rfl rfl) (ia_cons (ie_var 0) (ia_cons ie_int ia_nil))) ia_nil))))) (ig_tup rfl (igs_cons (ig_name 2 S.nd rfl (by first | exact Or.inl rfl | exact Or.inr rfl)) (igs_cons (ig_name 3 S.nd rfl (by first | exact Or.inl rfl | exact Or.inr rfl)) (igs_cons (ig_name 4 S.nd rfl (by first | exact Or.inl rfl | exact Or.inr rfl)) (igs_cons (ig_name 5 S.nd rfl (by first | exact Or.inl rfl | exact Or.inr rfl)) igs_nil))))))
    (iss_cons (is_name 6 S.nd rfl (by first | exact Or.inl rfl | exact Or.inr rfl) (ie_call (d__law_turned T) (hr.mono (by decide)) (by rfl) (takes_of rfl rfl rfl rfl) (ia_cons (ie_var 1) (ia_cons (ie_var 4) ia_nil))))
    (iss_cons (is_name 7 S.nd rfl (by first | exact Or.inl rfl | exact Or.inr rfl) (ie_lst (ia_cons (ie_call (d_turned T) (hr.mono (by decide)) (by rfl) (takes_of rfl rfl rfl rfl) (ia_cons (ie_var 1) (ia_cons (ie_var 4) ia_nil))) (ia_cons (ie_callK0 (order := [1, 0]) (d_turned T) (hr.mono (by decide)) (by rfl) (takes_of rfl rfl rfl rfl) (ik_cons (ie_var 4) (ik_cons (ie_var 1) ik_nil)) (by decide) (fun _ _ _ _ _ _ us ws h1 h2 => match us, ws, h1, h2 with | [], [_, _], _, _ => rfl)) (ia_cons (ie_call (d_turned T) (hr.mono (by decide)) (by rfl) (takes_of rfl rfl rfl rfl) (ia_cons (ie_var 1) (ia_cons ie_int ia_nil))) (ia_cons (ie_call (d_turned T) (hr.mono (by decide)) (by rfl) (takes_of rfl rfl rfl rfl) (ia_cons (ie_var 1) (ia_cons (ie_var 2) ia_nil))) (ia_cons (ie_call (d_turned T) (hr.mono (by decide)) (by rfl) (takes_of rfl rfl rfl rfl) (ia_cons (ie_call (d_turned T) (hr.mono (by decide)) (by rfl) (takes_of rfl rfl rfl rfl) (ia_cons (ie_var 1) (ia_cons (ie_var 4) ia_nil))) (ia_cons (ie_var 5) ia_nil))) (ia_cons (ie_call (d_all_turns T) (hr.mono (by decide)) (by rfl) (takes_of rfl rfl rfl rfl) (ia_cons (ie_var 1) ia_nil)) (ia_cons (ie_callK0 (order := [0]) (d_all_turns T) (hr.mono (by decide)) (by rfl) (takes_of rfl rfl rfl rfl) (ik_cons (ie_var 1) ik_nil) (by decide) (fun _ _ _ _ _ _ us ws h1 h2 => match us, ws, h1, h2 with | [], [_], _, _ => rfl)) (ia_cons (ie_call (d_all_turns T) (hr.mono (by decide)) (by rfl) (takes_of rfl rfl rfl rfl) (ia_cons (ie_var 6) ia_nil)) ia_nil))))))))))
    (iss_cons (is_if (it_not (it_tru (ie_call (d__law_is T 6) (hr.mono (by decide)) (by rfl) (takes_of rfl rfl rfl rfl) (ia_cons (ie_var 7) (ia_cons (ie_lst (ia_cons (ie_var 6) (ia_cons (ie_var 6) (ia_cons (ie_var 1) (ia_cons (ie_var 1) (ia_cons (ie_call (d__law_turned T) (hr.mono (by decide)) (by rfl) (takes_of rfl rfl rfl rfl) (ia_cons (ie_var 1) (ia_cons (ie_bin o_add (ie_var 4) (ie_var 5)) ia_nil))) (ia_cons (ie_var 3) (ia_cons (ie_var 3) (ia_cons (ie_var 3) ia_nil))))))))) ia_nil))))) (iss_one (is_ret ie_bl)) iss_nil)
    (iss_cons (is_if (it_cm (o_ne2 hr.units) (ie_lc (own := [("turn", 8)]) rfl S.nd (ii_rng1 (by rfl) T.b_range (ia_cons ie_int ia_nil)) (blkOk_by (by kernel_rfl)) (fun _ _ _ _ _ => (ig_name 8 S.nd rfl (by first | exact Or.inl rfl | exact Or.inr rfl))) (fun _ _ _ _ _ => (its_one (it_w (iw_or (it_cm (o_notIn hr.u66) (ie_call (d_turned T) (hr.mono (by decide)) (by rfl) takes0 (ia_cons (ie_var 1) (ia_cons (ie_var 8) ia_nil))) (ie_var 3) (by rfl)) (iw_or1 (it_cm (o_ne2 hr.units) (ie_call (d_turned T) (hr.mono (by decide)) (by rfl) takes0 (ia_cons (ie_var 1) (ia_cons (ie_var 8) ia_nil))) (ie_call (d__law_turned T) (hr.mono (by decide)) (by rfl) takes0 (ia_cons (ie_var 1) (ia_cons (ie_var 8) ia_nil))) (by rfl))))))) (fun _ _ _ _ _ => (ie_var 8))) (ie_lst ia_nil) (by rfl)) (iss_one (is_ret ie_bl)) iss_nil)
    (iss_cons (is_if (it_cm (o_eq2 hr.units) (ie_var 1) (ie_str []) (by rfl)) (iss_one (is_ret (ie_call (d__law_is T 6) (hr.mono (by decide)) (by rfl) (takes_of rfl rfl rfl rfl) (ia_cons (ie_lst (ia_cons (ie_call (d_turned T) (hr.mono (by decide)) (by rfl) (takes_of rfl rfl rfl rfl) (ia_cons (ie_str []) (ia_cons ie_int ia_nil))) (ia_cons (ie_call (d_all_turns T) (hr.mono (by decide)) (by rfl) (takes_of rfl rfl rfl rfl) (ia_cons (ie_str []) ia_nil)) ia_nil))) (ia_cons (ie_lst (ia_cons (ie_str []) (ia_cons (ie_tup (ia_cons (ie_str []) ia_nil)) ia_nil))) ia_nil))))) iss_nil)
    (iss_cons (is_if (it_w (iw_or (it_cm (o_ne2 hr.units) (ie_b c_len (by rfl) T.b_len rfl (ia_cons (ie_var 3) ia_nil)) (ie_b c_len (by rfl) T.b_len rfl (ia_cons (ie_call (d__law_root T) (hr.mono (by decide)) (by rfl) (takes_of rfl rfl rfl rfl) (ia_cons (ie_var 1) ia_nil)) ia_nil)) (by rfl)) (iw_or1 (it_cm (o_ne2 hr.units) (ie_b c_len (by rfl) T.b_len rfl (ia_cons (ie_call (d_root T) (hr.mono (by decide)) (by rfl) (takes_of rfl rfl rfl rfl) (ia_cons (ie_var 1) ia_nil)) ia_nil)) (ie_b c_len (by rfl) T.b_len rfl (ia_cons (ie_var 3) ia_nil)) (by rfl))))) (iss_one (is_ret ie_bl)) iss_nil)
    (iss_cons (is_if (it_cm (o_ne2 hr.units) (ie_call (d_all_turns T) (hr.mono (by decide)) (by rfl) (takes_of rfl rfl rfl rfl) (ia_cons (ie_rev (ie_var 1)) ia_nil)) (ie_ty (c_tuple rfl) (by rfl) T.b_tuple rfl (ia_cons (ie_b (c_sorted hr.u66 rfl) (by rfl) T.b_sorted rfl (ia_cons (ie_lc (own := [("turn", 8)]) rfl S.nd (ii_seq (ie_var 3)) (blkOk_by (by kernel_rfl)) (fun _ _ _ _ _ => (ig_name 8 S.nd rfl (by first | exact Or.inl rfl | exact Or.inr rfl))) (fun _ _ _ _ _ => its_nil) (fun _ _ _ _ _ => (ie_rev (ie_var 8)))) ia_nil)) ia_nil)) (by rfl)) (iss_one (is_ret ie_bl)) iss_nil)
    (iss_one (is_ret (ie_cm (o_eq2 hr.units) (ie_lc (own := [("letter", 9)]) rfl S.nd (ii_seq (ie_str [97, 98, 99])) (blkOk_by (by kernel_rfl)) (fun _ _ _ _ _ => (ig_name 9 S.nd rfl (by first | exact Or.inl rfl | exact Or.inr rfl))) (fun _ _ _ _ _ => (its_one (it_cm (o_ne2 hr.units) (ie_call (d_letter_count T) (hr.mono (by decide)) (by rfl) takes0 (ia_cons (ie_var 6) (ia_cons (ie_var 9) ia_nil))) (ie_m pa_str PySem.F.slot_str_count rfl m_count (ie_var 1) (ia_cons (ie_var 9) ia_nil)) (by rfl)))) (fun _ _ _ _ _ => (ie_var 9))) (ie_lst ia_nil) (by rfl))))))))))))
theorem d__law_refused_right (T : Top K mg) : Def P w K mg base 8 "_law_refused_right" (top 46) ["well", "word"] m__law_refused_right := by
  obtain ⟨c_InvalidWord, k_InvalidWord⟩ := T.c_InvalidWord
  obtain ⟨c_InvalidSize, k_InvalidSize⟩ := T.c_InvalidSize
  obtain ⟨c_WordError, k_WordError⟩ := T.c_WordError
  have x_all := T.x_all
  obtain ⟨f, fd, hm0, F⟩ := T.f__law_refused_right
  have S : FnScope ["well", "word", "none", "rows", "which", "one", "size", "due", "told", "e", "odd"] ["well", "word"] (defScope (top 46)) := ⟨rfl, rfl, rfl, by decide +kernel, rfl, by decide +kernel, by decide +kernel⟩
  refine Def.mk' F hm0 S (F.binds fun _ _ _ _ _ _ us hl => match us, hl with | [_, _], _ => rfl) fun cdv A outer s H E hr => ?_
  exact (iss_cons (is_name 2 S.nd rfl (by first | exact Or.inl rfl | exact Or.inr rfl) (ie_call (d__law_bent_word T) (hr.mono (by decide)) (by rfl) (takes_of rfl rfl rfl rfl) (ia_cons (ie_var 0) (ia_cons (ie_var 1) ia_nil))))
    (iss_cons (is_name 2 S.nd rfl (by first | exact Or.inl rfl | exact Or.inr rfl) (ie_if (it_tru (ie_call (d__law_is_word T) (hr.mono (by decide)) (by rfl) (takes_of rfl rfl rfl rfl) (ia_cons (ie_var 2) ia_nil))) ie_non (ie_var 2)))
    (iss_cons (is_name 3 S.nd rfl (by first | exact Or.inl rfl | exact Or.inr rfl) (ie_lst (ia_cons (ie_tup (ia_cons ie_int (ia_cons (ie_var 2) (ia_cons ie_non (ia_cons (ie_lst (ia_cons (ie_str [119, 111, 114, 100]) (ia_cons (ie_var 2) ia_nil))) ia_nil))))) (ia_cons (ie_tup (ia_cons ie_int (ia_cons (ie_var 2) (ia_cons ie_non (ia_cons (ie_lst (ia_cons (ie_str [119, 111, 114, 100]) (ia_cons (ie_var 2) ia_nil))) ia_nil))))) ia_nil))))
    (iss_cons (is_for (passes_of rfl) rfl (ii_seq (ie_bin o_add (ie_var 3) (ie_lc (own := [("odd", 10)]) rfl S.nd (ii_seq (ie_lst (ia_cons ie_int (ia_cons (ie_neg ie_int) (ia_cons ie_bl (ia_cons ie_non (ia_cons (ie_str [48]) (ia_cons (ie_tup (ia_cons ie_int ia_nil)) (ia_cons (ie_bin o_pow ie_int ie_int) (ia_cons ie_bl ia_nil)))))))))) (blkOk_by (by kernel_rfl)) (fun _ _ _ _ _ => (ig_name 10 S.nd rfl (by first | exact Or.inl rfl | exact Or.inr rfl))) (fun _ _ _ _ _ => its_nil) (fun _ _ _ _ _ => (ie_tup (ia_cons ie_int (ia_cons (ie_var 1) (ia_cons (ie_var 10) (ia_cons (ie_lst (ia_cons (ie_str [115, 105, 122, 101]) (ia_cons (ie_var 10) ia_nil))) ia_nil))))))))) (ig_tup rfl (igs_cons (ig_name 4 S.nd rfl (by first | exact Or.inl rfl | exact Or.inr rfl)) (igs_cons (ig_name 5 S.nd rfl (by first | exact Or.inl rfl | exact Or.inr rfl)) (igs_cons (ig_name 6 S.nd rfl (by first | exact Or.inl rfl | exact Or.inr rfl)) (igs_cons (ig_name 7 S.nd rfl (by first | exact Or.inl rfl | exact Or.inr rfl)) igs_nil))))) (iss_cons (is_try (cv := .ref c_WordError) (i := 9) rfl rfl rfl S.nd rfl rfl ⟨by rfl, by decide, Or.inl k_WordError.1⟩ (takes_of rfl rfl rfl rfl) (fun c hc C hm => (k_WordError.2 c hc C hm).1)
    (fun V pn xe tkb pob => (iss_one (is_name 8 S.nd rfl (by first | exact Or.inl rfl | exact Or.inr rfl) (ie_lst (ia_cons (ie_str [108, 101, 116]) (ia_cons (ie_if (it_cm (o_eq2 hr.units) (ie_var 4) ie_int (by rfl)) (ie_call (d_turned T) (hr.mono (by decide)) (by rfl) tkb (ia_cons (ie_var 5) (ia_cons (ie_var 6) ia_nil))) (ie_call (d_all_turns T) (hr.mono (by decide)) (by rfl) tkb (ia_cons (ie_var 5) ia_nil))) ia_nil))))))
    (fun a dd C oe c p pn hm hz hf => (iss_one (is_name 8 S.nd rfl (by first | exact Or.inl rfl | exact Or.inr rfl) (ie_lst (ia_cons (ie_if (it_tru (ie_isE (d := "InvalidWord") (cv := .ref c_InvalidWord) (vv := .ref c_InvalidWord) (fun hc => x_all.cls c hc C hm) hz hf (fun hc => (k_InvalidWord.2 c hc C hm).2) (pe_glob (by rfl) k_InvalidWord.1 rfl) (fun _ h => h) (by rfl) T.b_isinstance)) (ie_str [119, 111, 114, 100]) (ie_if (it_tru (ie_isE (d := "InvalidSize") (cv := .ref c_InvalidSize) (vv := .ref c_InvalidSize) (fun hc => x_all.cls c hc C hm) hz hf (fun hc => (k_InvalidSize.2 c hc C hm).2) (pe_glob (by rfl) k_InvalidSize.1 rfl) (fun _ h => h) (by rfl) T.b_isinstance)) (ie_str [115, 105, 122, 101]) (ie_str [111, 100, 100]))) (ia_cons (ie_given (fun hc ha => x_all.given c hc C hm ha) hz hf) ia_nil)))))))
    (iss_one (is_if (it_not (it_tru (ie_call (d__law_is T 6) (hr.mono (by decide)) (by rfl) (takes_of rfl rfl rfl rfl) (ia_cons (ie_var 8) (ia_cons (ie_var 7) ia_nil))))) (iss_one (is_ret ie_bl)) iss_nil))))
    (iss_one (is_ret ie_bl))))))
theorem d__law_right (T : Top K mg) : Def P w K mg base 9 "_law_right" (top 47) ["well"] m__law_right := by
  obtain ⟨f, fd, hm0, F⟩ := T.f__law_right
  have S : FnScope ["well", "most", "word"] ["well"] (defScope (top 47)) := ⟨rfl, rfl, rfl, by decide +kernel, rfl, by decide +kernel, by decide +kernel⟩
  refine Def.mk' F hm0 S (F.binds fun _ _ _ _ _ _ us hl => match us, hl with | [_], _ => rfl) fun cdv A outer s H E hr => ?_
  exact (iss_cons (is_for (passes_of rfl) rfl (ii_seq (ie_lst (ia_cons ie_int (ia_cons ie_int (ia_cons ie_int (ia_cons ie_int (ia_cons ie_int (ia_cons ie_int (ia_cons ie_int (ia_cons ie_int ia_nil)))))))))) (ig_name 1 S.nd rfl (by first | exact Or.inl rfl | exact Or.inr rfl)) (iss_cons (is_name 2 S.nd rfl (by first | exact Or.inl rfl | exact Or.inr rfl) (ie_call (d__law_drawn_word T) (hr.mono (by decide)) (by rfl) (takes_of rfl rfl rfl rfl) (ia_cons (ie_var 0) (ia_cons (ie_var 1) ia_nil))))
    (iss_one (is_if (it_w (iw_or (it_not (it_tru (ie_call (d__law_word_right T) (hr.mono (by decide)) (by rfl) (takes_of rfl rfl rfl rfl) (ia_cons (ie_var 0) (ia_cons (ie_var 2) ia_nil))))) (iw_or1 (it_not (it_tru (ie_call (d__law_refused_right T) (hr.mono (by decide)) (by rfl) (takes_of rfl rfl rfl rfl) (ia_cons (ie_var 0) (ia_cons (ie_var 2) ia_nil)))))))) (iss_one (is_ret ie_bl)) iss_nil))))
    (iss_one (is_ret ie_bl)))
theorem d_law (T : Top K mg) : Def P w K mg base 10 "law" (top 48) ["script"] m_law := by
  obtain ⟨f, fd, hm0, F⟩ := T.f_law
  have S : FnScope ["script", "turn"] ["script"] (defScope (top 48)) := ⟨rfl, rfl, rfl, by decide +kernel, rfl, by decide +kernel, by decide +kernel⟩
  refine Def.mk' F hm0 S (F.binds fun _ _ _ _ _ _ us hl => match us, hl with | [_], _ => rfl) fun cdv A outer s H E hr => ?_
  exact (iss_one (is_ret (ie_b (c_all rfl) (by rfl) T.b_all rfl (ia_cons (ie_lc (own := [("turn", 1)]) rfl S.nd (ii_rng1 (by rfl) T.b_range (ia_cons (ie_b (c_max2 rfl) (by rfl) T.b_max rfl (ia_cons ie_int (ia_cons (ie_b (c_min2 rfl) (by rfl) T.b_min rfl (ia_cons (ie_b c_len (by rfl) T.b_len rfl (ia_cons (ie_var 0) ia_nil)) (ia_cons ie_int ia_nil))) ia_nil))) ia_nil)) (blkOk_by (by kernel_rfl)) (fun _ _ _ _ _ => (ig_name 1 S.nd rfl (by first | exact Or.inl rfl | exact Or.inr rfl))) (fun _ _ _ _ _ => its_nil) (fun _ _ _ _ _ => (ie_call (d__law_right T) (hr.mono (by decide)) (by rfl) takes0 (ia_cons (ie_call (d__law_well T) (hr.mono (by decide)) (by rfl) takes0 (ia_cons (ie_var 0) (ia_cons (ie_var 1) ia_nil))) ia_nil)))) ia_nil))))
end
end Lw
namespace Lw
open Mr
/-! ### plain data -/
def abc : List Nat := [97, 98, 99]
theorem abc_eq : [97, 98, 99] = abc := rfl
theorem abc_len : abc.length = 3 := rfl
/-- a word -/
def Wd (l : List Nat) : Prop := l.length ≤ 12 ∧ ∀ c ∈ l, c ∈ abc
def wdB : PV → Bool
  | .str l => l.all (fun c => decide (c ∈ abc)) && decide (l.length ≤ 12)
  | _ => false
theorem wd_iff {l : List Nat} : wdB (.str l) = true ↔ Wd l := by
  simp [wdB, Wd, and_comm]
theorem m_is_whole_ap {s : MS} (z : Int) : m_is_whole [.int z] s = .ok (.bl true) s := by
  simp [m_is_whole, defF_ap, startE, bIsi, tyOf, kinds, isSub]
theorem notlt (a b : Int) : (!decide (a < b)) = decide (b ≤ a) := by
  by_cases h : a < b
  · simp [h]
  · simp [h]; omega
theorem m_is_between_ap {s : MS} (z a b : Int) : m_is_between [.int z, .int a, .int b] s = .ok (.bl (decide (a ≤ z) && decide (z ≤ b))) s := by
  by_cases h : a ≤ z <;> simp [m_is_between, defF_ap, startE, m_is_whole_ap, pLe, qLt, notlt, h]
/-- a comprehension of tests over the signs of a text -/
theorem comp_signs {e : Mr.Env} {i : Nat} {b : List Nat} (f : EX) (hf : ∀ c s, f (e.set i (some (.str [c]))) s = .ok (.bl (decide (c ∈ b))) s) : ∀ (l : List Nat) (s : MS),
    compM (aName i) tYs f e (l.map fun c => .str [c]) s = .ok (l.map fun c => .bl (decide (c ∈ b))) s
  | [], s => rfl
  | c :: l, s => by simp [compM, hf, comp_signs f hf l s]
theorem allBl_map {α : Type} (g : α → Bool) : ∀ l : List α, allBl (l.map fun c => .bl (g c)) = some (l.map g)
  | [] => rfl
  | c :: l => by simp [allBl, allBl_map g l]
theorem m_is_text_of_str {s : MS} (l b : List Nat) (h : l.length ≤ LIM) : m_is_text_of [.str l, .str b] s = .ok (.bl (l.all fun c => decide (c ∈ b))) s := by
  have hc := comp_signs (e := [some (.str l), some (.str b), none]) (i := 2) (b := b) (eCm pIn (eVar 2) (eVar 1)) (by intro c s; simp [pIn]) l s
  simp [m_is_text_of, defF_ap, bIsi, tyOf, kinds, isSub, elems, startE, h, wipeE, hc, Res.calm, bAll, allBl_map, List.all_map, Function.comp_def]
theorem m_is_text_of_no {s : MS} (p q : PV) (t : String) (h1 : tyOf (deref s p) = some t) (h2 : (t == "str") = false) : m_is_text_of [p, q] s = .ok (.bl false) s := by
  have h3 : isSub t "str" = false := by simp [isSub] at h2 ⊢; exact h2
  simp [m_is_text_of, defF_ap, startE, bIsi, h1, kinds, h3]
theorem m_letters_of_3 {s : MS} : m_letters_of [.int 3] s = .ok (.str abc) s := by
  simp [m_letters_of, defF_ap, startE, pCut, cutL, sIx, LIM_eq]
  rfl
theorem m_is_word_of_str {s : MS} (l : List Nat) (h : l.length ≤ LIM) : m_is_word_of [.int 3, .str l] s = .ok (.bl (wdB (.str l))) s := by
  simp only [m_is_word_of, defF_ap, startE, wdB]
  cases hc : (l.all fun c => decide (c ∈ abc)) with
  | true =>
    simp [m_letters_of_3, m_is_text_of_str _ _ h, hc, bLen, h, pLe, qLt, notlt]
    by_cases h12 : l.length ≤ 12
    · simp [h12]; omega
    · simp [h12]; omega
  | false => simp [m_letters_of_3, m_is_text_of_str _ _ h, hc]
theorem m_is_word_of_no {s : MS} (p : PV) (t : String) (h1 : tyOf (deref s p) = some t) (h2 : (t == "str") = false) : m_is_word_of [.int 3, p] s = .ok (.bl false) s := by
  simp [m_is_word_of, defF_ap, startE, m_letters_of_3, m_is_text_of_no p _ t h1 h2]
/-- a value that the checks look at -/
def Val (p : PV) : Prop := (∃ l, p = .str l ∧ l.length ≤ 1000) ∨ ∃ t, tyOf p = some t ∧ (t == "str") = false ∧ ∀ s, deref s p = p
theorem m_is_worded_ap {s : MS} {p : PV} (h : Val p) : m_is_worded [p] s = .ok (.bl (wdB p)) s := by
  rcases h with ⟨l, rfl, hl⟩ | ⟨t, h1, h2, h3⟩
  · simp [m_is_worded, defF_ap, startE, m_is_word_of_str l (by rw [LIM_eq]; omega)]
  · have hw : wdB p = false := by cases p <;> simp_all [wdB, tyOf]
    simp [m_is_worded, defF_ap, startE, m_is_word_of_no (s := s) p t (by rw [h3]; exact h1) h2, hw]
theorem m_check_word_ok {s : MS} {l : List Nat} (h : Wd l) : m_check_word [.str l] s = .ok .non s := by
  have hw := wd_iff.mpr h
  have := h.1
  simp [m_check_word, defF_ap, startE, m_is_worded_ap (.inl ⟨l, rfl, by omega⟩), hw]
theorem m_check_word_no {s : MS} {p : PV} (h : Val p) (hw : wdB p = false) : m_check_word [p] s = .exc "InvalidWord" p s := by
  simp [m_check_word, defF_ap, startE, m_is_worded_ap h, hw]
theorem m_check_size_ok {s : MS} (z : Int) (h0 : 0 ≤ z) (h1 : z ≤ 12) : m_check_size [.int z, .int 0, .int 12] s = .ok .non s := by
  simp [m_check_size, defF_ap, startE, m_is_between_ap, h0, h1]
/-! ### turns -/
def rot (l : List Nat) (k : Nat) : List Nat := l.drop (k % l.length) ++ l.take (k % l.length)
theorem rot_length (l : List Nat) (k : Nat) : (rot l k).length = l.length := by
  simp only [rot, List.length_append, List.length_drop, List.length_take]
  rcases Nat.eq_zero_or_pos l.length with h | h
  · simp [h]
  · have := Nat.mod_lt k h; omega
theorem mem_rot {l : List Nat} {k c : Nat} : c ∈ rot l k ↔ c ∈ l := by
  unfold rot
  rw [List.mem_append, or_comm, ← List.mem_append, List.take_append_drop]
theorem rot_wd {l : List Nat} (h : Wd l) (k : Nat) : Wd (rot l k) := ⟨by rw [rot_length]; exact h.1, fun c hc => h.2 c (mem_rot.mp hc)⟩
theorem rot_perm (l : List Nat) (k : Nat) : (rot l k).Perm l := by
  unfold rot
  exact List.perm_append_comm.trans (by rw [List.take_append_drop])
theorem sIx_nn (n d b : Nat) : sIx n d (some (b : Int)) = min b n := by
  have h : ¬ ((b : Int) < 0) := by omega
  simp [sIx, h]
theorem cut_from {l : List Nat} {b : Nat} (hb : b ≤ l.length) : cutL l (some (b : Int)) none = l.drop b := by
  unfold cutL
  rw [sIx_nn, Nat.min_eq_left hb]
  show (l.drop b).take (l.length - b) = l.drop b
  exact List.take_of_length_le (by rw [List.length_drop]; omega)
theorem cut_to {l : List Nat} {b : Nat} (hb : b ≤ l.length) : cutL l none (some (b : Int)) = l.take b := by
  unfold cutL
  rw [sIx_nn, Nat.min_eq_left hb]
  show (l.drop 0).take (b - 0) = l.take b
  simp
theorem add_rot {l : List Nat} (h : l.length ≤ 12) (k : Nat) : pAdd (.str (l.drop (k % l.length))) (.str (l.take (k % l.length))) = some (.str (rot l k)) := by
  have := rot_length l k
  unfold rot at this
  rw [List.length_append] at this
  show (if (l.drop (k % l.length)).length + (l.take (k % l.length)).length ≤ LIM then some (PV.str (l.drop (k % l.length) ++ l.take (k % l.length))) else none) = _
  rw [if_pos (by rw [LIM_eq]; omega)]
  rfl
theorem cut_from_m {l : List Nat} (h : 0 < l.length) (k : Nat) : cutL l (some ((k : Int) % (l.length : Int))) none = l.drop (k % l.length) := by
  have e : ((k : Int) % (l.length : Int)) = ((k % l.length : Nat) : Int) := by omega
  rw [e, cut_from (Nat.le_of_lt (Nat.mod_lt k h))]
theorem cut_to_m {l : List Nat} (h : 0 < l.length) (k : Nat) : cutL l none (some ((k : Int) % (l.length : Int))) = l.take (k % l.length) := by
  have e : ((k : Int) % (l.length : Int)) = ((k % l.length : Nat) : Int) := by omega
  rw [e, cut_to (Nat.le_of_lt (Nat.mod_lt k h))]
theorem m_turned_by_ap {s : MS} {l : List Nat} (h : l.length ≤ 12) (k : Nat) : m_turned_by [.str l, .int k] s = .ok (.str (rot l k)) s := by
  have hL : l.length ≤ LIM := by rw [LIM_eq]; omega
  rcases Nat.eq_zero_or_pos l.length with h0 | h0
  · have : l = [] := List.length_eq_zero_iff.mp h0
    subst this
    simp [m_turned_by, defF_ap, startE, pNe2, pEq2, pEq, isD, dep, eqB, pCut, cutL, sIx, LIM_eq, pAdd, rot]
  · have hne : l ≠ [] := by intro e; rw [e] at h0; cases h0
    have hm := Nat.mod_lt k h0
    simp [m_turned_by, defF_ap, startE, pNe2, pEq2, pEq, isD, dep, eqB, pCut, bLen, pMod, hL, hne, h0, cut_from_m h0, cut_to_m h0, add_rot h]
theorem m__law_turned_ap {s : MS} {l : List Nat} (h : l.length ≤ 12) (k : Nat) : m__law_turned [.str l, .int k] s = .ok (.str (rot l k)) s := by
  have hL : l.length ≤ LIM := by rw [LIM_eq]; omega
  rcases Nat.eq_zero_or_pos l.length with h0 | h0
  · have : l = [] := List.length_eq_zero_iff.mp h0
    subst this
    simp [m__law_turned, defF_ap, startE, pCut, cutL, sIx, LIM_eq, pAdd, rot, bInt, bMax2, bLen, pMod]
  · have hm := Nat.mod_lt k h0
    have e2 : (if ((l.length : Nat) : Int) > 1 then ((l.length : Nat) : Int) else 1) = (l.length : Nat) := by
      split <;> omega
    have h0' : (0 : Int) < (l.length : Nat) := by omega
    simp only [gt_iff_lt] at e2
    simp [m__law_turned, defF_ap, startE, pCut, bInt, bMax2, bLen, pMod, hL, e2, h0', (show 0 < l.length from h0), cut_from_m h0, cut_to_m h0, add_rot h]
theorem m_turned_ap {s : MS} {l : List Nat} (h : Wd l) (k : Nat) (hk : k ≤ 12) : m_turned [.str l, .int k] s = .ok (.str (rot l k)) s := by
  have h0 : (0 : Int) ≤ k := by omega
  have h1 : (k : Int) ≤ 12 := by omega
  simp [m_turned, defF_ap, startE, m_check_word_ok h, m_check_size_ok _ h0 h1, m_turned_by_ap h.1]
/-! ### laws of turns -/
theorem rot_mod (l : List Nat) (k : Nat) : rot l (k % l.length) = rot l k := by
  unfold rot; rw [Nat.mod_mod]
theorem rot_zero (l : List Nat) : rot l 0 = l := by
  unfold rot; simp
theorem rot_full (l : List Nat) : rot l l.length = l := by
  unfold rot; simp
theorem rot_get {l : List Nat} (k i : Nat) (hi : i < l.length) : (rot l k)[i]? = l[(i + k) % l.length]? := by
  have h0 : 0 < l.length := by omega
  have hm := Nat.mod_lt k h0
  unfold rot
  have e : (i + k) % l.length = (i + k % l.length) % l.length := by rw [Nat.add_mod, Nat.mod_eq_of_lt hi, Nat.add_mod i, Nat.mod_mod, Nat.mod_eq_of_lt hi]
  rw [e]
  generalize k % l.length = b at *
  by_cases hlt : i < l.length - b
  · rw [List.getElem?_append_left (by rw [List.length_drop]; omega), List.getElem?_drop, Nat.mod_eq_of_lt (by omega)]
    congr 1; omega
  · rw [List.getElem?_append_right (by rw [List.length_drop]; omega), List.length_drop, List.getElem?_take_of_lt (by omega)]
    congr 1
    rw [Nat.mod_eq_sub_mod (by omega), Nat.mod_eq_of_lt (by omega)]
    omega
theorem rot_ext {l m : List Nat} (hl : l.length = m.length) (h : ∀ i, i < l.length → l[i]? = m[i]?) : l = m := by
  apply List.ext_getElem?
  intro i
  by_cases hi : i < l.length
  · exact h i hi
  · rw [List.getElem?_eq_none_iff.mpr (by omega), List.getElem?_eq_none_iff.mpr (by omega)]
theorem rot_rot (l : List Nat) (a b : Nat) : rot (rot l a) b = rot l (a + b) := by
  refine rot_ext (by simp only [rot_length]) fun i hi => ?_
  simp only [rot_length] at hi
  have h0 : 0 < l.length := by omega
  rw [rot_get b i (by rw [rot_length]; exact hi), rot_length, rot_get a _ (Nat.mod_lt _ h0), rot_get (a + b) i hi]
  congr 1
  rw [Nat.mod_add_mod]
  congr 1; omega
theorem rot_back (l : List Nat) (k : Nat) : rot (rot l k) (k * (l.length - 1)) = l := by
  rw [rot_rot]
  rcases Nat.eq_zero_or_pos l.length with h | h
  · have : l = [] := List.length_eq_zero_iff.mp h
    subst this; simp [rot]
  · have e : k + k * (l.length - 1) = k * l.length := by
      obtain ⟨n, hn⟩ : ∃ n, l.length = n + 1 := ⟨l.length - 1, by omega⟩
      rw [hn, Nat.add_sub_cancel, Nat.mul_succ]; omega
    rw [e, ← rot_mod, Nat.mul_mod_left, rot_zero]
theorem rot_rev (l : List Nat) (k : Nat) : rot l.reverse k = (rot l (k * (l.length - 1))).reverse := by
  refine rot_ext (by simp only [rot_length, List.length_reverse]) fun i hi => ?_
  simp only [rot_length, List.length_reverse] at hi
  have h0 : 0 < l.length := by omega
  rw [rot_get k i (by rw [List.length_reverse]; exact hi), List.length_reverse, List.getElem?_reverse (Nat.mod_lt _ h0), List.getElem?_reverse (by rw [rot_length]; exact hi), rot_length, rot_get _ _ (by omega)]
  congr 1
  obtain ⟨n, hn⟩ : ∃ n, l.length = n + 1 := ⟨l.length - 1, by omega⟩
  rw [hn] at hi ⊢
  simp only [Nat.add_sub_cancel]
  have e : (n - i + k * n) + (i + k) = n + k * (n + 1) := by rw [Nat.mul_succ]; omega
  have e2 : ((n - i + k * n) + (i + k)) % (n + 1) = n := by
    rw [e, Nat.add_mul_mod_self_right, Nat.mod_eq_of_lt (by omega)]
  rw [Nat.add_mod] at e2
  have a1 := Nat.mod_lt (n - i + k * n) (show 0 < n + 1 by omega)
  have a2 := Nat.mod_lt (i + k) (show 0 < n + 1 by omega)
  generalize (n - i + k * n) % (n + 1) = x at *
  generalize (i + k) % (n + 1) = y at *
  by_cases hxy : x + y < n + 1
  · rw [Nat.mod_eq_of_lt hxy] at e2; omega
  · rw [Nat.mod_eq_sub_mod (by omega), Nat.mod_eq_of_lt (by omega)] at e2; omega
/-! ### the unlike turns -/
def addK (ks : List (List Nat)) (x : List Nat) : List (List Nat) := if x ∈ ks then ks else ks ++ [x]
theorem mem_addK {ks : List (List Nat)} {x y : List Nat} : y ∈ addK ks x ↔ y ∈ ks ∨ y = x := by
  unfold addK
  split
  · rename_i h
    constructor
    · exact .inl
    · rintro (h1 | rfl)
      · exact h1
      · exact h
  · simp
theorem nodup_addK {ks : List (List Nat)} {x : List Nat} (h : ks.Nodup) : (addK ks x).Nodup := by
  unfold addK
  split
  · exact h
  · rename_i hx
    rw [List.nodup_append]
    exact ⟨h, by simp, fun a ha b hb e => hx (by simp at hb; rw [← hb, ← e]; exact ha)⟩
theorem mem_foldK : ∀ (xs ks : List (List Nat)) {y : List Nat}, y ∈ xs.foldl addK ks ↔ y ∈ ks ∨ y ∈ xs
  | [], ks, y => by simp
  | x :: xs, ks, y => by
    rw [List.foldl_cons, mem_foldK xs, mem_addK, List.mem_cons, or_assoc]
theorem nodup_foldK : ∀ (xs ks : List (List Nat)), ks.Nodup → (xs.foldl addK ks).Nodup
  | [], _, h => h
  | x :: xs, ks, h => by rw [List.foldl_cons]; exact nodup_foldK xs _ (nodup_addK h)
theorem len_foldK : ∀ (xs ks : List (List Nat)), (xs.foldl addK ks).length ≤ ks.length + xs.length
  | [], _ => Nat.le_refl _
  | x :: xs, ks => by
    rw [List.foldl_cons]
    refine Nat.le_trans (len_foldK xs _) ?_
    have : (addK ks x).length ≤ ks.length + 1 := by unfold addK; split <;> simp
    rw [List.length_cons]; omega
/-- the turns, each once, as they come -/
def keysT (l : List Nat) : List (List Nat) := ((List.range (max 1 l.length)).map (rot l)).foldl addK []
/-- .. sorted -/
def turnsT (l : List Nat) : List (List Nat) := (keysT l).mergeSort leL
theorem mem_keysT {l x : List Nat} : x ∈ keysT l ↔ ∃ k, x = rot l k := by
  unfold keysT
  rw [mem_foldK]
  simp only [List.not_mem_nil, false_or, List.mem_map, List.mem_range]
  constructor
  · rintro ⟨k, _, rfl⟩; exact ⟨k, rfl⟩
  · rintro ⟨k, rfl⟩
    rcases Nat.eq_zero_or_pos l.length with h | h
    · have : l = [] := List.length_eq_zero_iff.mp h
      subst this
      exact ⟨0, by simp, by simp [rot]⟩
    · exact ⟨k % l.length, by have := Nat.mod_lt k h; omega, rot_mod l k⟩
theorem nodup_keysT (l : List Nat) : (keysT l).Nodup := nodup_foldK _ _ List.nodup_nil
theorem len_keysT {l : List Nat} (h : l.length ≤ 12) : (keysT l).length ≤ 12 := by
  have := len_foldK ((List.range (max 1 l.length)).map (rot l)) []
  unfold keysT
  simp at this ⊢
  omega
theorem turnsT_perm (l : List Nat) : (turnsT l).Perm (keysT l) := List.mergeSort_perm _ _
theorem turnsT_len {l : List Nat} (h : l.length ≤ 12) : (turnsT l).length ≤ 12 := by rw [(turnsT_perm l).length_eq]; exact len_keysT h
theorem mem_turnsT {l x : List Nat} : x ∈ turnsT l ↔ ∃ k, x = rot l k := by rw [(turnsT_perm l).mem_iff, mem_keysT]
theorem turnsT_pw (l : List Nat) : (turnsT l).Pairwise fun a b => ¬ b < a := by
  have := List.pairwise_mergeSort (le := leL) leL_trans leL_total (keysT l)
  exact this.imp fun h => by simpa [leL] using h
theorem turnsT_of {l m : List Nat} (h : ∀ x, (∃ k, x = rot l k) ↔ ∃ k, x = rot m k) : turnsT l = turnsT m := by
  refine sorted_strs_uniq ?_ (turnsT_pw l)
  refine (turnsT_perm l).trans ?_
  rw [List.perm_ext_iff_of_nodup (nodup_keysT l) (nodup_keysT m)]
  intro x
  rw [mem_keysT, mem_keysT]; exact h x
theorem turnsT_rot (l : List Nat) (a : Nat) : turnsT (rot l a) = turnsT l := by
  refine turnsT_of fun x => ⟨?_, ?_⟩
  · rintro ⟨k, rfl⟩; exact ⟨a + k, rot_rot l a k⟩
  · rintro ⟨k, rfl⟩
    exact ⟨a * (l.length - 1) + k, by rw [← rot_rot, rot_back]⟩
theorem turnsT_rev (l : List Nat) : turnsT l.reverse = ((turnsT l).map List.reverse).mergeSort leL := by
  refine sorted_strs_uniq ?_ (turnsT_pw _)
  refine (turnsT_perm _).trans ?_
  refine List.Perm.trans ?_ ((turnsT_perm l).map _).symm
  rw [List.perm_ext_iff_of_nodup (nodup_keysT _) (List.Pairwise.map List.reverse (fun a b h e => h (by simpa using congrArg List.reverse e)) (nodup_keysT l))]
  intro x
  rw [mem_keysT, List.mem_map]
  constructor
  · rintro ⟨k, rfl⟩
    exact ⟨rot l (k * (l.length - 1)), mem_keysT.mpr ⟨_, rfl⟩, (rot_rev l k).symm⟩
  · rintro ⟨y, hy, rfl⟩
    obtain ⟨k, rfl⟩ := mem_keysT.mp hy
    have q := rot_rev l.reverse k
    rw [List.reverse_reverse] at q
    rw [q, List.reverse_reverse]
    exact ⟨_, rfl⟩
/-! ### how many -/
def Per (l : List Nat) (k : Nat) : Prop := rot l k = l
theorem per_add {l : List Nat} {a b : Nat} (h : Per l a) : Per l (a + b) ↔ Per l b := by
  unfold Per at *
  rw [← rot_rot, h]
theorem per_mul {l : List Nat} {a : Nat} (h : Per l a) : ∀ q, Per l (a * q)
  | 0 => by unfold Per; rw [Nat.mul_zero, rot_zero]
  | q + 1 => by rw [Nat.mul_succ, Nat.add_comm, per_add h]; exact per_mul h q
theorem per_mod {l : List Nat} {a b : Nat} (h : Per l a) : Per l (b % a) ↔ Per l b := by
  have e := Nat.div_add_mod b a
  rw [← e, per_add (per_mul h _), e]
theorem per_gcd {l : List Nat} {a b : Nat} (h1 : Per l a) (h2 : Per l b) : Per l (Nat.gcd a b) := by
  induction a, b using Nat.gcd.induction with
  | H0 n => rw [Nat.gcd_zero_left]; exact h2
  | H1 m n hm ih => rw [Nat.gcd_rec]; exact ih ((per_mod h1).mpr h2) h1
theorem per_len (l : List Nat) : Per l l.length := rot_full l
/-- the least divisor of the length that is a period -/
structure Least (l : List Nat) (p : Nat) : Prop where
  pos : 0 < p
  dvd : p ∣ l.length
  per : Per l p
  low : ∀ d, 0 < d → d < p → d ∣ l.length → ¬ Per l d
theorem Least.min {l : List Nat} {p : Nat} (h : Least l p) (hl : 0 < l.length) {k : Nat} (h0 : 0 < k) (hk : k < p) : ¬ Per l k := fun hp => by
  have hg := per_gcd hp (per_len l)
  have d1 : Nat.gcd k l.length ∣ l.length := Nat.gcd_dvd_right _ _
  have p1 : 0 < Nat.gcd k l.length := Nat.gcd_pos_of_pos_left _ h0
  have p2 : Nat.gcd k l.length ≤ k := Nat.le_of_dvd h0 (Nat.gcd_dvd_left _ _)
  exact h.low _ p1 (by omega) d1 hg
theorem per_of {l : List Nat} {i d : Nat} (h : rot l (i + d) = rot l i) : Per l d := by
  have b := rot_back l i
  have q : rot (rot l (i + d)) (i * (l.length - 1)) = l := by rw [h]; exact b
  rw [rot_rot, show i + d + i * (l.length - 1) = (i + i * (l.length - 1)) + d by omega, ← rot_rot, ← rot_rot, b] at q
  exact q
theorem Least.apart {l : List Nat} {p : Nat} (h : Least l p) (hl : 0 < l.length) {i j : Nat} (hj : j < p) (hij : i < j) : rot l i ≠ rot l j := fun e => by
  obtain ⟨d, rfl⟩ : ∃ d, j = i + d := ⟨j - i, by omega⟩
  exact h.min hl (k := d) (by omega) (by omega) (per_of e.symm)
theorem Least.len {l : List Nat} {p : Nat} (h : Least l p) (hl : 0 < l.length) : (keysT l).length = p := by
  have hn : ((List.range p).map (rot l)).Nodup := by
    rw [List.Nodup, List.pairwise_map]
    refine List.Pairwise.imp_of_mem (fun {i j} hi hj hne e => ?_) List.nodup_range
    rw [List.mem_range] at hi hj
    rcases Nat.lt_or_ge i j with h1 | h1
    · exact h.apart hl hj h1 e
    · exact h.apart hl hi (by omega) e.symm
  have e : (keysT l).Perm ((List.range p).map (rot l)) := by
    rw [List.perm_ext_iff_of_nodup (nodup_keysT l) hn]
    intro x
    rw [mem_keysT, List.mem_map]
    constructor
    · rintro ⟨k, rfl⟩
      refine ⟨k % p, List.mem_range.mpr (Nat.mod_lt k h.pos), ?_⟩
      have e := Nat.div_add_mod k p
      have q : rot l k = rot l (p * (k / p) + k % p) := by rw [e]
      rw [q, ← rot_rot, (per_mul h.per _ : rot l (p * (k / p)) = l)]
    · rintro ⟨k, _, rfl⟩; exact ⟨k, rfl⟩
  rw [e.length_eq]; simp
/-! ### powers -/
theorem rep_rot (u : List Nat) : ∀ q : Nat, (List.replicate (q + 1) u).flatten = u ++ (List.replicate q u).flatten ∧ (List.replicate (q + 1) u).flatten = (List.replicate q u).flatten ++ u
  | 0 => by simp
  | q + 1 => by
    have c : ∀ n, (List.replicate (n + 1) u).flatten = u ++ (List.replicate n u).flatten := fun n => by rw [List.replicate_succ, List.flatten_cons]
    refine ⟨c (q + 1), ?_⟩
    calc (List.replicate (q + 1 + 1) u).flatten = u ++ (List.replicate (q + 1) u).flatten := c (q + 1)
      _ = u ++ ((List.replicate q u).flatten ++ u) := by rw [(rep_rot u q).2]
      _ = (u ++ (List.replicate q u).flatten) ++ u := by rw [List.append_assoc]
      _ = (List.replicate (q + 1) u).flatten ++ u := by rw [c q]
theorem rep_len (u : List Nat) (q : Nat) : (List.replicate q u).flatten.length = q * u.length := by
  simp [List.length_flatten]
theorem per_of_rep {u : List Nat} {q : Nat} (hu : 0 < u.length) : Per (List.replicate (q + 1) u).flatten u.length := by
  unfold Per
  rcases Nat.eq_zero_or_pos q with h | h
  · subst h; simp [rot]
  · have hl : u.length < (List.replicate (q + 1) u).flatten.length := by rw [rep_len, Nat.succ_mul]; have : 0 < q * u.length := Nat.mul_pos h hu; omega
    unfold rot
    rw [Nat.mod_eq_of_lt hl]
    conv => lhs; rw [(rep_rot u q).1]
    rw [List.drop_left, List.take_left, (rep_rot u q).2]
theorem rep_of_comm (u : List Nat) : ∀ (q : Nat) (w : List Nat), w.length = q * u.length → w ++ u = u ++ w → w = (List.replicate q u).flatten
  | 0, w, hl, _ => by
    have : w = [] := List.length_eq_zero_iff.mp (by simpa using hl)
    rw [this]; rfl
  | q + 1, w, hl, h => by
    have hlen : u.length ≤ w.length := by rw [hl, Nat.succ_mul]; omega
    have ht : w.take u.length = u := by
      have := congrArg (List.take u.length) h
      rwa [List.take_append_of_le_length hlen, List.take_left] at this
    obtain ⟨v, rfl⟩ : ∃ v, w = u ++ v := ⟨w.drop u.length, by conv => lhs; rw [← List.take_append_drop u.length w, ht]⟩
    have hv : v ++ u = u ++ v := by
      have := h
      rw [List.append_assoc] at this
      exact List.append_cancel_left this
    rw [rep_of_comm u q v (by rw [List.length_append, Nat.succ_mul] at hl; omega) hv, (rep_rot u q).1]
theorem rep_iff {l : List Nat} {d : Nat} (h0 : 0 < d) (hd : d ∣ l.length) (hl : 0 < l.length) : (List.replicate (l.length / d) (l.take d)).flatten = l ↔ Per l d := by
  obtain ⟨q, hq⟩ := hd
  have hdl : d ≤ l.length := Nat.le_of_dvd hl ⟨q, hq⟩
  have hq0 : 0 < q := by
    rcases Nat.eq_zero_or_pos q with z | z
    · rw [z] at hq; omega
    · exact z
  obtain ⟨r, rfl⟩ : ∃ r, q = r + 1 := ⟨q - 1, by omega⟩
  have e : l.length / d = r + 1 := by rw [hq, Nat.mul_div_cancel_left _ h0]
  have hu : (l.take d).length = d := by rw [List.length_take]; omega
  rw [e]
  constructor
  · intro h
    have q := per_of_rep (u := l.take d) (q := r) (by omega)
    rw [h, hu] at q
    exact q
  · intro h
    rcases Nat.lt_or_ge d l.length with hlt | hge
    · have h' : l.drop d ++ l.take d = l := by
        have q := h
        unfold Per rot at q
        rwa [Nat.mod_eq_of_lt hlt] at q
      have h2 : l.drop d ++ l.take d = l.take d ++ l.drop d := by rw [h', List.take_append_drop]
      have h3 := rep_of_comm (l.take d) r (l.drop d) (by rw [List.length_drop, hu, hq, Nat.mul_succ, Nat.mul_comm]; omega) h2
      rw [(rep_rot _ r).1, ← h3, List.take_append_drop]
    · have hr : r = 0 := by
        rcases Nat.eq_zero_or_pos r with z | z
        · exact z
        · rw [hq, Nat.mul_succ] at hge
          have := Nat.mul_pos h0 z
          omega
      subst hr
      simp
      exact List.take_of_length_le hge
end Lw
namespace Lw
open Mr
/-! ### walks -/
theorem compM_map {e : Mr.Env} {i : Nat} (f : EX) (g : PV → PV) : ∀ (xs : List PV) (s : MS), (∀ x ∈ xs, ∀ s, f (e.set i (some x)) s = .ok (g x) s) → compM (aName i) tYs f e xs s = .ok (xs.map g) s
  | [], s, _ => rfl
  | x :: xs, s, h => by
    simp only [compM, ap_name, ap_yes, bind_ok, if_true, h x List.mem_cons_self, compM_map f g xs s fun y hy => h y (List.mem_cons_of_mem _ hy), List.map_cons]
theorem compM_filter {e : Mr.Env} {i : Nat} (t : ET) (f : EX) (b : PV → Bool) : ∀ (xs : List PV) (s : MS), (∀ x ∈ xs, ∀ s, t (e.set i (some x)) s = .ok (b x) s) → (∀ x ∈ xs, ∀ s, f (e.set i (some x)) s = .ok x s) → compM (aName i) t f e xs s = .ok (xs.filter b) s
  | [], s, _, _ => rfl
  | x :: xs, s, h, h2 => by
    have ih := compM_filter t f b xs s (fun y hy => h y (List.mem_cons_of_mem _ hy)) fun y hy => h2 y (List.mem_cons_of_mem _ hy)
    simp only [compM, ap_name, h x List.mem_cons_self, bind_ok, h2 x List.mem_cons_self, ih]
    cases hb : b x <;> simp [List.filter, hb]
theorem dput_str (ks : List (List Nat)) (x : List Nat) : dput (ks.map .str) (ks.map fun _ => .bl true) (.str x) (.bl true) = ((addK ks x).map .str, (addK ks x).map fun _ => PV.bl true) := by
  have e1 : ((ks.map PV.str).any fun k => keq k (.str x)) = decide (x ∈ ks) := by
    induction ks with
    | nil => rfl
    | cons k ks ih =>
      rw [List.map_cons, List.any_cons, ih]
      show ((k == x) || decide (x ∈ ks)) = decide (x ∈ k :: ks)
      by_cases h : k = x
      · simp [h]
      · have h' : ¬ x = k := fun q => h q.symm
        simp [h, h']
  have e2 : dset (ks.map PV.str) (ks.map fun _ => .bl true) (.str x) (.bl true) = ks.map fun _ => .bl true := by
    clear e1
    induction ks with
    | nil => rfl
    | cons k ks ih => simp only [List.map_cons, dset, ih]; split <;> rfl
  unfold dput addK
  rw [e1, e2]
  by_cases h : x ∈ ks <;> simp [h]
theorem dcompM_keys {e : Mr.Env} (hi : 1 < e.length) : ∀ (xs ks : List (List Nat)) (s : MS), dcompM (aName 1) tYs (eVar 1) (eC (.bl true)) e (xs.map .str) (ks.map .str, ks.map fun _ => .bl true) s = .ok ((xs.foldl addK ks).map .str, (xs.foldl addK ks).map fun _ => .bl true) s
  | [], ks, s => rfl
  | x :: xs, ks, s => by
    simp only [List.map_cons, dcompM, ap_name, ap_yes, bind_ok, if_true, ap_var, List.getElem?_set_self hi, ap_c, isKey, Bool.not_false, dput_str, dcompM_keys hi xs, List.foldl_cons]
theorem bMax2_1 (n : Nat) : bMax2 [.int 1, .int (n : Nat)] = some (.int ((max 1 n : Nat) : Int)) := by
  show some (PV.int (if ((n : Nat) : Int) > 1 then ((n : Nat) : Int) else 1)) = _
  congr 2
  split <;> omega
theorem fits_nat {k n m : Nat} (h : n ≤ m) (hm : (m : Int) < 2 ^ k) (h0 : (0 : Int) < 2 ^ k) : fits k (n : Int) = true := fits_iff.mpr ⟨by omega, by omega⟩
theorem smallI_nat {n : Nat} (h : n ≤ 1000) : smallI (n : Int) = true := fits_nat h (by decide) (by decide)
theorem rng1_nat {n : Nat} (h : n ≤ 1000) : rng1 [.int (n : Nat)] = some (rng 0 n) := by
  show (if smallI (n : Int) = true then some (rng 0 ((n : Int).toNat)) else none) = _
  rw [if_pos (smallI_nat h), Int.toNat_natCast]
theorem rng_len (n : Nat) : (rng 0 n).length = n := by unfold rng; simp
theorem le_LIM {n : Nat} (h : n ≤ 1000) : n ≤ LIM := by rw [LIM_eq]; omega
theorem mem_rng {n : Nat} {x : PV} (h : x ∈ rng 0 n) : ∃ k : Nat, k < n ∧ x = .int (k : Nat) := by
  unfold rng at h
  obtain ⟨k, hk, rfl⟩ := List.mem_map.mp h
  exact ⟨k, List.mem_range.mp hk, by rw [Int.zero_add]⟩
theorem rng_map (n : Nat) (g : PV → PV) : (rng 0 n).map g = (List.range n).map fun k => g (.int (k : Nat)) := by
  unfold rng
  rw [List.map_map]
  apply List.map_congr_left
  intro k _
  show g (.int (0 + (k : Nat))) = _
  rw [Int.zero_add]
theorem bLen_str {l : List Nat} (h : l.length ≤ 1000) : bLen [.str l] = some (.int (l.length : Nat)) := by
  show (if l.length ≤ LIM then some (PV.int l.length) else none) = _
  rw [if_pos (le_LIM h)]
theorem m_turns_of_ap {s : MS} {l : List Nat} (h : l.length ≤ 12) : m_turns_of [.str l] s = .ok (.lst ((List.range (max 1 l.length)).map fun k => .str (rot l k))) s := by
  have hc := compM_map (e := [some (.str l), none]) (i := 1) (eCall m_turned_by [eVar 0, eVar 1]) (fun x => match x with
    | .int z => .str (rot l z.toNat)
    | _ => .non) (rng 0 (max 1 l.length)) s (fun x hx s => by
      obtain ⟨k, _, rfl⟩ := mem_rng hx
      simp [m_turned_by_ap h])
  rw [rng_map] at hc
  have hl : (rng 0 (max 1 l.length)).length ≤ LIM := le_LIM (by rw [rng_len]; omega)
  have hb := bLen_str (l := l) (by omega)
  have hr := rng1_nat (n := max 1 l.length) (by omega)
  simp [m_turns_of, defF_ap, startE, hb, bMax2_1, hr, hl, wipeE, hc, Res.calm]
/-! sorting texts -/
theorem isDs_strs (ss : List (List Nat)) : isDs (ss.map .str) = true := by
  induction ss with
  | nil => rfl
  | cons x ss ih => simp only [List.map_cons, isDs, isD, ih, Bool.and_self]
theorem deps_strs (ss : List (List Nat)) : deps (ss.map .str) = 0 := by
  induction ss with
  | nil => rfl
  | cons x ss ih => simp only [List.map_cons, deps, dep, ih, Nat.max_self]
theorem sortable_strs {ss : List (List Nat)} (h : ss.length ≤ 1000) : sortable (ss.map .str) = true := by
  unfold sortable
  have e1 : ((ss.map PV.str).all fun x => (ss.map PV.str).all fun y => alikeB x y) = true := by
    simp [List.all_map, Function.comp_def, alikeB]
  have e2 : ((ss.map PV.str).all fun x => !isNon x && !isTup x) = true := by
    simp [List.all_map, Function.comp_def, isNon, isTup]
  rw [isDs_strs, e1, e2, deps_strs, List.length_map]
  simp [le_LIM h]
theorem sorted_dct {ss : List (List Nat)} {vs : List PV} (h : ss.length ≤ 60) : bSorted [.dct false (ss.map .str) vs] = some (.lst ((ss.mergeSort leL).map .str)) := by
  have e : ((ss.map PV.str).all fun k => match k with | .str _ => true | _ => false) = true := by simp [List.all_map, Function.comp_def]
  show (if sortable (ss.map .str) && decide ((ss.map PV.str).length < 64) && (ss.map PV.str).all (fun k => match k with | .str _ => true | _ => false) then some (PV.lst (sortV (ss.map .str))) else none) = _
  rw [sortable_strs (by omega), e, List.length_map, decide_eq_true (by omega : ss.length < 64), sortV_strs]
  rfl
theorem sorted_lst {ss : List (List Nat)} (h : ss.length ≤ 1000) : bSorted [.lst (ss.map .str)] = some (.lst ((ss.mergeSort leL).map .str)) := by
  show (if sortable (ss.map .str) then some (PV.lst (sortV (ss.map .str))) else none) = _
  rw [sortable_strs h, sortV_strs]
  rfl
theorem range_strs (l : List Nat) (n : Nat) : ((List.range n).map fun k => PV.str (rot l k)) = ((List.range n).map (rot l)).map .str := by rw [List.map_map]; rfl
theorem m_unlike_turns_ap {s : MS} {l : List Nat} (h : l.length ≤ 12) : m_unlike_turns [.str l] s = .ok (.lst ((turnsT l).map .str)) s := by
  have hd := dcompM_keys (e := [some (.str l), none]) (by simp) ((List.range (max 1 l.length)).map (rot l)) [] s
  rw [← range_strs] at hd
  have hs := sorted_dct (ss := keysT l) (vs := (keysT l).map fun _ => .bl true) (by have := len_keysT h; omega)
  have hl : ((List.range (max 1 l.length)).map fun k => PV.str (rot l k)).length ≤ LIM := le_LIM (by simp; omega)
  simp only [m_unlike_turns, defF_ap, ap_sret, ap_b, ap_cons, ap_nil, startE]
  unfold eDComp
  simp only [List.map_nil] at hd
  simp [m_turns_of_ap h, elems, wipeE]
  rw [if_pos (by simpa using hl), hd]
  simp only [Res.calm, bind_ok, List.map]
  unfold keysT at hs
  simp only [d_dct, hs, ofO_some, sbind_ok, fin_rt]
  rfl
theorem m_all_turns_ap {s : MS} {l : List Nat} (h : Wd l) : m_all_turns [.str l] s = .ok (.tup ((turnsT l).map .str)) s := by
  simp [m_all_turns, defF_ap, startE, m_check_word_ok h, m_unlike_turns_ap h.1, bTuple]
end Lw
namespace Lw
open Mr
/-! ### roots -/
theorem rng_add (lo : Int) (a b : Nat) : rng lo (a + b) = rng lo a ++ rng (lo + (a : Nat)) b := by
  unfold rng
  rw [List.range_add, List.map_append, List.map_map]
  congr 1
  apply List.map_congr_left
  intro k _
  show PV.int (lo + ((a + k : Nat) : Int)) = PV.int (lo + (a : Nat) + (k : Nat))
  congr 1; omega
theorem rng_cons (lo : Int) (n : Nat) : rng lo (n + 1) = .int lo :: rng (lo + 1) n := by
  rw [Nat.add_comm, rng_add]
  have : rng lo 1 = [.int lo] := by unfold rng; simp
  rw [this]
  rfl
theorem mem_rng1 {n : Nat} {x : PV} (h : x ∈ rng 1 n) : ∃ k : Nat, 0 < k ∧ k ≤ n ∧ x = .int (k : Nat) := by
  unfold rng at h
  obtain ⟨k, hk, rfl⟩ := List.mem_map.mp h
  have := List.mem_range.mp hk
  exact ⟨k + 1, by omega, by omega, by congr 1; omega⟩
theorem rng_split {n p : Nat} (h0 : 0 < p) (h1 : p ≤ n) : rng 1 n = rng 1 (p - 1) ++ .int (p : Nat) :: rng ((p : Nat) + 1) (n - p) := by
  have e : n = (p - 1) + (n - p + 1) := by omega
  conv => lhs; rw [e]
  rw [rng_add, rng_cons]
  have e2 : (1 : Int) + ((p - 1 : Nat) : Int) = (p : Nat) := by omega
  rw [e2]
theorem first_of {n p : Nat} {q : PV → Bool} (h0 : 0 < p) (h1 : p ≤ n) (hq : q (.int (p : Nat)) = true) (hl : ∀ d : Nat, 0 < d → d < p → q (.int (d : Nat)) = false) : ∃ r, (rng 1 n).filter q = .int (p : Nat) :: r := by
  rw [rng_split h0 h1, List.filter_append]
  have e : (rng 1 (p - 1)).filter q = [] := by
    rw [List.filter_eq_nil_iff]
    intro x hx
    obtain ⟨k, k0, k1, rfl⟩ := mem_rng1 hx
    rw [hl k k0 (by omega)]; decide
  rw [e, List.nil_append, List.filter_cons, if_pos hq]
  exact ⟨_, rfl⟩
theorem least_ex {l : List Nat} (hl : 0 < l.length) : ∃ p, Least l p := by
  have key : ∀ n, ∀ p, p ≤ n → 0 < p → p ∣ l.length → Per l p → ∃ p, Least l p := by
    intro n
    induction n with
    | zero => intro p h1 h2; omega
    | succ n ih =>
      intro p h1 h2 h3 h4
      rcases Classical.em (∃ d, 0 < d ∧ d < p ∧ d ∣ l.length ∧ Per l d) with ⟨d, d0, d1, d2, d3⟩ | hno
      · exact ih d (by omega) d0 d2 d3
      · exact ⟨p, h2, h3, h4, fun d d0 d1 d2 d3 => hno ⟨d, d0, d1, d2, d3⟩⟩
  exact key l.length l.length (Nat.le_refl _) hl ⟨1, by omega⟩ (per_len l)
theorem rng2_nat {n : Nat} (h : n ≤ 1000) : rng2 [.int 1, .int ((n : Nat) + 1)] = some (rng 1 n) := by
  show (if (smallI 1 && smallI ((n : Nat) + 1)) = true then some (rng 1 (((n : Nat) + 1 : Int) - 1).toNat) else none) = _
  have e1 : smallI 1 = true := smallI_nat (n := 1) (by decide)
  have e2 : smallI ((n : Int) + 1) = true := fits_iff.mpr ⟨by omega, by omega⟩
  rw [e1, e2]
  have e3 : (((n : Nat) + 1 : Int) - 1).toNat = n := by omega
  rw [e3]; rfl
/-- the numbers that divide n -/
def dvB (n : Nat) : PV → Bool
  | .int z => (n : Int) % z == 0
  | _ => false
theorem m_divisors_of_ap {s : MS} {n : Nat} (h : n ≤ 1000) : m_divisors_of [.int (n : Nat)] s = .ok (.lst ((rng 1 n).filter (dvB n))) s := by
  have hc := compM_filter (e := [some (.int (n : Nat)), none]) (i := 1) (tCm pEq2 (eBin pMod (eVar 0) (eVar 1)) (eC (.int 0))) (eVar 1) (dvB n) (rng 1 n) s (fun x hx s => by
      obtain ⟨k, k0, k1, rfl⟩ := mem_rng1 hx
      have : (0 : Int) < (k : Nat) := by omega
      simp [pMod, this, k0, pEq2, pEq, isD, dep, eqB, dvB]) (fun x hx s => by simp)
  have hl : (rng 1 n).length ≤ LIM := le_LIM (by unfold rng; simp; exact h)
  have hr := rng2_nat h
  simp [m_divisors_of, defF_ap, startE, pAdd, hr, hl, wipeE, hc, Res.calm]
/-- .. that are periods -/
def peB (l : List Nat) : PV → Bool
  | .int z => rot l z.toNat == l
  | _ => false
theorem m_root_by_ap {s : MS} {l : List Nat} {p : Nat} (h : l.length ≤ 12) (hl : 0 < l.length) (hp : Least l p) : m_root_by [.str l] s = .ok (.str (l.take p)) s := by
  have hpl : p ≤ l.length := Nat.le_of_dvd hl hp.dvd
  have hc := compM_filter (e := [some (.str l), none, none]) (i := 2) (tCm pEq2 (eCall m_turned_by [eVar 0, eVar 2]) (eVar 0)) (eVar 2) (peB l) ((rng 1 l.length).filter (dvB l.length)) s (fun x hx s => by
      obtain ⟨k, k0, k1, rfl⟩ := mem_rng1 (List.mem_filter.mp hx).1
      simp [m_turned_by_ap h, pEq2, pEq, isD, dep, eqB, peB]) (fun x hx s => by simp)
  rw [List.filter_filter] at hc
  obtain ⟨r, hr⟩ := first_of (n := l.length) (q := fun x => peB l x && dvB l.length x) hp.pos hpl (by
    have e1 : rot l p = l := hp.per
    have e2 : ((l.length : Nat) : Int) % (p : Nat) = 0 := by obtain ⟨c, hc⟩ := hp.dvd; rw [hc]; simp
    simp [peB, dvB, e1, e2]) (fun d d0 d1 => by
    by_cases hd : d ∣ l.length
    · have : ¬ rot l d = l := hp.low d d0 d1 hd
      simp [peB, this]
    · have : ¬ ((l.length : Nat) : Int) % (d : Nat) = 0 := fun z => hd (by
        have : (l.length % d : Nat) = 0 := by omega
        exact Nat.dvd_of_mod_eq_zero this)
      simp [dvB, this])
  rw [hr] at hc
  have hll : ((rng 1 l.length).filter (dvB l.length)).length ≤ LIM := le_LIM (Nat.le_trans (List.length_filter_le _ _) (by unfold rng; simp; omega))
  have hb := bLen_str (l := l) (by omega)
  have hz : (l.length ≤ LIM) := le_LIM (by omega)
  simp [m_root_by, defF_ap, startE, hb, m_divisors_of_ap (n := l.length) (by omega), elems, hll, wipeE, hc, Res.calm, pIx, atL, ixL, pCut, hz, cut_to hpl]
theorem m_root_ap {s : MS} {l : List Nat} {p : Nat} (h : Wd l) (hl : 0 < l.length) (hp : Least l p) : m_root [.str l] s = .ok (.str (l.take p)) s := by
  have hne : ¬ l = [] := by intro e; rw [e] at hl; cases hl
  have hc : m_check_rooted [.str l] s = .ok .non s := by
    simp [m_check_rooted, defF_ap, startE, m_check_word_ok h, pEq2, pEq, isD, dep, eqB, hne]
  simp [m_root, defF_ap, startE, hc, m_root_by_ap h.1 hl hp]
/-! the law's own root -/
theorem forM_skip {body : SX} {w : PV} {s : MS} : ∀ (xs ys : List PV) (o : Option PV), (∀ x ∈ xs, body [some w, some x] s = .nx [some w, some x] s) → ∃ o', Mr.forM (aName 1) body (xs ++ ys) [some w, o] s = Mr.forM (aName 1) body ys [some w, o'] s
  | [], ys, o, _ => ⟨o, rfl⟩
  | x :: xs, ys, o, h => by
    obtain ⟨o', q⟩ := forM_skip xs ys (some x) fun y hy => h y (List.mem_cons_of_mem _ hy)
    refine ⟨o', ?_⟩
    rw [List.cons_append]
    simp only [Mr.forM, ap_name, List.set]
    rw [h x List.mem_cons_self]
    exact q
instance {l : List Nat} {k : Nat} : Decidable (Per l k) := inferInstanceAs (Decidable (rot l k = l))
noncomputable def rootB : SX := sIf (tAnd2 (tCm pEq2 (eBin pMod (eB bInt [eB bLen [eVar 0]]) (eVar 1)) (eC (.int 0))) (tCm pEq2 (eBin pMul (eCut (eVar 0) (oNone) (oSome (eVar 1))) (eBin pFdiv (eB bLen [eVar 0]) (eVar 1))) (eVar 0))) (sRet (eCut (eVar 0) (oNone) (oSome (eVar 1)))) (sNil)
theorem pMul_str {a : List Nat} {q : Nat} (h : a.length * q ≤ 1000) (hq : q ≤ 1000) : pMul (.str a) (.int (q : Nat)) = some (.str (List.replicate q a).flatten) := by
  show (if a.length * ((q : Nat) : Int).toNat ≤ LIM ∧ fits 62 (q : Nat) = true then some (PV.str (List.replicate ((q : Nat) : Int).toNat a).flatten) else none) = _
  rw [Int.toNat_natCast, if_pos ⟨le_LIM h, fits_nat hq (by decide) (by decide)⟩]
theorem rootB_ap {s : MS} {l : List Nat} {d : Nat} (h : l.length ≤ 12) (hl : 0 < l.length) (d0 : 0 < d) (d1 : d ≤ l.length) :
    rootB [some (.str l), some (.int (d : Nat))] s = if d ∣ l.length ∧ Per l d then SRes.rt (.str (l.take d)) s else SRes.nx [some (.str l), some (.int (d : Nat))] s := by
  have hb := bLen_str (l := l) (by omega)
  have hz : (l.length ≤ LIM) := le_LIM (by omega)
  have d0' : (0 : Int) < (d : Nat) := by omega
  have hf : fits 30 (d : Nat) = true := fits_nat (m := 12) (by omega) (by decide) (by decide)
  by_cases hd : d ∣ l.length
  · have e2 : ((l.length : Nat) : Int) % (d : Nat) = 0 := by obtain ⟨c, hc⟩ := hd; rw [hc]; simp
    have e3 : ((l.length : Nat) : Int) / (d : Nat) = ((l.length / d : Nat) : Int) := by simp
    have hm := pMul_str (a := l.take d) (q := l.length / d) (by
      have : l.length / d ≤ l.length := Nat.div_le_self _ _
      have q := Nat.mul_le_mul (List.length_take_le d l) (show l.length / d ≤ 12 by omega)
      omega) (by have : l.length / d ≤ l.length := Nat.div_le_self _ _; omega)
    have hr := rep_iff d0 hd hl
    unfold rootB
    simp only [ap_sif, ap_and2, ap_tcm, ap_bin, ap_b, ap_cons, ap_nil, ap_var, ap_c, ap_cut, ap_none, ap_osome, List.getElem?_cons_zero, List.getElem?_cons_succ, bind_ok, List.map, d_str, d_int, hb, ofO_some, bInt, oInt_int, lift_some]
    rw [show pMod (.int ((l.length : Nat) : Int)) (.int (d : Nat)) = some (.int 0) by simp [pMod, d0, e2]]
    rw [show pFdiv (.int ((l.length : Nat) : Int)) (.int (d : Nat)) = some (.int ((l.length / d : Nat) : Int)) by simp [pFdiv, d0, hf]]
    rw [show pCut (.str l) none (some (d : Nat)) = some (.str (l.take d)) by simp [pCut, hz, cut_to d1]]
    simp only [ofO_some, bind_ok, d_int, d_str, hm]
    by_cases hp : Per l d
    · rw [if_pos ⟨hd, hp⟩, hr.mpr hp]
      simp [pEq2, pEq, isD, dep, eqB, pCut, hz, cut_to d1]
    · rw [if_neg fun z => hp z.2]
      have : ¬ (List.replicate (l.length / d) (l.take d)).flatten = l := fun z => hp (hr.mp z)
      simp [pEq2, pEq, isD, dep, eqB, this]
  · have e2 : ¬ ((l.length : Nat) : Int) % (d : Nat) = 0 := fun z => hd (by
        have : (l.length % d : Nat) = 0 := by omega
        exact Nat.dvd_of_mod_eq_zero this)
    rw [if_neg fun z => hd z.1]
    simp [rootB, hb, bInt, pMod, d0, pEq2, pEq, isD, dep, eqB, e2]
theorem m__law_root_ap {s : MS} {l : List Nat} {p : Nat} (h : l.length ≤ 12) (hl : 0 < l.length) (hp : Least l p) : m__law_root [.str l] s = .ok (.str (l.take p)) s := by
  have hpl : p ≤ l.length := Nat.le_of_dvd hl hp.dvd
  have hb := bLen_str (l := l) (by omega)
  have hr := rng2_nat (n := l.length) (by omega)
  obtain ⟨o', ho⟩ := forM_skip (body := rootB) (w := .str l) (s := s) (rng 1 (p - 1)) (.int (p : Nat) :: rng ((p : Nat) + 1) (l.length - p)) none (fun x hx => by
    obtain ⟨d, d0, d1, rfl⟩ := mem_rng1 hx
    rw [rootB_ap h hl d0 (by omega), if_neg fun z => hp.low d d0 (by omega) z.1 z.2])
  rw [← rng_split hp.pos hpl] at ho
  have he : Mr.forM (aName 1) rootB (.int (p : Nat) :: rng ((p : Nat) + 1) (l.length - p)) [some (.str l), o'] s = .rt (.str (l.take p)) s := by
    simp only [Mr.forM, ap_name, List.set]
    rw [rootB_ap h hl hp.pos hpl, if_pos ⟨hp.dvd, hp.per⟩]
  rw [he] at ho
  unfold m__law_root
  rw [defF_ap, ap_sseq, ap_sfor]
  have hi : iRng rng2 [eC (.int 1), eBin pAdd (eB bLen [eVar 0]) (eC (.int 1))] (startE 2 [.str l]) s = .ok (rng 1 l.length) s := by
    simp [startE, hb, pAdd, hr]
  rw [hi, sbind_ok]
  show ((Mr.forM (aName 1) rootB (rng 1 l.length) [some (.str l), none] s).then _).fin = _
  rw [ho, then_rt, fin_rt]
end Lw
namespace Lw
open Mr
/-! ### the law's own turns -/
def D (ks : List (List Nat)) : PO := .dct false (ks.map .str) (ks.map fun _ => .bl true)
theorem new_m (s : MS) (o : PO) : (s.new o).m s.n = some o := by simp [MS.new]
theorem new_put (s : MS) (o o' : PO) : (s.new o).put s.n o' = s.new o' := by
  unfold MS.new MS.put
  congr 1
  funext j
  by_cases h : j = s.n <;> simp [h]
theorem oSet_D {ks : List (List Nat)} (h : ks.length ≤ 999) (x : List Nat) : oSet (D ks) (.str x) (.bl true) = some (D (addK ks x)) := by
  unfold D
  show (if (isKey false (.str x) && decide ((ks.map PV.str).length < LIM)) = true then some (PO.dct false (dput (ks.map .str) (ks.map fun _ => .bl true) (.str x) (.bl true)).1 (dput (ks.map .str) (ks.map fun _ => .bl true) (.str x) (.bl true)).2) else none) = _
  have hl : ks.length < LIM := by have := le_LIM (n := ks.length + 1) (by omega); omega
  rw [dput_str, List.length_map]
  simp [isKey, hl]
theorem keys_eq {l : List Nat} : ((List.range l.length).map (rot l)).foldl addK [l] = keysT l := by
  unfold keysT
  rcases Nat.eq_zero_or_pos l.length with h | h
  · have : l = [] := List.length_eq_zero_iff.mp h
    subst this
    rfl
  · obtain ⟨n, hn⟩ : ∃ n, l.length = n + 1 := ⟨l.length - 1, by omega⟩
    have e : max 1 l.length = n + 1 := by omega
    rw [e, hn, List.range_succ_eq_map, List.map_cons, List.foldl_cons, List.foldl_cons, rot_zero]
    have e1 : addK [l] l = [l] := by simp [addK]
    have e2 : addK [] l = [l] := by simp [addK]
    rw [e1, e2]
noncomputable def turnB : SX := sSet (eC (.bl true)) (aSub (eVar 1) (eCall m__law_turned [eVar 0, eVar 2]))
theorem turnB_ap {s : MS} {l : List Nat} {ks : List (List Nat)} (h : l.length ≤ 12) (hk : ks.length ≤ 999) (k : Nat) :
    turnB [some (.str l), some (.obj s.n), some (.int (k : Nat))] (s.new (D ks)) = SRes.nx [some (.str l), some (.obj s.n), some (.int (k : Nat))] (s.new (D (addK ks (rot l k)))) := by
  have e := oSet_D hk (rot l k)
  simp [turnB, aSub, m__law_turned_ap h, new_m, e, new_put]
theorem forM_turns {s : MS} {l : List Nat} (h : l.length ≤ 12) : ∀ (js : List Nat) (ks : List (List Nat)) (o : Option PV), ks.length + js.length ≤ 999 →
    ∃ o', Mr.forM (aName 2) turnB (js.map fun j => .int (j : Nat)) [some (.str l), some (.obj s.n), o] (s.new (D ks)) = SRes.nx [some (.str l), some (.obj s.n), o'] (s.new (D ((js.map (rot l)).foldl addK ks)))
  | [], ks, o, _ => ⟨o, rfl⟩
  | j :: js, ks, o, hk => by
    have hlen : (addK ks (rot l j)).length ≤ ks.length + 1 := by unfold addK; split <;> simp
    rw [List.length_cons] at hk
    obtain ⟨o', q⟩ := forM_turns h js (addK ks (rot l j)) (some (.int (j : Nat))) (by omega)
    refine ⟨o', ?_⟩
    simp only [List.map_cons, List.foldl_cons, Mr.forM, ap_name, List.set]
    rw [turnB_ap h (by omega)]
    exact q
theorem rng0 (n : Nat) : rng 0 n = (List.range n).map fun j => PV.int (j : Nat) := by
  unfold rng
  apply List.map_congr_left
  intro k _
  rw [Int.zero_add]
theorem m__law_turns_ap {s : MS} {l : List Nat} (h : l.length ≤ 12) : m__law_turns [.str l] s = .ok (.tup ((turnsT l).map .str)) (s.new (D (keysT l))) := by
  have hb := bLen_str (l := l) (by omega)
  have hr := rng1_nat (n := l.length) (by omega)
  obtain ⟨o', ho⟩ := forM_turns (s := s) h (List.range l.length) [l] none (by simp; omega)
  rw [keys_eq, ← rng0] at ho
  have hs := sorted_lst (ss := keysT l) (by have := len_keysT h; omega)
  have hd : eDispM [(eVar 0, eC (.bl true))] [some (.str l), none, none] s = .ok (.obj s.n) (s.new (D [l])) := by
    unfold eDispM
    simp [ePairs, okPairs, isKey, dMake, D]
    rfl
  unfold m__law_turns
  rw [defF_ap, ap_sseq, ap_sset]
  show (SRes.then ((eDispM [(eVar 0, eC (.bl true))] [some (.str l), none, none] s).sbind _ _) _).fin = _
  rw [hd, sbind_ok]
  show (SRes.then (SRes.nx [some (.str l), some (.obj s.n), none] (s.new (D [l]))) _).fin = _
  rw [then_nx, ap_sseq, ap_sfor]
  have hi : iRng rng1 [eB bLen [eVar 0]] [some (.str l), some (.obj s.n), none] (s.new (D [l])) = .ok (rng 0 l.length) (s.new (D [l])) := by
    simp [hb, hr]
  rw [hi, sbind_ok]
  show (SRes.then (Mr.forM (aName 2) turnB (rng 0 l.length) [some (.str l), some (.obj s.n), none] (s.new (D [l]))) _).fin = _
  rw [ho, then_nx]
  have hdr : deref (s.new (D (keysT l))) (.obj s.n) = .dct false ((keysT l).map .str) ((keysT l).map fun _ => .bl true) := by
    simp [deref, new_m, D]
  simp [hdr, bList, hs, bTuple]
  rfl
theorem m_letter_count_ap {s : MS} {l : List Nat} {c : Nat} (h : Wd l) (hc : c ∈ abc) : m_letter_count [.str l, .str [c]] s = .ok (.int (l.count c : Nat)) s := by
  have hw : Wd [c] := ⟨by simp, fun d hd => by simp at hd; rw [hd]; exact hc⟩
  have hl : m_check_letter [.str [c]] s = .ok .non s := by
    have e : m_is_letter [.str [c]] s = .ok (.bl true) s := by
      simp [m_is_letter, defF_ap, startE, m_is_worded_ap (.inl ⟨[c], rfl, by simp⟩), wd_iff.mpr hw, bLen_str (l := [c]) (by simp), pEq2, pEq, isD, dep, eqB]
    simp [m_check_letter, defF_ap, startE, e]
  simp [m_letter_count, defF_ap, startE, m_check_word_ok h, hl, recv, isStr, mCount]
end Lw
namespace Lw
open Mr
/-! ### the law's own == on what is the same -/
def okD : Nat → PV → Bool
  | 0, _ => false
  | n + 1, .tup l => l.all (okD n) && decide (l.length ≤ 100)
  | n + 1, .lst l => okD n (.tup l)
  | _ + 1, .dct false ks vs => dsame ks vs ks vs
  | _ + 1, .non => true
  | _ + 1, .bl _ => true
  | _ + 1, .int _ => true
  | _ + 1, .str _ => true
  | _ + 1, _ => false
theorem comp_same {r : FN} {l : List PV} (hr : ∀ p ∈ l, ∀ s, r [p, p] s = .ok (.bl true) s) : ∀ (m : List PV) (k : Nat) (s : MS), (∀ j, m[j]? = l[k + j]?) →
    compM (aTup [aName 2, aName 3]) tYs (eCall r [eBin pIx (eVar 0) (eVar 2), eVar 3]) [some (.tup l), some (.tup l), none, none] (enumL (k : Nat) m) s = .ok (m.map fun _ => .bl true) s
  | [], k, s, _ => rfl
  | x :: m, k, s, h => by
    have hx : l[k]? = some x := by have := h 0; simpa using this.symm
    have hk : k < l.length := (List.getElem?_eq_some_iff.mp hx).1
    have hm : x ∈ l := List.mem_of_getElem? hx
    have ih := comp_same hr m (k + 1) s (fun j => by have := h (j + 1); simp only [List.getElem?_cons_succ] at this; rw [this]; congr 1; omega)
    have e1 : pIx (.tup l) (.int (k : Nat)) = some x := by
      have h0 : (0 : Int) ≤ (k : Nat) := by omega
      have h1 : ((k : Nat) : Int) < (l.length : Nat) := by omega
      simp [pIx, atL, ixL, hk]
      exact (List.getElem?_eq_some_iff.mp hx).2
    have e2 : ((k : Nat) : Int) + 1 = ((k + 1 : Nat) : Int) := by omega
    simp only [enumL, compM, aTup, aAll, ap_name, List.set, ap_yes, bind_ok, if_true, ap_call, ap_cons, ap_nil, ap_bin, ap_var, List.getElem?_cons_zero, List.getElem?_cons_succ, d_tup, d_int, e1, ofO_some, hr x hm, e2, ih, List.map_cons]
theorem allBl_true (m : List PV) : allBl (m.map fun _ => PV.bl true) = some (m.map fun _ => true) := allBl_map (fun _ => true) m
theorem is_refl : ∀ (n : Nat) (p : PV) (s : MS), okD n p = true → m__law_is n [p, p] s = .ok (.bl true) s
  | 0, p, s, h => by simp [okD] at h
  | n + 1, .tup l, s, h => by
    simp only [okD, Bool.and_eq_true, decide_eq_true_eq, List.all_eq_true] at h
    have hc := comp_same (r := m__law_is n) (l := l) (fun p hp s => is_refl n p s (h.1 p hp)) l 0 s (fun j => by rw [Nat.zero_add])
    have hl : (enumL 0 l).length ≤ LIM := le_LIM (by rw [enumL_length]; omega)
    have e0 : enumL ((0 : Nat) : Int) l = enumL 0 l := rfl
    rw [e0] at hc
    simp [m__law_is, defF_ap, startE, bIsi, tyOf, kinds, isSub, bLen, seqOf, pNe2, pEq2, pEq, isD, dep, eqB, elemsS, hl, wipeE, hc, Res.calm, bAll, allBl_true]
  | n + 1, .lst l, s, h => by
    have ih := is_refl n (.tup l) s h
    simp [m__law_is, defF_ap, startE, bIsi, tyOf, kinds, isSub, bTuple, ih]
  | n + 1, .dct false ks vs, s, h => by
    simp only [okD] at h
    simp [m__law_is, defF_ap, startE, bIsi, tyOf, kinds, isSub, pEq2, h]
  | n + 1, .non, s, h => by simp [m__law_is, defF_ap, startE, bIsi, tyOf, kinds, isSub, pIs, isNon]
  | n + 1, .bl b, s, h => by cases b <;> simp [m__law_is, defF_ap, startE, bIsi, tyOf, kinds, isSub, pIs, isNon, isBl]
  | n + 1, .int z, s, h => by simp [m__law_is, defF_ap, startE, bIsi, tyOf, kinds, isSub, pIs, isNon, isBl, pEq2, pEq, isD, dep, eqB]
  | n + 1, .str l, s, h => by simp [m__law_is, defF_ap, startE, bIsi, tyOf, kinds, isSub, pIs, isNon, isBl, pEq2, pEq, isD, dep, eqB]
  | n + 1, .dct true ks vs, s, h => by simp [okD] at h
  | n + 1, .set _, s, h => by simp [okD] at h
  | n + 1, .scr _, s, h => by simp [okD] at h
  | n + 1, .obj _, s, h => by simp [okD] at h
  | n + 1, .fn _, s, h => by simp [okD] at h
  | n + 1, .clo _ _, s, h => by simp [okD] at h
  | n + 1, .ty _, s, h => by simp [okD] at h
/-! ### the law's own words -/
theorem comp_notin (l : List Nat) (s : MS) : compM (aName 1) (tCm pNin (eVar 1) (eC (.str [97, 98, 99]))) (eVar 1) [some (.str l), none] (l.map fun c => .str [c]) s = .ok ((l.filter fun c => !decide (c ∈ abc)).map fun c => .str [c]) s := by
  have hc := compM_filter (e := [some (.str l), none]) (i := 1) (tCm pNin (eVar 1) (eC (.str [97, 98, 99]))) (eVar 1) (fun x => match x with
    | .str [c] => !decide (c ∈ abc)
    | _ => false) (l.map fun c => .str [c]) s (fun x hx s => by
      obtain ⟨c, _, rfl⟩ := List.mem_map.mp hx
      simp [pNin, pIn, abc_eq]) (fun x hx s => by simp)
  rw [hc, List.filter_map]
  rfl
theorem isDs_map {α : Type} (f : α → List Nat) (l : List α) : isDs (l.map fun c => PV.str (f c)) = true := by
  have := isDs_strs (l.map f); rwa [List.map_map] at this
theorem deps_map {α : Type} (f : α → List Nat) (l : List α) : deps (l.map fun c => PV.str (f c)) = 0 := by
  have := deps_strs (l.map f); rwa [List.map_map] at this
theorem eq_nil {α : Type} (f : α → List Nat) (l : List α) : pEq2 (.lst (l.map fun c => .str (f c))) (.lst []) = some l.isEmpty := by
  cases l with
  | nil => rfl
  | cons x l =>
    have h := isDs_map f (x :: l)
    have h2 := deps_map f (x :: l)
    show (if isDs ((x :: l).map fun c => PV.str (f c)) && isDs [] && decide (min (deps ((x :: l).map fun c => PV.str (f c)) + 1) (deps [] + 1) ≤ 64) then some (eqB (.lst ((x :: l).map fun c => PV.str (f c))) (.lst [])) else none) = _
    rw [h, h2]
    rfl
theorem m__law_is_word_ap {s : MS} {p : PV} (h : Val p) : m__law_is_word [p] s = .ok (.bl (wdB p)) s := by
  rcases h with ⟨l, rfl, hl⟩ | ⟨t, h1, h2, h3⟩
  · have hL : l.length ≤ LIM := le_LIM hl
    have hb := bLen_str hl
    have hc := comp_notin l s
    simp only [wdB]
    by_cases h12 : l.length ≤ 12
    · have h13 : ((l.length : Nat) : Int) < 13 := by omega
      simp [m__law_is_word, defF_ap, startE, bIsi, tyOf, kinds, isSub, hb, pLt, h13, elems, hL, wipeE, hc, Res.calm, eq_nil, h12]
      rw [Bool.eq_iff_iff]
      simp
    · have h13 : ¬ ((l.length : Nat) : Int) < 13 := by omega
      simp [m__law_is_word, defF_ap, startE, bIsi, tyOf, kinds, isSub, hb, pLt, h13, h12]
  · have hw : wdB p = false := by cases p <;> simp_all [wdB, tyOf]
    have h4 : isSub t "str" = false := by simp [isSub] at h2 ⊢; exact h2
    simp [m__law_is_word, defF_ap, startE, bIsi, h3, h1, kinds, h4, hw]
end Lw
namespace Lw
open Mr
/-! ### wells -/
/-- at i stands a well -/
def WS (i : Nat) (s : MS) : Prop := (∃ a b c : Int, s.m i = some (.lst [.int a, .int b, .int c])) ∧ i < s.n
theorem WS.put {i : Nat} {s : MS} {a b c : Int} (h : WS i s) : WS i (s.put i (.lst [.int a, .int b, .int c])) := ⟨⟨a, b, c, by simp [MS.put]⟩, h.2⟩
theorem WS.new {i : Nat} {s : MS} {o : PO} (h : WS i s) : WS i (s.new o) := by
  obtain ⟨⟨a, b, c, e⟩, l⟩ := h
  exact ⟨⟨a, b, c, by simp [MS.new, Nat.ne_of_lt l, e]⟩, Nat.lt_succ_of_lt l⟩
theorem fits_lit {k : Nat} {z : Int} (h1 : -(2 ^ k) < z) (h2 : z < 2 ^ k) : fits k z = true := fits_iff.mpr ⟨h1, h2⟩
theorem put_put (s : MS) (i : Nat) (o o' : PO) : (s.put i o).put i o' = s.put i o' := by
  unfold MS.put
  congr 1
  funext j
  by_cases h : j = i <;> simp [h]
theorem put_m (s : MS) (i : Nat) (o : PO) : (s.put i o).m i = some o := by simp [MS.put]
theorem deref_lst {s : MS} {i : Nat} {l : List PV} (h : s.m i = some (.lst l)) : deref s (.obj i) = .lst l := by simp [deref, h]
theorem ix3 (a b c : PV) : pIx (.lst [a, b, c]) (.int 0) = some a ∧ pIx (.lst [a, b, c]) (.int 1) = some b ∧ pIx (.lst [a, b, c]) (.int 2) = some c := ⟨rfl, rfl, rfl⟩
theorem m__law_take_ap {i n : Nat} {s : MS} (h : WS i s) (h0 : 0 < n) (h1 : n ≤ 1000) : ∃ (k : Nat) (s' : MS), m__law_take [.obj i, .int (n : Nat)] s = .ok (.int (k : Nat)) s' ∧ k < n ∧ WS i s' := by
  obtain ⟨⟨a, b, c, e⟩, hi⟩ := h
  have hf : fits 30 (n : Nat) = true := fits_nat h1 (by decide) (by decide)
  have hn : (0 : Int) < (n : Nat) := by omega
  have key : ∀ z : Int, ∃ k : Nat, z % (n : Nat) = (k : Nat) ∧ k < n := fun z => by
    have q1 := Int.emod_nonneg z (show ((n : Nat) : Int) ≠ 0 by omega)
    have q2 := Int.emod_lt_of_pos z hn
    exact ⟨(z % (n : Nat)).toNat, by omega, by omega⟩
  have hd := deref_lst e
  obtain ⟨i0, i1, i2⟩ := ix3 (.int a) (.int b) (.int c)
  by_cases ha : 0 < a
  · obtain ⟨k, hk, hk2⟩ := key a
    refine ⟨k, s.put i (.lst [.int (a / (n : Nat)), .int b, .int c]), ?_, hk2, WS.put ⟨⟨a, b, c, e⟩, hi⟩⟩
    simp [m__law_take, defF_ap, startE, hd, i0, pGt, qLt, ha, bDivmod, h0, hf, aTup, aAll, aSub, e, oSet, ixL, hk]
  · have s1 : (small b || small (b % 28657 + 40009)) = true := by
      have q1 := Int.emod_nonneg b (show (28657 : Int) ≠ 0 by decide)
      have q2 := Int.emod_lt_of_pos b (show (0 : Int) < 28657 by decide)
      have : small (b % 28657 + 40009) = true := fits_lit (by omega) (by omega)
      rw [this, Bool.or_true]
    have s2 : (small 50023 || small (c + 1)) = true := by
      have : small 50023 = true := fits_lit (by decide) (by decide)
      rw [this, Bool.true_or]
    have f83 : fits 30 83 = true := fits_lit (by decide) (by decide)
    obtain ⟨k, hk, hk2⟩ := key ((b * (b % 28657 + 40009) + 50023 * (c + 1) + 17) % 2147483563 / 83)
    refine ⟨k, s.put i (.lst [.int a, .int ((b * (b % 28657 + 40009) + 50023 * (c + 1) + 17) % 2147483563), .int (c + 1)]), ?_, hk2, WS.put ⟨⟨a, b, c, e⟩, hi⟩⟩
    have d1 : ∀ l, deref (s.put i (.lst l)) (.obj i) = .lst l := fun l => deref_lst (put_m s i _)
    have m1 : ∀ x y : Int, (small x || small y) = true → pMul (.int x) (.int y) = some (.int (x * y)) := fun x y q => by
      show (if small x || small y then some (PV.int (x * y)) else none) = _
      rw [if_pos q]
    simp [m__law_take, defF_ap, startE, hd, pIx, atL, ixL, pGt, qLt, ha, aSub, e, oSet, pAdd, d1, put_m, put_put, bInt, pMod, m1 _ _ s1, m1 _ _ s2, pFdiv, f83, h0, hk]
theorem m__law_pick_ap {i : Nat} {s : MS} {l : List PV} (h : WS i s) (h0 : 0 < l.length) (h1 : l.length ≤ 1000) : ∃ (p : PV) (s' : MS), m__law_pick [.obj i, .lst l] s = .ok p s' ∧ p ∈ l ∧ WS i s' := by
  obtain ⟨k, s', e, hk, hw⟩ := m__law_take_ap h h0 h1
  refine ⟨l[k], s', ?_, List.getElem_mem hk, hw⟩
  have e1 : bLen [.lst l] = some (.int (l.length : Nat)) := rfl
  have hk' : ((k : Nat) : Int) < (l.length : Nat) := by omega
  simp [m__law_pick, defF_ap, startE, e1, e, pIx, atL, ixL, hk]
/-- signs are drawn -/
def sg (k : Nat) : Nat := 97 + k
theorem sg_mem {k : Nat} (hk : k < 3) : sg k ∈ abc := by
  unfold sg abc; simp; omega
theorem sign_k {k : Nat} (hk : k < 3) : pIx (.str [97, 98, 99]) (.int (k : Nat)) = some (.str [sg k]) := by
  show (if ([97, 98, 99] : List Nat).length ≤ LIM then (atL [97, 98, 99] (k : Nat)).map (fun c => PV.str [c]) else none) = _
  rw [if_pos (le_LIM (by decide))]
  have h : k = 0 ∨ k = 1 ∨ k = 2 := by omega
  rcases h with rfl | rfl | rfl <;> rfl
theorem comp_draw {i n : Nat} {o1 o2 o3 o5 : Option PV} (hn : 0 < n) (hn3 : n ≤ 3) : ∀ (xs : List PV) (s : MS), WS i s → ∃ (l : List Nat) (s' : MS),
    compM (aName 6) tYs (eBin pIx (eC (.str [97, 98, 99])) (eCall m__law_take [eVar 0, eVar 4])) [some (.obj i), o1, o2, o3, some (.int (n : Nat)), o5, none] xs s = .ok (l.map fun c => .str [c]) s' ∧ l.length = xs.length ∧ (∀ c ∈ l, c ∈ abc) ∧ WS i s'
  | [], s, h => ⟨[], s, rfl, rfl, by simp, h⟩
  | x :: xs, s, h => by
    obtain ⟨k, s1, e1, hk, h1⟩ := m__law_take_ap h hn (by omega)
    obtain ⟨l, s2, e2, hl, hm, h2⟩ := comp_draw (o1 := o1) (o2 := o2) (o3 := o3) (o5 := o5) hn hn3 xs s1 h1
    have hi := sign_k (k := k) (by omega)
    refine ⟨sg k :: l, s2, ?_, by simp [hl], fun c hc => ?_, h2⟩
    · simp only [compM, ap_name, List.set, ap_yes, bind_ok, if_true, ap_bin, ap_c, ap_call, ap_cons, ap_nil, ap_var, List.getElem?_cons_zero, List.getElem?_cons_succ, e1, d_str, d_int, hi, ofO_some, e2, List.map_cons]
    · rcases List.mem_cons.mp hc with rfl | hc
      · exact sg_mem (by omega)
      · exact hm c hc
theorem joinL_one : ∀ l : List Nat, joinL [] (l.map fun c => [c]) = l
  | [] => rfl
  | [c] => rfl
  | c :: d :: l => by
    have ih := joinL_one (d :: l)
    simp only [List.map_cons] at ih ⊢
    show [c] ++ ([] ++ joinL [] ([d] :: l.map fun c => [c])) = c :: d :: l
    rw [ih]; rfl
theorem allStr_signs (l : List Nat) : allStr (l.map fun c => PV.str [c]) = some (l.map fun c => [c]) := by
  induction l with
  | nil => rfl
  | cons c l ih => simp only [List.map_cons, allStr, ih]; rfl
theorem sum_ones (l : List Nat) : ((l.map fun c => [c]).map (·.length)).sum = l.length := by
  induction l with
  | nil => rfl
  | cons c l ih => simp only [List.map_cons, List.sum_cons, ih, List.length_cons, List.length_nil]; omega
theorem join_signs {l : List Nat} (h : l.length ≤ 1000) : mJoin (.str []) [.lst (l.map fun c => .str [c])] = some (.str l) := by
  show ((allStr (l.map fun c => PV.str [c])).bind fun ss => if (ss.map (·.length)).sum + ss.length * ([] : List Nat).length ≤ LIM then some (PV.str (joinL [] ss)) else none) = _
  rw [allStr_signs, Option.bind_some, sum_ones, joinL_one, if_pos (le_LIM (by simpa using h))]
theorem replicate_abc {c n : Nat} (hc : c ∈ abc) (hn : n ≤ 12) : Wd (List.replicate n [c]).flatten := by
  refine ⟨by rw [rep_len]; simpa using hn, fun d hd => ?_⟩
  obtain ⟨u, hu, hd⟩ := List.mem_flatten.mp hd
  rw [(List.mem_replicate.mp hu).2] at hd
  simp at hd
  rw [hd]; exact hc
theorem rep_mem {u : List Nat} {q c : Nat} (h : c ∈ (List.replicate q u).flatten) : c ∈ u := by
  obtain ⟨v, hv, hc⟩ := List.mem_flatten.mp h
  rw [(List.mem_replicate.mp hv).2] at hc
  exact hc
theorem cut_to_any {l : List Nat} (b : Nat) : cutL l none (some (b : Int)) = l.take (min b l.length) := by
  unfold cutL
  rw [sIx_nn]
  show (l.drop 0).take (min b l.length - 0) = l.take (min b l.length)
  simp
theorem take_k {i n : Nat} {s : MS} (z : Int) (hz : z = (n : Nat)) (h : WS i s) (h0 : 0 < n) (h1 : n ≤ 1000) : ∃ (k : Nat) (s' : MS), m__law_take [.obj i, .int z] s = .ok (.int (k : Nat)) s' ∧ k < n ∧ WS i s' := by
  subst hz; exact m__law_take_ap h h0 h1
noncomputable def restD : SX := sSeq (sIf (tCm pEq2 (eVar 2) (eC (.int 0))) (sRet (eBin pMul (eBin pIx (eC (.str [97, 98, 99])) (eCall m__law_take [eVar 0, eC (.int 3)])) (eVar 3))) (sNil))
  (sSeq (sIf (tCm pLt (eVar 2) (eC (.int 3))) (sSeq (sSet (eMt "str" mJoin (eC (.str [])) [eComp [6] (iRng rng1 [eBin pAdd (eC (.int 1)) (eCall m__law_take [eVar 0, eC (.int 3)])]) (aName 6) (tYs) (eBin pIx (eC (.str [97, 98, 99])) (eCall m__law_take [eVar 0, eVar 4]))]) (aName 5))
  (sRet (eCall m__law_turned [eCut (eBin pMul (eVar 5) (eC (.int 12))) (oNone) (oSome (eBin pMul (eBin pFdiv (eVar 3) (eB bLen [eVar 5])) (eB bLen [eVar 5]))), eCall m__law_take [eVar 0, eC (.int 4)]]))) (sNil))
  (sRet (eMt "str" mJoin (eC (.str [])) [eComp [6] (iRng rng1 [eVar 3]) (aName 6) (tYs) (eBin pIx (eC (.str [97, 98, 99])) (eCall m__law_take [eVar 0, eVar 4]))])))
theorem m__law_drawn_word_ap {i most : Nat} {s : MS} (h : WS i s) (hm : most ≤ 12) : ∃ (l : List Nat) (s' : MS), m__law_drawn_word [.obj i, .int (most : Nat)] s = .ok (.str l) s' ∧ Wd l ∧ WS i s' := by
  obtain ⟨way, s1, e1, hway, h1⟩ := take_k (n := 6) 6 rfl h (by decide) (by decide)
  obtain ⟨size, s2, e2, hsize, h2⟩ := take_k (n := most + 1) ((most : Nat) + 1) (by omega) h1 (by omega) (by omega)
  obtain ⟨num, s3, e3, hnum, h3⟩ := take_k (n := 3) 3 rfl h2 (by decide) (by decide)
  have hlim : (3 : Nat) ≤ LIM := le_LIM (by decide)
  have hnum1 : (1 : Int) + (num : Nat) = ((1 + num : Nat) : Int) := by omega
  have start : m__law_drawn_word [.obj i, .int (most : Nat)] s = (restD [some (.obj i), some (.int (most : Nat)), some (.int (way : Nat)), some (.int (size : Nat)), some (.int ((1 + num : Nat) : Int)), none, none] s3).fin := by
    have a1 : ∀ x y : Int, pAdd (.int x) (.int y) = some (.int (x + y)) := fun _ _ => rfl
    unfold m__law_drawn_word
    rw [defF_ap, ap_sseq]
    simp only [startE, ap_sset, ap_tup, ap_cons, ap_nil, ap_call, ap_var, ap_c, ap_bin, List.map, List.length_cons, List.length_nil, List.replicate, List.cons_append, List.nil_append, Nat.reduceAdd, Nat.reduceSub, List.getElem?_cons_zero, List.getElem?_cons_succ, bind_ok, e1, d_int, a1, ofO_some, e2, e3, hlim, if_true, sbind_ok, aTup, aAll, ap_name, List.set, then_nx, hnum1]
    rfl
  rw [start]
  unfold restD
  rw [ap_sseq, ap_sif]
  by_cases w0 : way = 0
  · obtain ⟨k, s4, e4, hk, h4⟩ := take_k (n := 3) 3 rfl h3 (by decide) (by decide)
    have hp := pMul_str (a := [sg k]) (q := size) (by simp; omega) (by omega)
    refine ⟨_, s4, ?_, replicate_abc (sg_mem hk) (show size ≤ 12 by omega), h4⟩
    simp [-List.flatten_replicate_singleton, pEq2, pEq, isD, dep, eqB, w0, e4, sign_k hk, hp]
  · have hp0 : (pEq2 (.int (way : Nat)) (.int 0)) = some false := by
      simp [pEq2, pEq, isD, dep, eqB, w0]
    by_cases w3 : way < 3
    · obtain ⟨k, s4, e4, hk, h4⟩ := take_k (n := 3) 3 rfl h3 (by decide) (by decide)
      obtain ⟨few, s5, e5, hl, hmem, h5⟩ := comp_draw (i := i) (n := 1 + num) (o1 := some (.int (most : Nat))) (o2 := some (.int (way : Nat))) (o3 := some (.int (size : Nat))) (o5 := none) (by omega) (by omega) (rng 0 (1 + k)) s4 h4
      obtain ⟨t, s6, e6, ht, h6⟩ := take_k (n := 4) 4 rfl h5 (by decide) (by decide)
      rw [rng_len] at hl
      have hr := rng1_nat (n := 1 + k) (by omega)
      have hs : (rng 0 (1 + k)).length ≤ LIM := le_LIM (by rw [rng_len]; omega)
      have hj := join_signs (l := few) (by omega)
      have hk1 : (1 : Int) + (k : Nat) = ((1 + k : Nat) : Int) := by omega
      have a1 : ∀ x y : Int, pAdd (.int x) (.int y) = some (.int (x + y)) := fun _ _ => rfl
      have hc : eComp [6] (iRng rng1 [eBin pAdd (eC (.int 1)) (eCall m__law_take [eVar 0, eC (.int 3)])]) (aName 6) tYs (eBin pIx (eC (.str [97, 98, 99])) (eCall m__law_take [eVar 0, eVar 4])) [some (.obj i), some (.int (most : Nat)), some (.int (way : Nat)), some (.int (size : Nat)), some (.int ((1 + num : Nat) : Int)), none, none] s3 = .ok (.lst (few.map fun c => .str [c])) s5 := by
        rw [ap_comp, ap_rng, ap_cons]
        simp only [ap_bin, ap_c, ap_call, ap_cons, ap_var, List.getElem?_cons_zero, List.getElem?_cons_succ, bind_ok, ap_nil, e4, d_int, a1, hk1, hr, ofO_some, hs, if_true, wipeE, List.set, e5, Res.calm]
      have w3' : ((way : Nat) : Int) < 3 := by omega
      have hF := pMul_str (a := few) (q := 12) (by omega) (by decide)
      have hF' : pMul (.str few) (.int 12) = some (.str (List.replicate 12 few).flatten) := hF
      have hb := bLen_str (l := few) (by omega)
      have hdv : pFdiv (.int (size : Nat)) (.int (few.length : Nat)) = some (.int ((size / few.length : Nat) : Int)) := by
        have h0 : (0 : Int) < (few.length : Nat) := by omega
        have hf : fits 30 (few.length : Nat) = true := fits_nat (m := 1000) (by omega) (by decide) (by decide)
        show (if (0 : Int) < (few.length : Nat) ∧ fits 30 (few.length : Nat) = true then some (PV.int ((size : Nat) / (few.length : Nat))) else none) = _
        rw [if_pos ⟨h0, hf⟩]; rfl
      have hmu : pMul (.int ((size / few.length : Nat) : Int)) (.int (few.length : Nat)) = some (.int ((size / few.length * few.length : Nat) : Int)) := by
        have hf : small (few.length : Nat) = true := fits_nat (m := 1000) (by omega) (by decide) (by decide)
        show (if small ((size / few.length : Nat) : Int) || small (few.length : Nat) then some (PV.int (((size / few.length : Nat) : Int) * (few.length : Nat))) else none) = _
        rw [hf, Bool.or_true, if_pos rfl]
        rfl
      have hle : size / few.length * few.length ≤ size := Nat.div_mul_le_self _ _
      have hct : pCut (.str (List.replicate 12 few).flatten) none (some ((size / few.length * few.length : Nat) : Int)) = some (.str ((List.replicate 12 few).flatten.take (min (size / few.length * few.length) (List.replicate 12 few).flatten.length))) := by
        show (if (List.replicate 12 few).flatten.length ≤ LIM then some (PV.str (cutL (List.replicate 12 few).flatten none (some ((size / few.length * few.length : Nat) : Int)))) else none) = _
        rw [if_pos (le_LIM (by rw [rep_len]; omega)), cut_to_any]
      generalize hL : (List.replicate 12 few).flatten.take (min (size / few.length * few.length) (List.replicate 12 few).flatten.length) = L at hct
      have hL12 : L.length ≤ 12 := by rw [← hL, List.length_take]; omega
      have hLm : ∀ c ∈ L, c ∈ abc := fun c hc => hmem c (rep_mem (List.mem_of_mem_take (hL ▸ hc)))
      refine ⟨rot L t, s6, ?_, rot_wd ⟨hL12, hLm⟩ t, h6⟩
      simp only [ap_tcm, ap_var, ap_c, List.getElem?_cons_zero, List.getElem?_cons_succ, bind_ok, d_int, hp0, ofO_some, sbind_ok, if_neg Bool.false_ne_true, ap_snil, then_nx, ap_sseq, ap_sif, pLt, decide_eq_true w3', if_true, ap_sset, ap_mt, d_str, recv, isStr, ap_cons, hc, ap_nil, List.map, d_lst, hj, ap_name, List.set, ap_sret, ap_call, ap_cut, ap_none, ap_osome, ap_bin, hF', ap_b, hb, hdv, hmu, oInt_int, lift_some, hct, e6, m__law_turned_ap hL12, then_rt, fin_rt]
    · have hr := rng1_nat (n := size) (by omega)
      obtain ⟨l, s4, e4, hl, hmem, h4⟩ := comp_draw (i := i) (n := 1 + num) (o1 := some (.int (most : Nat))) (o2 := some (.int (way : Nat))) (o3 := some (.int (size : Nat))) (o5 := none) (by omega) (by omega) (rng 0 size) s3 h3
      rw [rng_len] at hl
      have hs : (rng 0 size).length ≤ LIM := le_LIM (by rw [rng_len]; omega)
      refine ⟨l, s4, ?_, ⟨by omega, hmem⟩, h4⟩
      have w3' : ¬ ((way : Nat) : Int) < 3 := by omega
      have hj := join_signs (l := l) (by omega)
      have hp : (pEq2 (.int (way : Nat)) (.int 0)) = some false := by
        simp [pEq2, pEq, isD, dep, eqB, w0]
      have hc : eComp [6] (iRng rng1 [eVar 3]) (aName 6) tYs (eBin pIx (eC (.str [97, 98, 99])) (eCall m__law_take [eVar 0, eVar 4])) [some (.obj i), some (.int (most : Nat)), some (.int (way : Nat)), some (.int (size : Nat)), some (.int ((1 + num : Nat) : Int)), none, none] s3 = .ok (.lst (l.map fun c => .str [c])) s4 := by
        rw [ap_comp, ap_rng, ap_cons, ap_var]
        simp only [List.getElem?_cons_zero, List.getElem?_cons_succ, bind_ok, ap_nil, hr, ofO_some, hs, if_true, wipeE, List.set, e4, Res.calm]
      simp only [ap_tcm, ap_var, ap_c, List.getElem?_cons_zero, List.getElem?_cons_succ, bind_ok, d_int, hp, ofO_some, sbind_ok, if_neg Bool.false_ne_true, ap_snil, then_nx, ap_sseq, ap_sif, pLt, decide_eq_false w3', ap_sret, ap_mt, d_str, recv, if_true, isStr, ap_cons, hc, ap_nil, List.map, d_lst, hj, fin_rt]
end Lw
namespace Lw
open Mr
noncomputable def wellB : SX := sSet (eBin pMod (eB bInt [eBin pAdd (eBin pAdd (eBin pMul (eVar 3) (eC (.int 45013))) (eBin pMod (eB bInt [eVar 4]) (eC (.int 2147483399)))) (eC (.int 37))]) (eC (.int 2147483563))) (aName 3)
theorem mul_lit {x y : Int} (h : fits 64 y = true) : pMul (.int x) (.int y) = some (.int (x * y)) := by
  show (if small x || small y then some (PV.int (x * y)) else none) = _
  have : small y = true := h
  rw [this, Bool.or_true, if_pos rfl]
theorem mul_lit' {x y : Int} (h : fits 64 x = true) : pMul (.int x) (.int y) = some (.int (x * y)) := by
  show (if small x || small y then some (PV.int (x * y)) else none) = _
  have : small x = true := h
  rw [this, Bool.true_or, if_pos rfl]
theorem forM_well {a b c : Option PV} : ∀ (zs : List Int) (st : Int) (o : Option PV) (s : MS), ∃ (st' : Int) (o' : Option PV), Mr.forM (aName 4) wellB (zs.map .int) [a, b, c, some (.int st), o] s = .nx [a, b, c, some (.int st'), o'] s
  | [], st, o, s => ⟨st, o, rfl⟩
  | z :: zs, st, o, s => by
    have m1 := mul_lit (x := st) (y := 45013) (fits_lit (by decide) (by decide))
    obtain ⟨st', o', e⟩ := forM_well (a := a) (b := b) (c := c) zs ((st * 45013 + z % 2147483399 + 37) % 2147483563) (some (.int z)) s
    refine ⟨st', o', ?_⟩
    rw [List.map_cons]
    have hb : wellB [a, b, c, some (.int st), some (.int z)] s = .nx [a, b, c, some (.int ((st * 45013 + z % 2147483399 + 37) % 2147483563)), some (.int z)] s := by
      simp [wellB, m1, bInt, pMod, pAdd]
    show (match (match wellB [a, b, c, some (.int st), some (.int z)] s with
      | .nx e s => Mr.forM (aName 4) wellB (zs.map .int) e s
      | .ct e s => Mr.forM (aName 4) wellB (zs.map .int) e s
      | .bk e s => .nx e s
      | r => r) with
      | r => r) = _
    rw [hb]
    exact e
theorem allInt_map : ∀ l : List Int, allInt (l.map .int) = some l
  | [] => rfl
  | z :: l => by simp only [List.map_cons, allInt, allInt_map l]; rfl
theorem cutL_map {α β : Type} (f : α → β) (l : List α) (a b : Option Int) : cutL (l.map f) a b = (cutL l a b).map f := by
  unfold cutL
  rw [List.length_map, List.map_take, List.map_drop]
theorem cutL_len {α : Type} (l : List α) (a b : Option Int) : (cutL l a b).length ≤ l.length := by
  unfold cutL
  rw [List.length_take, List.length_drop]; omega
theorem m__law_well_ap {ns : List Int} {t : Nat} {s : MS} (hn : ns.length ≤ 63) (ht : t ≤ 10) : ∃ s', m__law_well [.scr (ns.map .int), .int (t : Nat)] s = .ok (.obj s.n) s' ∧ WS s.n s' := by
  have hl : bLen [.scr (ns.map PV.int)] = some (.int (ns.length : Nat)) := by
    show (seqOf (.scr (ns.map PV.int))).map (fun l => PV.int l.length) = _
    simp [seqOf]
  have own : ∃ z : Int, eIf (tCm pLt (eVar 1) (eB bLen [eVar 0])) (eB bInt [eBin pIx (eVar 0) (eVar 1)]) (eBin pAdd (eBin pAdd (eBin pMul (eC (.int 9311)) (eVar 1)) (eBin pMod (eB bInt [eB bSum [eCut (eVar 0) (oNone) (oSome (eC (.int 2)))]]) (eC (.int 1000003)))) (eC (.int 71))) [some (.scr (ns.map .int)), some (.int (t : Nat)), none, none, none] s = .ok (.int z) s := by
    by_cases h : t < ns.length
    · have h' : ((t : Nat) : Int) < (ns.length : Nat) := by omega
      refine ⟨ns[t], ?_⟩
      simp [hl, pLt, h, pIx, atL, ixL, bInt]
    · have h' : ¬ ((t : Nat) : Int) < (ns.length : Nat) := by omega
      have m1 := mul_lit' (x := 9311) (y := (t : Nat)) (fits_lit (by decide) (by decide))
      have hc : pCut (.scr (ns.map PV.int)) none (some 2) = some (.lst ((cutL ns none (some 2)).map .int)) := by
        show some (PV.lst (cutL (ns.map PV.int) none (some 2))) = _
        rw [cutL_map]
      have hsu : bSum [.lst ((cutL ns none (some 2)).map .int)] = some (.int (cutL ns none (some 2)).sum) := by
        show (allInt ((cutL ns none (some 2)).map .int)).map (fun ns => PV.int ns.sum) = _
        rw [allInt_map]; rfl
      refine ⟨9311 * (t : Nat) + (cutL ns none (some 2)).sum % 1000003 + 71, ?_⟩
      simp only [ap_if, ap_tcm, ap_var, ap_b, ap_cons, ap_nil, List.getElem?_cons_zero, List.getElem?_cons_succ, bind_ok, List.map, d_int, d_scr, hl, ofO_some, pLt, decide_eq_false h', if_neg Bool.false_ne_true, ap_bin, ap_c, m1, ap_cut, ap_none, ap_osome, oInt_int, lift_some, hc, d_lst, hsu, bInt, show ∀ x : Int, pMod (.int x) (.int 1000003) = some (.int (x % 1000003)) from fun x => rfl, show ∀ x y : Int, pAdd (.int x) (.int y) = some (.int (x + y)) from fun _ _ => rfl]
  obtain ⟨z, hz⟩ := own
  have m2 := mul_lit' (x := 1013) (y := (t : Nat)) (fits_lit (by decide) (by decide))
  obtain ⟨st', o', hfor⟩ := forM_well (a := some (.scr (ns.map .int))) (b := some (.int (t : Nat))) (c := some (.int z)) (cutL ns none (some 5) ++ [z]) (50021 + 1013 * (t : Nat)) none s
  have hcat : pAdd (.lst ((cutL ns none (some 5)).map .int)) (.lst [.int z]) = some (.lst ((cutL ns none (some 5) ++ [z]).map .int)) := by
    show (if ((cutL ns none (some 5)).map PV.int).length + [PV.int z].length ≤ LIM then some (PV.lst ((cutL ns none (some 5)).map PV.int ++ [PV.int z])) else none) = _
    rw [if_pos (le_LIM (by have := cutL_len ns none (some 5); simp; omega)), List.map_append]
    rfl
  have hcut : pCut (.scr (ns.map PV.int)) none (some 5) = some (.lst ((cutL ns none (some 5)).map .int)) := by
    show some (PV.lst (cutL (ns.map PV.int) none (some 5))) = _
    rw [cutL_map]
  have a1 : ∀ x y : Int, pAdd (.int x) (.int y) = some (.int (x + y)) := fun _ _ => rfl
  have h1L : (1 : Nat) ≤ LIM := le_LIM (by decide)
  have h3L : (3 : Nat) ≤ LIM := le_LIM (by decide)
  have p17 : pPow (.int 10) (.int 17) = some (.int (10 ^ 17)) := by
    show (if (0 : Int) ≤ 17 ∧ fits 19 17 = true ∧ fits 64 10 = true then some (PV.int (10 ^ (17 : Int).toNat)) else none) = _
    rw [if_pos ⟨by decide, fits_lit (by decide) (by decide), fits_lit (by decide) (by decide)⟩]; rfl
  have p60 : pPow (.int 10) (.int 60) = some (.int (10 ^ 60)) := by
    show (if (0 : Int) ≤ 60 ∧ fits 19 60 = true ∧ fits 64 10 = true then some (PV.int (10 ^ (60 : Int).toNat)) else none) = _
    rw [if_pos ⟨by decide, fits_lit (by decide) (by decide), fits_lit (by decide) (by decide)⟩]; rfl
  have hfirst : ∃ a : Int, eIf (tOr2 (tCm pLt (eVar 2) (eC (.int 0))) (tCm pGe (eVar 2) (eBin pPow (eC (.int 10)) (eC (.int 17))))) (eBin pMod (eB bInt [eB bAbs [eVar 2]]) (eBin pPow (eC (.int 10)) (eC (.int 60)))) (eC (.int 0)) [some (.scr (ns.map .int)), some (.int (t : Nat)), some (.int z), some (.int st'), o'] s = .ok (.int a) s := by
    have pm : ∀ x : Int, pMod (.int x) (.int (10 ^ 60)) = some (.int (x % 10 ^ 60)) := fun x => by
      show (if (0 : Int) < 10 ^ 60 then some (PV.int (x % 10 ^ 60)) else none) = _
      rw [if_pos (by decide)]
    have e1 : eBin pMod (eB bInt [eB bAbs [eVar 2]]) (eBin pPow (eC (.int 10)) (eC (.int 60))) [some (.scr (ns.map .int)), some (.int (t : Nat)), some (.int z), some (.int st'), o'] s = .ok (.int ((if z < 0 then -z else z) % 10 ^ 60)) s := by
      simp only [ap_bin, ap_b, ap_cons, ap_nil, ap_var, ap_c, List.getElem?_cons_zero, List.getElem?_cons_succ, bind_ok, List.map, d_int, bAbs, ofO_some, bInt, p60, pm]
    by_cases c1 : z < 0
    · exact ⟨_, by rw [ap_if]; simp only [ap_or2, ap_tcm, ap_var, ap_c, List.getElem?_cons_zero, List.getElem?_cons_succ, bind_ok, d_int, pLt, decide_eq_true c1, ofO_some, if_true]; exact e1⟩
    · by_cases c2 : z < 10 ^ 17
      · refine ⟨0, ?_⟩
        simp only [ap_if, ap_or2, ap_tcm, ap_var, ap_c, ap_bin, List.getElem?_cons_zero, List.getElem?_cons_succ, bind_ok, d_int, pLt, decide_eq_false c1, ofO_some, if_neg Bool.false_ne_true, p17, pGe, qLt, decide_eq_true c2, Option.map, Bool.not_true]
      · refine ⟨(if z < 0 then -z else z) % 10 ^ 60, ?_⟩
        · rw [ap_if]
          simp only [ap_or2, ap_tcm, ap_var, ap_c, ap_bin, List.getElem?_cons_zero, List.getElem?_cons_succ, bind_ok, d_int, pLt, decide_eq_false c1, ofO_some, if_neg Bool.false_ne_true, p17, pGe, qLt, decide_eq_false c2, Option.map, Bool.not_false, if_true]
          exact e1
  obtain ⟨a, ha⟩ := hfirst
  refine ⟨s.new (.lst [.int a, .int st', .int 0]), ?_, ⟨⟨a, st', 0, new_m s _⟩, Nat.lt_succ_self _⟩⟩
  unfold m__law_well
  rw [defF_ap, ap_sseq, ap_sset]
  show (SRes.then ((eIf _ _ _ [some (.scr (ns.map .int)), some (.int (t : Nat)), none, none, none] s).sbind _ _) _).fin = _
  rw [hz, sbind_ok]
  show (SRes.then (SRes.nx [some (.scr (ns.map .int)), some (.int (t : Nat)), some (.int z), none, none] s) _).fin = _
  rw [then_nx, ap_sseq, ap_sset]
  simp only [ap_bin, ap_c, ap_var, List.getElem?_cons_zero, List.getElem?_cons_succ, bind_ok, d_int, m2, ofO_some, a1, sbind_ok, ap_name, List.set, then_nx]
  rw [ap_sseq, ap_sfor]
  have hi : iSeq (eBin pAdd (eCut (eVar 0) (oNone) (oSome (eC (.int 5)))) (eLst [eVar 2])) [some (.scr (ns.map .int)), some (.int (t : Nat)), some (.int z), some (.int (50021 + 1013 * (t : Nat))), none] s = .ok ((cutL ns none (some 5) ++ [z]).map .int) s := by
    simp only [ap_seq, ap_bin, ap_cut, ap_var, ap_none, ap_osome, ap_c, oInt_int, lift_some, List.getElem?_cons_zero, List.getElem?_cons_succ, bind_ok, d_scr, hcut, ofO_some, ap_lst, ap_cons, ap_nil, List.length_cons, List.length_nil, Nat.zero_add, h1L, if_true, d_lst, hcat, elems]
  rw [hi, sbind_ok]
  show (SRes.then (Mr.forM (aName 4) wellB ((cutL ns none (some 5) ++ [z]).map .int) [some (.scr (ns.map .int)), some (.int (t : Nat)), some (.int z), some (.int (50021 + 1013 * (t : Nat))), none] s) _).fin = _
  rw [hfor, then_nx, ap_sret, ap_lstM, ap_cons, ha]
  simp only [bind_ok, ap_cons, ap_nil, ap_var, ap_c, List.getElem?_cons_zero, List.getElem?_cons_succ, List.length_cons, List.length_nil, Nat.zero_add, Nat.reduceAdd, h3L, if_true, sbind_ok, fin_rt]
end Lw
namespace Lw
open Mr
/-! ### a word's turns are right -/
def T (l : List Nat) : PV := .tup ((turnsT l).map .str)
theorem turned0 {s : MS} {l : List Nat} (h : Wd l) : m_turned [.str l, .int 0] s = .ok (.str l) s := by
  have := m_turned_ap (s := s) h 0 (by omega); rw [rot_zero] at this; exact this
theorem turned_len {s : MS} {l : List Nat} (h : Wd l) : m_turned [.str l, .int (l.length : Nat)] s = .ok (.str l) s := by
  have := m_turned_ap (s := s) h l.length h.1; rw [rot_full] at this; exact this
theorem okD_strs {n : Nat} {ss : List (List Nat)} (h : ss.length ≤ 100) : okD (n + 2) (.tup (ss.map .str)) = true := by
  show ((ss.map PV.str).all (okD (n + 1)) && decide ((ss.map PV.str).length ≤ 100)) = true
  rw [List.length_map, decide_eq_true h, Bool.and_true, List.all_map, List.all_eq_true]
  intro x _; rfl
theorem T_ok {n : Nat} {l : List Nat} (h : l.length ≤ 12) : okD (n + 2) (T l) = true := okD_strs (by have := turnsT_len h; omega)
theorem part1 {i : Nat} {s : MS} {l : List Nat} (h : WS i s) (hw : Wd l) : ∃ (a b : Nat) (s' : MS), a ≤ 12 ∧ b ≤ 12 ∧ WS i s' ∧
    eTup [eB bLen [eVar 1], eCall m__law_turns [eVar 1], eCall m__law_take [eVar 0, eC (.int 13)], eCall m__law_take [eVar 0, eC (.int 13)]] [some (.obj i), some (.str l), none, none, none, none, none, none, none, none] s = .ok (.tup [.int (l.length : Nat), T l, .int (a : Nat), .int (b : Nat)]) s' := by
  obtain ⟨a, s1, e1, ha, h1⟩ := take_k (n := 13) 13 rfl (h.new (o := D (keysT l))) (by decide) (by decide)
  obtain ⟨b, s2, e2, hb, h2⟩ := take_k (n := 13) 13 rfl h1 (by decide) (by decide)
  refine ⟨a, b, s2, by omega, by omega, h2, ?_⟩
  have hl := bLen_str (l := l) (by have := hw.1; omega)
  have h4 : (4 : Nat) ≤ LIM := le_LIM (by decide)
  simp only [ap_tup, ap_cons, ap_nil, ap_b, ap_call, ap_var, ap_c, List.getElem?_cons_zero, List.getElem?_cons_succ, bind_ok, List.map, d_str, hl, ofO_some, m__law_turns_ap hw.1, e1, e2, List.length_cons, List.length_nil, Nat.reduceAdd, Nat.zero_add, h4, if_true]
  rfl
/-- what is told, what is due -/
def X8 (l : List Nat) (a b : Nat) : List PV := [.str (rot l a), .str (rot l a), .str l, .str l, .str (rot l (a + b)), T l, T l, T l]
theorem X8_ok {l : List Nat} {a b : Nat} (h : l.length ≤ 12) : okD 6 (.lst (X8 l a b)) = true := by
  have t := T_ok (n := 2) h
  show okD 5 (.tup (X8 l a b)) = true
  show ((X8 l a b).all (okD 4) && decide ((X8 l a b).length ≤ 100)) = true
  simp [X8, t, okD]
theorem part2 {i : Nat} {s : MS} {l : List Nat} {a b : Nat} (hw : Wd l) (ha : a ≤ 12) (hb : b ≤ 12) {o7 o8 o9 : Option PV} :
    eLst [eCall m_turned [eVar 1, eVar 4], eCallKw m_turned [1, 0] [] [eVar 4, eVar 1], eCall m_turned [eVar 1, eC (.int 0)], eCall m_turned [eVar 1, eVar 2], eCall m_turned [eCall m_turned [eVar 1, eVar 4], eVar 5], eCall m_all_turns [eVar 1], eCallKw m_all_turns [0] [] [eVar 1], eCall m_all_turns [eVar 6]]
      [some (.obj i), some (.str l), some (.int (l.length : Nat)), some (T l), some (.int (a : Nat)), some (.int (b : Nat)), some (.str (rot l a)), o7, o8, o9] s = .ok (.lst (X8 l a b)) s := by
  have h8 : (8 : Nat) ≤ LIM := le_LIM (by decide)
  have e1 : (.tup ((turnsT (rot l a)).map .str) : PV) = T l := by rw [turnsT_rot]; rfl
  simp only [ap_lst, ap_cons, ap_nil, ap_call, ap_var, ap_c, List.getElem?_cons_zero, List.getElem?_cons_succ, bind_ok, m_turned_ap hw a ha, turned0 hw, turned_len hw, m_turned_ap (rot_wd hw a) b hb, m_all_turns_ap hw, m_all_turns_ap (rot_wd hw a), eCallKw, List.map, List.nil_append, List.getD_cons_succ, List.getD_cons_zero, List.length_cons, List.length_nil, Nat.reduceAdd, Nat.zero_add, h8, if_true, rot_rot, e1]
  rfl
theorem part2b {i : Nat} {s : MS} {l : List Nat} {a b : Nat} (hw : Wd l) {o8 o9 : Option PV} :
    eCall (m__law_is 6) [eVar 7, eLst [eVar 6, eVar 6, eVar 1, eVar 1, eCall m__law_turned [eVar 1, eBin pAdd (eVar 4) (eVar 5)], eVar 3, eVar 3, eVar 3]]
      [some (.obj i), some (.str l), some (.int (l.length : Nat)), some (T l), some (.int (a : Nat)), some (.int (b : Nat)), some (.str (rot l a)), some (.lst (X8 l a b)), o8, o9] s = .ok (.bl true) s := by
  have h8 : (8 : Nat) ≤ LIM := le_LIM (by decide)
  have e2 : pAdd (.int (a : Nat)) (.int (b : Nat)) = some (.int ((a + b : Nat) : Int)) := rfl
  have hr := is_refl 6 (.lst (X8 l a b)) s (X8_ok hw.1)
  simp only [ap_call, ap_cons, ap_nil, ap_var, ap_lst, ap_bin, List.getElem?_cons_zero, List.getElem?_cons_succ, bind_ok, d_int, e2, ofO_some, m__law_turned_ap hw.1, List.length_cons, List.length_nil, Nat.reduceAdd, Nat.zero_add, h8, if_true]
  exact hr
/-- in its turns -/
theorem any_T {l : List Nat} (k : Nat) : ((turnsT l).map PV.str).any (fun y => eqB y (.str (rot l k))) = true := by
  rw [List.any_map, List.any_eq_true]
  exact ⟨rot l k, mem_turnsT.mpr ⟨k, rfl⟩, by simp [eqB]⟩
theorem part3 {i : Nat} {s : MS} {l : List Nat} {o2 o4 o5 o6 o7 o9 : Option PV} (hw : Wd l) :
    eComp [8] (iRng rng1 [eC (.int 13)]) (aName 8) (tOr2 (tCm pNin (eCall m_turned [eVar 1, eVar 8]) (eVar 3)) (tCm pNe2 (eCall m_turned [eVar 1, eVar 8]) (eCall m__law_turned [eVar 1, eVar 8]))) (eVar 8)
      [some (.obj i), some (.str l), o2, some (T l), o4, o5, o6, o7, none, o9] s = .ok (.lst []) s := by
  have hr := rng1_nat (n := 13) (by decide)
  have hr' : rng1 [.int 13] = some (rng 0 13) := hr
  have hl : (rng 0 13).length ≤ LIM := le_LIM (by rw [rng_len]; decide)
  have hc := compM_filter (e := [some (.obj i), some (.str l), o2, some (T l), o4, o5, o6, o7, none, o9]) (i := 8) (tOr2 (tCm pNin (eCall m_turned [eVar 1, eVar 8]) (eVar 3)) (tCm pNe2 (eCall m_turned [eVar 1, eVar 8]) (eCall m__law_turned [eVar 1, eVar 8]))) (eVar 8) (fun _ => false) (rng 0 13) s (fun x hx s => by
      obtain ⟨k, hk, rfl⟩ := mem_rng hx
      have p1 : pNin (.str (rot l k)) (T l) = some false := by
        show (pIn (.str (rot l k)) (T l)).map (!·) = _
        have : pIn (.str (rot l k)) (T l) = some true := by
          show (if isD (.str (rot l k)) && isDs ((turnsT l).map .str) && decide (min (deps ((turnsT l).map .str)) (dep (.str (rot l k))) ≤ 64) then some (((turnsT l).map PV.str).any fun y => eqB y (.str (rot l k))) else none) = _
          rw [isDs_strs, deps_strs, any_T]; rfl
        rw [this]; rfl
      have p2 : pNe2 (.str (rot l k)) (.str (rot l k)) = some false := by simp [pNe2, pEq2, pEq, isD, dep, eqB]
      simp only [List.set, ap_or2, ap_tcm, ap_call, ap_cons, ap_nil, ap_var, List.getElem?_cons_zero, List.getElem?_cons_succ, bind_ok, m_turned_ap hw k (by omega), d_str, T, d_tup, show pNin (.str (rot l k)) (.tup ((turnsT l).map .str)) = some false from p1, ofO_some, if_neg Bool.false_ne_true, m__law_turned_ap hw.1, p2]) (fun x hx s => by simp)
  have hf : (rng 0 13).filter (fun _ => false) = [] := by simp
  rw [hf] at hc
  simp only [ap_comp, ap_rng, ap_cons, ap_nil, ap_c, bind_ok, hr', ofO_some, hl, if_true, wipeE, List.set, hc, Res.calm]
end Lw
namespace Lw
open Mr
theorem eqBs_same (ss : List (List Nat)) : eqB (.tup (ss.map .str)) (.tup (ss.map .str)) = true := by
  show eqBs (ss.map .str) (ss.map .str) = true
  induction ss with
  | nil => rfl
  | cons x ss ih => simp only [List.map_cons, eqBs, eqB, ih, beq_self_eq_true, Bool.and_self]
theorem eq_tup (ss : List (List Nat)) : pEq2 (.tup (ss.map .str)) (.tup (ss.map .str)) = some true := by
  show (if isDs (ss.map PV.str) && isDs (ss.map PV.str) && decide (min (deps (ss.map PV.str) + 1) (deps (ss.map PV.str) + 1) ≤ 64) then some (eqB (.tup (ss.map .str)) (.tup (ss.map .str))) else none) = _
  rw [isDs_strs, deps_strs, eqBs_same]; rfl
theorem eq_int (z w : Int) : pEq2 (.int z) (.int w) = some (z == w) := by simp [pEq2, pEq, isD, dep, eqB]
theorem eq_str (a b : List Nat) : pEq2 (.str a) (.str b) = some (a == b) := by simp [pEq2, pEq, isD, dep, eqB]
theorem turnsT_nil : turnsT [] = [[]] := by
  have : keysT [] = [[]] := by simp [keysT, addK, rot]
  unfold turnsT; rw [this]; exact List.mergeSort_singleton _
theorem part4 {i : Nat} {s : MS} {o2 o3 o4 o5 o6 o7 o8 o9 : Option PV} :
    eCall (m__law_is 6) [eLst [eCall m_turned [eC (.str []), eC (.int 7)], eCall m_all_turns [eC (.str [])]], eLst [eC (.str []), eTup [eC (.str [])]]] [some (.obj i), some (.str []), o2, o3, o4, o5, o6, o7, o8, o9] s = .ok (.bl true) s := by
  have hw : Wd [] := ⟨by simp, by simp⟩
  have e1 := m_turned_ap (s := s) hw 7 (by decide)
  have e1' : m_turned [.str [], .int 7] s = .ok (.str []) s := e1
  have e2 : m_all_turns [.str []] s = .ok (.tup [.str []]) s := by rw [m_all_turns_ap hw, turnsT_nil]; rfl
  have h2 : (2 : Nat) ≤ LIM := le_LIM (by decide)
  have h1 : (1 : Nat) ≤ LIM := le_LIM (by decide)
  have hr := is_refl 6 (.lst [.str [], .tup [.str []]]) s (by rfl)
  simp only [ap_call, ap_cons, ap_nil, ap_lst, ap_tup, ap_c, bind_ok, e1', e2, List.length_cons, List.length_nil, Nat.reduceAdd, Nat.zero_add, h2, h1, if_true]
  exact hr
theorem part5 {i : Nat} {s : MS} {l : List Nat} {o2 o4 o5 o6 o7 o8 o9 : Option PV} (hw : Wd l) (hl : 0 < l.length) :
    tOr2 (tCm pNe2 (eB bLen [eVar 3]) (eB bLen [eCall m__law_root [eVar 1]])) (tCm pNe2 (eB bLen [eCall m_root [eVar 1]]) (eB bLen [eVar 3])) [some (.obj i), some (.str l), o2, some (T l), o4, o5, o6, o7, o8, o9] s = .ok false s := by
  obtain ⟨p, hp⟩ := least_ex hl
  have hpl : p ≤ l.length := Nat.le_of_dvd hl hp.dvd
  have h12 := hw.1
  have e1 : bLen [T l] = some (.int (p : Nat)) := by
    show (seqOf (T l)).map (fun l => PV.int l.length) = _
    show some (PV.int (((turnsT l).map PV.str).length : Nat)) = _
    rw [List.length_map, (turnsT_perm l).length_eq, hp.len hl]
  have e2 : bLen [.str (l.take p)] = some (.int (p : Nat)) := by
    rw [bLen_str (by rw [List.length_take]; omega), List.length_take, Nat.min_eq_left hpl]
  have e3 : pNe2 (.int (p : Nat)) (.int (p : Nat)) = some false := by
    show (pEq2 _ _).map (!·) = _
    rw [eq_int]; simp
  have dT : deref s (T l) = T l := rfl
  simp only [ap_or2, ap_tcm, ap_b, ap_cons, ap_nil, ap_var, ap_call, List.getElem?_cons_zero, List.getElem?_cons_succ, bind_ok, List.map, dT, e1, ofO_some, m__law_root_ap hw.1 hl hp, m_root_ap hw hl hp, d_str, d_int, e2, e3, if_neg Bool.false_ne_true]
theorem part6 {i : Nat} {s : MS} {l : List Nat} {o2 o4 o5 o6 o7 o9 : Option PV} (hw : Wd l) :
    tCm pNe2 (eCall m_all_turns [eUn pRev (eVar 1)]) (eB bTuple [eB bSorted [eComp [8] (iSeq (eVar 3)) (aName 8) (tYs) (eUn pRev (eVar 8))]]) [some (.obj i), some (.str l), o2, some (T l), o4, o5, o6, o7, none, o9] s = .ok false s := by
  have h12 := hw.1
  have hwr : Wd l.reverse := ⟨by rw [List.length_reverse]; exact h12, fun c hc => hw.2 c (List.mem_reverse.mp hc)⟩
  have hL : l.length ≤ LIM := le_LIM (by omega)
  have e1 : pRev (.str l) = some (.str l.reverse) := by
    show (if l.length ≤ LIM then some (PV.str l.reverse) else none) = _
    rw [if_pos hL]
  have hc := compM_map (e := [some (.obj i), some (.str l), o2, some (T l), o4, o5, o6, o7, none, o9]) (i := 8) (eUn pRev (eVar 8)) (fun x => match x with
    | .str y => .str y.reverse
    | _ => .non) ((turnsT l).map .str) s (fun x hx s => by
      obtain ⟨y, hy, rfl⟩ := List.mem_map.mp hx
      have hy12 : y.length ≤ 12 := by
        obtain ⟨k, rfl⟩ := mem_turnsT.mp hy
        rw [rot_length]; exact h12
      have e : pRev (.str y) = some (.str y.reverse) := by
        show (if y.length ≤ LIM then some (PV.str y.reverse) else none) = _
        rw [if_pos (le_LIM (by omega))]
      simp [e])
  have hm : ((turnsT l).map PV.str).map (fun x => match x with
    | .str y => PV.str y.reverse
    | _ => .non) = ((turnsT l).map List.reverse).map .str := by
    rw [List.map_map, List.map_map]; rfl
  rw [hm] at hc
  have hs := sorted_lst (ss := (turnsT l).map List.reverse) (by rw [List.length_map]; have := turnsT_len h12; omega)
  rw [← turnsT_rev] at hs
  have hlen : ((turnsT l).map PV.str).length ≤ LIM := le_LIM (by rw [List.length_map]; have := turnsT_len h12; omega)
  have e3 : pNe2 (.tup ((turnsT l.reverse).map .str)) (.tup ((turnsT l.reverse).map .str)) = some false := by
    show (pEq2 _ _).map (!·) = _
    rw [eq_tup]; rfl
  have eS : iSeq (eVar 3) [some (.obj i), some (.str l), o2, some (T l), o4, o5, o6, o7, none, o9] s = .ok ((turnsT l).map .str) s := rfl
  have eT : ∀ xs : List PV, bTuple [.lst xs] = some (.tup xs) := fun _ => rfl
  simp only [ap_tcm, ap_call, ap_cons, ap_nil, ap_un, ap_var, List.getElem?_cons_zero, List.getElem?_cons_succ, bind_ok, d_str, e1, ofO_some, m_all_turns_ap hwr, ap_b, ap_comp, eS, hlen, if_true, wipeE, List.set, hc, Res.calm, List.map, d_lst, hs, eT, d_tup, e3]
theorem part7 {i : Nat} {s : MS} {l : List Nat} {a : Nat} {o2 o3 o4 o5 o7 o8 : Option PV} (hw : Wd l) :
    eCm pEq2 (eComp [9] (iSeq (eC (.str [97, 98, 99]))) (aName 9) (tCm pNe2 (eCall m_letter_count [eVar 6, eVar 9]) (eMt "str" mCount (eVar 1) [eVar 9])) (eVar 9)) (eLst []) [some (.obj i), some (.str l), o2, o3, o4, o5, some (.str (rot l a)), o7, o8, none] s = .ok (.bl true) s := by
  have hc := compM_filter (e := [some (.obj i), some (.str l), o2, o3, o4, o5, some (.str (rot l a)), o7, o8, none]) (i := 9) (tCm pNe2 (eCall m_letter_count [eVar 6, eVar 9]) (eMt "str" mCount (eVar 1) [eVar 9])) (eVar 9) (fun _ => false) (abc.map fun c => .str [c]) s (fun x hx s => by
      obtain ⟨c, hc, rfl⟩ := List.mem_map.mp hx
      have e1 : mCount (.str l) [.str [c]] = some (.int (l.count c : Nat)) := rfl
      have e2 : (rot l a).count c = l.count c := (rot_perm l a).count_eq c
      have e3 : pNe2 (.int (l.count c : Nat)) (.int (l.count c : Nat)) = some false := by
        show (pEq2 _ _).map (!·) = _
        rw [eq_int]; simp
      simp only [List.set, ap_tcm, ap_call, ap_cons, ap_nil, ap_var, List.getElem?_cons_zero, List.getElem?_cons_succ, bind_ok, m_letter_count_ap (rot_wd hw a) hc, ap_mt, d_str, recv, if_true, isStr, List.map, e1, ofO_some, d_int, e2, e3]) (fun x hx s => by simp)
  have hf : (abc.map fun c => PV.str [c]).filter (fun _ => false) = [] := by simp
  rw [hf] at hc
  have eS : iSeq (eC (.str [97, 98, 99])) [some (.obj i), some (.str l), o2, o3, o4, o5, some (.str (rot l a)), o7, o8, none] s = .ok (abc.map fun c => .str [c]) s := rfl
  have h3 : (abc.map fun c => PV.str [c]).length ≤ LIM := le_LIM (by decide)
  have h0 : (0 : Nat) ≤ LIM := Nat.zero_le _
  have e4 : pEq2 (.lst []) (.lst []) = some true := rfl
  simp only [ap_cm, ap_comp, eS, bind_ok, h3, if_true, wipeE, List.set, hc, Res.calm, ap_lst, ap_nil, List.length_nil, h0, d_lst, e4, Option.map, ofO_some]
theorem m__law_word_right_ap {i : Nat} {s : MS} {l : List Nat} (h : WS i s) (hw : Wd l) : ∃ s', m__law_word_right [.obj i, .str l] s = .ok (.bl true) s' ∧ WS i s' := by
  obtain ⟨a, b, s1, ha, hb, h1, e1⟩ := part1 h hw
  refine ⟨s1, ?_, h1⟩
  unfold m__law_word_right
  rw [defF_ap, ap_sseq, ap_sset]
  show (SRes.then ((eTup _ [some (.obj i), some (.str l), none, none, none, none, none, none, none, none] s).sbind _ _) _).fin = _
  rw [e1, sbind_ok]
  show (SRes.then (SRes.nx [some (.obj i), some (.str l), some (.int (l.length : Nat)), some (T l), some (.int (a : Nat)), some (.int (b : Nat)), none, none, none, none] s1) _).fin = _
  rw [then_nx, ap_sseq, ap_sset]
  have e2 : eCall m__law_turned [eVar 1, eVar 4] [some (.obj i), some (.str l), some (.int (l.length : Nat)), some (T l), some (.int (a : Nat)), some (.int (b : Nat)), none, none, none, none] s1 = .ok (.str (rot l a)) s1 := by
    simp only [ap_call, ap_cons, ap_nil, ap_var, List.getElem?_cons_zero, List.getElem?_cons_succ, bind_ok, m__law_turned_ap hw.1]
  rw [e2, sbind_ok]
  show (SRes.then (SRes.nx [some (.obj i), some (.str l), some (.int (l.length : Nat)), some (T l), some (.int (a : Nat)), some (.int (b : Nat)), some (.str (rot l a)), none, none, none] s1) _).fin = _
  rw [then_nx, ap_sseq, ap_sset, part2 hw ha hb, sbind_ok]
  show (SRes.then (SRes.nx [some (.obj i), some (.str l), some (.int (l.length : Nat)), some (T l), some (.int (a : Nat)), some (.int (b : Nat)), some (.str (rot l a)), some (.lst (X8 l a b)), none, none] s1) _).fin = _
  rw [then_nx, ap_sseq, ap_sif, ap_nt, ap_tru, part2b hw]
  simp only [bind_ok, d_bl, t_bl, ofO_some, Bool.not_true, sbind_ok, if_neg Bool.false_ne_true, ap_snil, then_nx]
  rw [ap_sseq, ap_sif, ap_tcm, part3 hw]
  have h0 : (0 : Nat) ≤ LIM := Nat.zero_le _
  have e4 : pNe2 (.lst []) (.lst []) = some false := rfl
  simp only [bind_ok, ap_lst, ap_nil, List.length_nil, h0, if_true, d_lst, e4, ofO_some, sbind_ok, if_neg Bool.false_ne_true, ap_snil, then_nx]
  rw [ap_sseq, ap_sif]
  by_cases hl : l = []
  · subst hl
    have e5 : pEq2 (.str []) (.str []) = some true := rfl
    simp only [ap_tcm, ap_var, ap_c, List.getElem?_cons_zero, List.getElem?_cons_succ, bind_ok, d_str, e5, ofO_some, sbind_ok, if_true, ap_sret]
    rw [part4]
    rfl
  · have e5 : pEq2 (.str l) (.str []) = some false := by rw [eq_str]; simp [hl]
    have hl0 : 0 < l.length := by
      rcases Nat.eq_zero_or_pos l.length with z | z
      · exact absurd (List.length_eq_zero_iff.mp z) hl
      · exact z
    have e6 : tCm pEq2 (eVar 1) (eC (.str [])) [some (.obj i), some (.str l), some (.int (l.length : Nat)), some (T l), some (.int (a : Nat)), some (.int (b : Nat)), some (.str (rot l a)), some (.lst (X8 l a b)), none, none] s1 = .ok false s1 := by
      simp only [ap_tcm, ap_var, ap_c, List.getElem?_cons_zero, List.getElem?_cons_succ, bind_ok, d_str, e5, ofO_some]
    rw [e6, sbind_ok, if_neg Bool.false_ne_true, ap_snil, then_nx, ap_sseq, ap_sif, part5 hw hl0, sbind_ok, if_neg Bool.false_ne_true, ap_snil, then_nx, ap_sseq, ap_sif, part6 hw, sbind_ok, if_neg Bool.false_ne_true, ap_snil, then_nx, ap_sret, part7 hw, sbind_ok, fin_rt]
end Lw
namespace Lw
open Mr
/-! ### what is no word is refused -/
structure Good (p : PV) : Prop where
  val : Val p
  ok : okD 4 p = true
theorem good_str {l : List Nat} (h : l.length ≤ 1000) : Good (.str l) := ⟨.inl ⟨l, rfl, h⟩, rfl⟩
theorem signs_eq (l : List Nat) : (l.map fun c => PV.str [c]) = (l.map fun c => [c]).map .str := by rw [List.map_map]; rfl
theorem upL_len (l : List Nat) : (upL l).length ≤ 3 * l.length := by
  have := PyProof.Rows.len_upper ⟨l.toArray⟩
  simpa [upL, PySem.Str.length] using this
def bent (l sign : List Nat) (k : Nat) : List PV := [.str (l.take k ++ sign ++ l.drop k), .str (l ++ [97, 98, 99, 97, 98, 99, 97, 98, 99, 97, 98, 99, 97]), .str (upL l), .tup (l.map fun c => .str [c]), .lst (l.map fun c => .str [c]), .tup [.str l], .dct false [.str l] [.int 1], .str (l ++ [100])]
def bent2 (l : List Nat) : List PV := [.non, .int 0, .bl true, .str [97, 98, 100], .str [97, 98, 99, 97, 98, 99, 97, 98, 99, 97, 98, 99, 97], .lst [.str l], .int 1]
theorem bent_good {l sign : List Nat} {k : Nat} (h : l.length ≤ 12) (hs : sign.length ≤ 2) : ∀ p ∈ bent l sign k ++ bent2 l, Good p := by
  have t1 : okD 3 (.tup (l.map fun c => .str [c])) = true := by
    rw [signs_eq]; exact okD_strs (n := 1) (by rw [List.length_map]; omega)
  have t2 : okD 4 (.tup (l.map fun c => .str [c])) = true := by
    rw [signs_eq]; exact okD_strs (n := 2) (by rw [List.length_map]; omega)
  have hu := upL_len l
  have q : ∀ (t : String) (p : PV), tyOf p = some t → (t == "str") = false → (∀ s, deref s p = p) → okD 4 p = true → Good p := fun t p a b c d => ⟨.inr ⟨t, a, b, c⟩, d⟩
  intro p hp
  simp only [bent, bent2, List.cons_append, List.nil_append, List.mem_cons, List.not_mem_nil, or_false] at hp
  rcases hp with rfl | rfl | rfl | rfl | rfl | rfl | rfl | rfl | rfl | rfl | rfl | rfl | rfl | rfl | rfl
  · exact good_str (by simp; omega)
  · exact good_str (by simp; omega)
  · exact good_str (by omega)
  · exact q "tuple" _ rfl rfl (fun _ => rfl) t2
  · exact q "list" _ rfl rfl (fun _ => rfl) t1
  · exact q "tuple" _ rfl rfl (fun _ => rfl) rfl
  · exact q "dict" _ rfl rfl (fun _ => rfl) (by simp [okD, dsame, dget, keq, aeq, flatEq])
  · exact good_str (by simp; omega)
  · exact q "NoneType" _ rfl rfl (fun _ => rfl) rfl
  · exact q "int" _ rfl rfl (fun _ => rfl) rfl
  · exact q "bool" _ rfl rfl (fun _ => rfl) rfl
  · exact good_str (by simp)
  · exact good_str (by simp)
  · exact q "list" _ rfl rfl (fun _ => rfl) rfl
  · exact q "int" _ rfl rfl (fun _ => rfl) rfl
theorem str_add {a b : List Nat} (h : a.length + b.length ≤ 1000) : pAdd (.str a) (.str b) = some (.str (a ++ b)) := by
  show (if a.length + b.length ≤ LIM then some (PV.str (a ++ b)) else none) = _
  rw [if_pos (le_LIM h)]
theorem m__law_bent_word_ap {i : Nat} {s : MS} {l : List Nat} (h : WS i s) (hw : Wd l) : ∃ (p : PV) (s' : MS), m__law_bent_word [.obj i, .str l] s = .ok p s' ∧ Good p ∧ WS i s' := by
  have h12 := hw.1
  have hb := bLen_str (l := l) (by omega)
  obtain ⟨k, s1, e1, hk, h1⟩ := take_k (n := l.length + 1) ((l.length : Nat) + 1) (by omega) h (by omega) (by omega)
  obtain ⟨sign, s2, e2, hs, h2⟩ := m__law_pick_ap (l := [.str [100], .str [65], .str [32], .str [49], .str [], .str [97, 98], .str [10]]) h1 (by decide) (by decide)
  obtain ⟨sg, rfl, hsg⟩ : ∃ sg : List Nat, sign = .str sg ∧ sg.length ≤ 2 := by
    simp only [List.mem_cons, List.not_mem_nil, or_false] at hs
    rcases hs with rfl | rfl | rfl | rfl | rfl | rfl | rfl <;> exact ⟨_, rfl, by decide⟩
  obtain ⟨p, s3, e3, hp, h3⟩ := m__law_pick_ap (l := bent l sg k ++ bent2 l) h2 (by simp [bent, bent2]) (by simp [bent, bent2])
  refine ⟨p, s3, ?_, bent_good h12 hsg p hp, h3⟩
  have h7 : (7 : Nat) ≤ LIM := le_LIM (by decide)
  have h8 : (8 : Nat) ≤ LIM := le_LIM (by decide)
  have h1L : (1 : Nat) ≤ LIM := le_LIM (by decide)
  have a1 : ∀ x y : Int, pAdd (.int x) (.int y) = some (.int (x + y)) := fun _ _ => rfl
  have hz : l.length ≤ LIM := le_LIM (by omega)
  have c1 : pCut (.str l) none (some (k : Nat)) = some (.str (l.take k)) := by
    show (if l.length ≤ LIM then some (PV.str (cutL l none (some (k : Int)))) else none) = _
    rw [if_pos hz, cut_to (by omega)]
  have c2 : pCut (.str l) (some (k : Nat)) none = some (.str (l.drop k)) := by
    show (if l.length ≤ LIM then some (PV.str (cutL l (some (k : Int)) none)) else none) = _
    rw [if_pos hz, cut_from (by omega)]
  have p1 : pAdd (.str (l.take k)) (.str sg) = some (.str (l.take k ++ sg)) := str_add (by rw [List.length_take]; omega)
  have p2 : pAdd (.str (l.take k ++ sg)) (.str (l.drop k)) = some (.str (l.take k ++ sg ++ l.drop k)) := str_add (by rw [List.length_append, List.length_take, List.length_drop]; omega)
  have p3 : pAdd (.str l) (.str [97, 98, 99, 97, 98, 99, 97, 98, 99, 97, 98, 99, 97]) = some (.str (l ++ [97, 98, 99, 97, 98, 99, 97, 98, 99, 97, 98, 99, 97])) := str_add (by simp; omega)
  have p4 : pAdd (.str l) (.str [100]) = some (.str (l ++ [100])) := str_add (by simp; omega)
  have u1 : mUpper (.str l) [] = some (.str (upL l)) := by
    show (if l.length ≤ 5592405 then some (PV.str (upL l)) else none) = _
    rw [if_pos (by omega)]
  have b1 : bTuple [.str l] = some (.tup (l.map fun c => .str [c])) := by
    show (if l.length ≤ LIM then some (PV.tup (l.map fun c => .str [c])) else none) = _
    rw [if_pos hz]
  have b2 : bList [.str l] = some (.lst (l.map fun c => .str [c])) := by
    show (if l.length ≤ LIM then some (PV.lst (l.map fun c => .str [c])) else none) = _
    rw [if_pos hz]
  have d1 : ∀ s, eDisp [(eVar 1, eC (.int 1))] [some (.obj i), some (.str l), some (.int (k : Nat)), some (.str sg), none] s = .ok (.dct false [.str l] [.int 1]) s := fun s => rfl
  have cat : pAdd (.lst (bent l sg k)) (.lst (bent2 l)) = some (.lst (bent l sg k ++ bent2 l)) := by
    show (if (bent l sg k).length + (bent2 l).length ≤ LIM then some (PV.lst (bent l sg k ++ bent2 l)) else none) = _
    rw [if_pos (le_LIM (by simp [bent, bent2]))]
  unfold m__law_bent_word
  rw [defF_ap, ap_sseq, ap_par]
  simp only [startE, ap_cons, ap_nil, ap_call, ap_var, ap_bin, ap_b, ap_c, ap_lst, List.map, List.length_cons, List.length_nil, List.replicate, List.cons_append, List.nil_append, Nat.reduceAdd, Nat.reduceSub, Nat.zero_add, List.getElem?_cons_zero, List.getElem?_cons_succ, bind_ok, d_str, d_int, hb, ofO_some, a1, e1, h7, if_true, e2, sbind_ok, setAll, List.set, then_nx]
  rw [ap_sseq, ap_sset]
  have hL : eLst [eBin pAdd (eBin pAdd (eCut (eVar 1) (oNone) (oSome (eVar 2))) (eVar 3)) (eCut (eVar 1) (oSome (eVar 2)) (oNone)), eBin pAdd (eVar 1) (eC (.str [97, 98, 99, 97, 98, 99, 97, 98, 99, 97, 98, 99, 97])), eMt "str" mUpper (eVar 1) [], eB bTuple [eVar 1], eB bList [eVar 1], eTup [eVar 1], eDisp [(eVar 1, eC (.int 1))], eBin pAdd (eVar 1) (eC (.str [100]))] [some (.obj i), some (.str l), some (.int (k : Nat)), some (.str sg), none] s2 = .ok (.lst (bent l sg k)) s2 := by
    simp only [ap_lst, ap_cons, ap_nil, ap_bin, ap_cut, ap_var, ap_c, ap_none, ap_osome, oInt_int, lift_some, ap_mt, ap_b, ap_tup, List.map, List.getElem?_cons_zero, List.getElem?_cons_succ, bind_ok, d_str, d_int, c1, c2, ofO_some, p1, p2, p3, p4, u1, b1, b2, d1, recv, isStr, if_true, List.length_cons, List.length_nil, Nat.reduceAdd, Nat.zero_add, h1L, h8]
    rfl
  rw [hL, sbind_ok]
  simp only [ap_name, List.set, then_nx]
  rw [ap_sret]
  have hR : eCall m__law_pick [eVar 0, eBin pAdd (eVar 4) (eLst [eC .non, eC (.int 0), eC (.bl true), eC (.str [97, 98, 100]), eC (.str [97, 98, 99, 97, 98, 99, 97, 98, 99, 97, 98, 99, 97]), eLst [eVar 1], eC (.int 1)])] [some (.obj i), some (.str l), some (.int (k : Nat)), some (.str sg), some (.lst (bent l sg k))] s2 = .ok p s3 := by
    have hb2 : eLst [eC .non, eC (.int 0), eC (.bl true), eC (.str [97, 98, 100]), eC (.str [97, 98, 99, 97, 98, 99, 97, 98, 99, 97, 98, 99, 97]), eLst [eVar 1], eC (.int 1)] [some (.obj i), some (.str l), some (.int (k : Nat)), some (.str sg), some (.lst (bent l sg k))] s2 = .ok (.lst (bent2 l)) s2 := by
      simp only [ap_lst, ap_cons, ap_nil, ap_c, ap_var, List.getElem?_cons_zero, List.getElem?_cons_succ, bind_ok, List.length_cons, List.length_nil, Nat.reduceAdd, Nat.zero_add, h1L, h7, if_true]
      rfl
    simp only [ap_call, ap_cons, ap_nil, ap_var, List.getElem?_cons_zero, List.getElem?_cons_succ, bind_ok, ap_bin, hb2, d_lst, cat, ofO_some, e3]
  rw [hR, sbind_ok, fin_rt]
end Lw
namespace Lw
open Mr
noncomputable section
def suiteS (c : String) (p : PV) : SX := sSet (eLst [eIf (tTru (eIsE ["InvalidWord", "InvalidSize", "DoesNotFit"] c "InvalidWord")) (eC (.str [119, 111, 114, 100])) (eIf (tTru (eIsE ["InvalidWord", "InvalidSize", "DoesNotFit"] c "InvalidSize")) (eC (.str [115, 105, 122, 101])) (eC (.str [111, 100, 100]))), eFld ["InvalidWord", "InvalidSize", "DoesNotFit"] "given" c p]) (aName 8)
def tryB : SX := sSet (eLst [eC (.str [108, 101, 116]), eIf (tCm pEq2 (eVar 4) (eC (.int 0))) (eCall m_turned [eVar 5, eVar 6]) (eCall m_all_turns [eVar 5])]) (aName 8)
def rowB : SX := sSeq (sTry ["InvalidWord", "InvalidSize", "DoesNotFit"] "WordError" 9 tryB (fun c p => suiteS c p))
  (sIf (tNt (tTru (eCall (m__law_is 6) [eVar 8, eVar 7]))) (sRet (eC (.bl false))) (sNil))
end
theorem attr_w : attrOf "InvalidWord" = PySem.Str.ofString "given" := by decide +kernel
theorem attr_s : attrOf "InvalidSize" = PySem.Str.ofString "given" := by decide +kernel
def wordS : PV := .str [119, 111, 114, 100]
def sizeS : PV := .str [115, 105, 122, 101]
/-- the class, what it is called -/
def Nm (c : String) (n : PV) : Prop := (c = "InvalidWord" ∧ n = wordS) ∨ (c = "InvalidSize" ∧ n = sizeS)
theorem suite_ap {c : String} {n p : PV} (h : Nm c n) {e0 e1 e2 e3 e4 e5 e6 e7 e8 e10 : Option PV} {s : MS} :
    suiteS c p [e0, e1, e2, e3, e4, e5, e6, e7, e8, none, e10] s = .nx [e0, e1, e2, e3, e4, e5, e6, e7, some (.lst [n, p]), none, e10] s := by
  have h2 : (2 : Nat) ≤ LIM := le_LIM (by decide)
  rcases h with ⟨rfl, rfl⟩ | ⟨rfl, rfl⟩
  · have x1 : ∀ e s, eIsE ["InvalidWord", "InvalidSize", "DoesNotFit"] "InvalidWord" "InvalidWord" e s = .ok (.bl true) s := fun e s => by
      unfold eIsE; rw [if_pos (by decide +kernel)]; rfl
    have x2 : ∀ e s, eFld ["InvalidWord", "InvalidSize", "DoesNotFit"] "given" "InvalidWord" p e s = .ok p s := fun e s => by
      unfold eFld; rw [if_pos (by decide +kernel), if_pos attr_w]
    unfold suiteS
    simp only [ap_sset, ap_lst, ap_cons, ap_nil, ap_if, ap_tru, x1, bind_ok, d_bl, t_bl, ofO_some, if_true, ap_c, x2, List.length_cons, List.length_nil, Nat.reduceAdd, Nat.zero_add, h2, sbind_ok, ap_name, List.set]
    rfl
  · have x1 : ∀ e s, eIsE ["InvalidWord", "InvalidSize", "DoesNotFit"] "InvalidSize" "InvalidWord" e s = .ok (.bl false) s := fun e s => by
      unfold eIsE; rw [if_pos (by decide +kernel)]
      have : subE "InvalidSize" "InvalidWord" = false := by decide +kernel
      rw [this]
    have x3 : ∀ e s, eIsE ["InvalidWord", "InvalidSize", "DoesNotFit"] "InvalidSize" "InvalidSize" e s = .ok (.bl true) s := fun e s => by
      unfold eIsE; rw [if_pos (by decide +kernel)]; rfl
    have x2 : ∀ e s, eFld ["InvalidWord", "InvalidSize", "DoesNotFit"] "given" "InvalidSize" p e s = .ok p s := fun e s => by
      unfold eFld; rw [if_pos (by decide +kernel), if_pos attr_s]
    unfold suiteS
    simp only [ap_sset, ap_lst, ap_cons, ap_nil, ap_if, ap_tru, x1, x3, bind_ok, d_bl, t_bl, ofO_some, if_true, if_neg Bool.false_ne_true, ap_c, x2, List.length_cons, List.length_nil, Nat.reduceAdd, Nat.zero_add, h2, sbind_ok, ap_name, List.set]
    rfl
theorem try_ap {c : String} {n p : PV} (h : Nm c n) {e0 e1 e2 e3 e4 e5 e6 e7 e8 e10 : Option PV} {s : MS}
    (hb : tryB [e0, e1, e2, e3, e4, e5, e6, e7, e8, none, e10] s = .ex c p [e0, e1, e2, e3, e4, e5, e6, e7, e8, none, e10] s) :
    sTry ["InvalidWord", "InvalidSize", "DoesNotFit"] "WordError" 9 tryB (fun c p => suiteS c p) [e0, e1, e2, e3, e4, e5, e6, e7, e8, none, e10] s = .nx [e0, e1, e2, e3, e4, e5, e6, e7, some (.lst [n, p]), none, e10] s := by
  have hc : ((["InvalidWord", "InvalidSize", "DoesNotFit"] : List String).contains c && decide (9 < 11)) = true := by
    rcases h with ⟨rfl, _⟩ | ⟨rfl, _⟩ <;> decide +kernel
  have hs : subE c "WordError" = true := by
    rcases h with ⟨rfl, _⟩ | ⟨rfl, _⟩ <;> decide +kernel
  unfold sTry
  rw [hb]
  show (if ((["InvalidWord", "InvalidSize", "DoesNotFit"] : List String).contains c && decide (9 < 11)) = true then (if subE c "WordError" = true then (match suiteS c p [e0, e1, e2, e3, e4, e5, e6, e7, e8, none, e10] s with
      | .nx e s => SRes.nx (e.set 9 none) s
      | .rt p s => .rt p s
      | .bk e s => .bk (e.set 9 none) s
      | .ct e s => .ct (e.set 9 none) s
      | _ => .stuck) else .ex c p [e0, e1, e2, e3, e4, e5, e6, e7, e8, none, e10] s) else .stuck) = _
  rw [if_pos hc, if_pos hs, suite_ap h]
  rfl
theorem row_ap {c : String} {n p : PV} (h : Nm c n) (hp : okD 4 p = true) {e0 e1 e2 e3 e4 e5 e6 e8 e10 : Option PV} {s : MS}
    (hb : tryB [e0, e1, e2, e3, e4, e5, e6, some (.lst [n, p]), e8, none, e10] s = .ex c p [e0, e1, e2, e3, e4, e5, e6, some (.lst [n, p]), e8, none, e10] s) :
    rowB [e0, e1, e2, e3, e4, e5, e6, some (.lst [n, p]), e8, none, e10] s = .nx [e0, e1, e2, e3, e4, e5, e6, some (.lst [n, p]), some (.lst [n, p]), none, e10] s := by
  have hn : okD 4 n = true := by rcases h with ⟨_, rfl⟩ | ⟨_, rfl⟩ <;> rfl
  have hr := is_refl 6 (.lst [n, p]) s (by
    show ([n, p].all (okD 4) && decide ([n, p].length ≤ 100)) = true
    simp [hn, hp])
  unfold rowB
  rw [ap_sseq, try_ap h hb, then_nx]
  simp only [ap_sif, ap_nt, ap_tru, ap_call, ap_cons, ap_nil, ap_var, List.getElem?_cons_zero, List.getElem?_cons_succ, bind_ok, hr, d_bl, t_bl, ofO_some, Bool.not_true, sbind_ok, if_neg Bool.false_ne_true, ap_snil]
/-- a size that is none -/
def Odd (p : PV) : Prop := okD 4 p = true ∧ ∀ s, m_check_size [p, .int 0, .int 12] s = .exc "InvalidSize" p s
theorem odd_int {z : Int} (h : (decide (0 ≤ z) && decide (z ≤ 12)) = false) : Odd (.int z) := ⟨rfl, fun s => by
  simp only [m_check_size, defF_ap, startE, List.map, List.length_cons, List.length_nil, List.replicate, List.cons_append, List.nil_append, Nat.reduceAdd, Nat.reduceSub, ap_sif, ap_nt, ap_tru, ap_call, ap_cons, ap_nil, ap_var, List.getElem?_cons_zero, List.getElem?_cons_succ, bind_ok, m_is_between_ap, h, d_bl, t_bl, ofO_some, Bool.not_false, sbind_ok, if_true, ap_sraise, fin_ex]⟩
theorem odd_no {p : PV} {t : String} (h1 : tyOf p = some t) (hd : ∀ s, deref s p = p) (h2 : (isSub t "int" && !isSub t "bool") = false) (ho : okD 4 p = true) : Odd p := ⟨ho, fun s => by
  have e : m_is_whole [p] s = .ok (.bl false) s := by
    cases hi : isSub t "int" with
    | false => simp [m_is_whole, defF_ap, startE, hd, bIsi, h1, kinds, hi]
    | true =>
      rw [hi, Bool.true_and] at h2
      have hb : isSub t "bool" = true := by simpa using h2
      simp [m_is_whole, defF_ap, startE, hd, bIsi, h1, kinds, hi, hb]
  simp [m_check_size, m_is_between, defF_ap, startE, e]⟩
/-- a row of the table -/
def RowOk (l : List Nat) (r : PV) : Prop := (∃ (w : Int) (q : PV), Val q ∧ okD 4 q = true ∧ wdB q = false ∧ r = .tup [.int w, q, .non, .lst [wordS, q]]) ∨ ∃ o : PV, Odd o ∧ r = .tup [.int 0, .str l, o, .lst [sizeS, o]]
theorem forM_rows {l : List Nat} {s : MS} {e0 e1 e2 e3 : Option PV} (hw : Wd l) : ∀ (rows : List PV) (e4 e5 e6 e7 e8 e10 : Option PV), (∀ r ∈ rows, RowOk l r) →
    ∃ env, Mr.forM (aTup [aName 4, aName 5, aName 6, aName 7]) rowB rows [e0, e1, e2, e3, e4, e5, e6, e7, e8, none, e10] s = .nx env s
  | [], _, _, _, _, _, _, _ => ⟨_, rfl⟩
  | r :: rows, e4, e5, e6, e7, e8, e10, h => by
    have ex : ∃ (c : String) (n p : PV) (w : Int) (a b : PV), Nm c n ∧ okD 4 p = true ∧ r = .tup [.int w, a, b, .lst [n, p]] ∧ tryB [e0, e1, e2, e3, some (.int w), some a, some b, some (.lst [n, p]), e8, none, e10] s = .ex c p [e0, e1, e2, e3, some (.int w), some a, some b, some (.lst [n, p]), e8, none, e10] s := by
      rcases h r List.mem_cons_self with ⟨w, q, hv, ho, hq, rfl⟩ | ⟨o, ho, rfl⟩
      · refine ⟨"InvalidWord", wordS, q, w, q, .non, .inl ⟨rfl, rfl⟩, ho, rfl, ?_⟩
        have x1 : ∀ b, m_turned [q, b] s = .exc "InvalidWord" q s := fun b => by simp [m_turned, defF_ap, startE, m_check_word_no hv hq]
        have x2 : m_all_turns [q] s = .exc "InvalidWord" q s := by simp [m_all_turns, defF_ap, startE, m_check_word_no hv hq]
        have x3 : pEq2 (.int w) (.int 0) = some (w == 0) := eq_int w 0
        unfold tryB
        cases hz : w == 0 with
        | true => simp only [ap_sset, ap_lst, ap_cons, ap_nil, ap_if, ap_tcm, ap_c, ap_var, ap_call, List.getElem?_cons_zero, List.getElem?_cons_succ, bind_ok, d_int, x3, hz, ofO_some, if_true, x1, bind_exc, sbind_exc]
        | false => simp only [ap_sset, ap_lst, ap_cons, ap_nil, ap_if, ap_tcm, ap_c, ap_var, ap_call, List.getElem?_cons_zero, List.getElem?_cons_succ, bind_ok, d_int, x3, hz, ofO_some, if_neg Bool.false_ne_true, x2, bind_exc, sbind_exc]
      · refine ⟨"InvalidSize", sizeS, o, 0, .str l, o, .inr ⟨rfl, rfl⟩, ho.1, rfl, ?_⟩
        have x1 : m_turned [.str l, o] s = .exc "InvalidSize" o s := by simp [m_turned, defF_ap, startE, m_check_word_ok hw, ho.2]
        have x3 : pEq2 (.int 0) (.int 0) = some true := eq_int 0 0
        unfold tryB
        simp only [ap_sset, ap_lst, ap_cons, ap_nil, ap_if, ap_tcm, ap_c, ap_var, ap_call, List.getElem?_cons_zero, List.getElem?_cons_succ, bind_ok, d_int, x3, ofO_some, if_true, x1, bind_exc, sbind_exc]
    obtain ⟨c, n, p, w, a, b, hn, hp, rfl, hb⟩ := ex
    obtain ⟨env, q⟩ := forM_rows hw rows (some (.int w)) (some a) (some b) (some (.lst [n, p])) (some (.lst [n, p])) e10 fun r hr => h r (List.mem_cons_of_mem _ hr)
    refine ⟨env, ?_⟩
    simp only [Mr.forM, aTup, aAll, ap_name, List.set]
    rw [row_ap hn hp hb]
    exact q
theorem rows_ok {l : List Nat} {q : PV} (hv : Val q) (ho : okD 4 q = true) (hq : wdB q = false) : ∀ r ∈ ([.tup [.int 0, q, .non, .lst [wordS, q]], .tup [.int 1, q, .non, .lst [wordS, q]]] : List PV) ++ ([.int 13, .int (-1), .bl true, .non, .str [48], .tup [.int 0], .int (10 ^ 20), .bl false] : List PV).map (fun o => .tup [.int 0, .str l, o, .lst [sizeS, o]]), RowOk l r := by
  intro r hr
  rcases List.mem_append.mp hr with hr | hr
  · simp only [List.mem_cons, List.not_mem_nil, or_false] at hr
    rcases hr with rfl | rfl
    · exact .inl ⟨0, q, hv, ho, hq, rfl⟩
    · exact .inl ⟨1, q, hv, ho, hq, rfl⟩
  · obtain ⟨o, ho, rfl⟩ := List.mem_map.mp hr
    refine .inr ⟨o, ?_, rfl⟩
    simp only [List.mem_cons, List.not_mem_nil, or_false] at ho
    rcases ho with rfl | rfl | rfl | rfl | rfl | rfl | rfl | rfl
    · exact odd_int (by decide)
    · exact odd_int (by decide)
    · exact odd_no (t := "bool") rfl (fun _ => rfl) (by decide) rfl
    · exact odd_no (t := "NoneType") rfl (fun _ => rfl) (by decide) rfl
    · exact odd_no (t := "str") rfl (fun _ => rfl) (by decide) rfl
    · exact odd_no (t := "tuple") rfl (fun _ => rfl) (by decide) rfl
    · exact odd_int (by decide)
    · exact odd_no (t := "bool") rfl (fun _ => rfl) (by decide) rfl
theorem m__law_refused_right_ap {i : Nat} {s : MS} {l : List Nat} (h : WS i s) (hw : Wd l) : ∃ s', m__law_refused_right [.obj i, .str l] s = .ok (.bl true) s' ∧ WS i s' := by
  obtain ⟨p, s1, e1, hp, h1⟩ := m__law_bent_word_ap h hw
  obtain ⟨q, hq, hv, ho, hb⟩ : ∃ q, eIf (tTru (eCall m__law_is_word [eVar 2])) (eC .non) (eVar 2) [some (.obj i), some (.str l), some p, none, none, none, none, none, none, none, none] s1 = .ok q s1 ∧ Val q ∧ okD 4 q = true ∧ wdB q = false := by
    cases hwd : wdB p with
    | true =>
      refine ⟨.non, ?_, .inr ⟨"NoneType", rfl, rfl, fun _ => rfl⟩, rfl, rfl⟩
      simp only [ap_if, ap_tru, ap_call, ap_cons, ap_nil, ap_var, List.getElem?_cons_zero, List.getElem?_cons_succ, bind_ok, m__law_is_word_ap hp.val, hwd, d_bl, t_bl, ofO_some, if_true, ap_c]
    | false =>
      refine ⟨p, ?_, hp.val, hp.ok, hwd⟩
      simp only [ap_if, ap_tru, ap_call, ap_cons, ap_nil, ap_var, List.getElem?_cons_zero, List.getElem?_cons_succ, bind_ok, m__law_is_word_ap hp.val, hwd, d_bl, t_bl, ofO_some, if_neg Bool.false_ne_true]
  refine ⟨s1, ?_, h1⟩
  have L2_ : (2 : Nat) ≤ LIM := le_LIM (by decide)
  have L4_ : (4 : Nat) ≤ LIM := le_LIM (by decide)
  have L1_ : (1 : Nat) ≤ LIM := le_LIM (by decide)
  have L8_ : (8 : Nat) ≤ LIM := le_LIM (by decide)
  have hrows : eLst [eTup [eC (.int 0), eVar 2, eC .non, eLst [eC (.str [119, 111, 114, 100]), eVar 2]], eTup [eC (.int 1), eVar 2, eC .non, eLst [eC (.str [119, 111, 114, 100]), eVar 2]]] [some (.obj i), some (.str l), some q, none, none, none, none, none, none, none, none] s1 = .ok (.lst [.tup [.int 0, q, .non, .lst [wordS, q]], .tup [.int 1, q, .non, .lst [wordS, q]]]) s1 := by
    simp only [ap_lst, ap_tup, ap_cons, ap_nil, ap_c, ap_var, List.getElem?_cons_zero, List.getElem?_cons_succ, bind_ok, List.length_cons, List.length_nil, Nat.reduceAdd, Nat.zero_add, L2_, L4_, if_true]
    rfl
  have p20 : pPow (.int 10) (.int 20) = some (.int (10 ^ 20)) := by
    show (if (0 : Int) ≤ 20 ∧ fits 19 20 = true ∧ fits 64 10 = true then some (PV.int (10 ^ (20 : Int).toNat)) else none) = _
    rw [if_pos ⟨by decide, fits_lit (by decide) (by decide), fits_lit (by decide) (by decide)⟩]; rfl
  have hc := compM_map (e := [some (.obj i), some (.str l), some q, some (.lst [.tup [.int 0, q, .non, .lst [wordS, q]], .tup [.int 1, q, .non, .lst [wordS, q]]]), none, none, none, none, none, none, none]) (i := 10) (eTup [eC (.int 0), eVar 1, eVar 10, eLst [eC (.str [115, 105, 122, 101]), eVar 10]]) (fun o => .tup [.int 0, .str l, o, .lst [sizeS, o]]) [.int 13, .int (-1), .bl true, .non, .str [48], .tup [.int 0], .int (10 ^ 20), .bl false] s1 (fun x hx s => by
    simp only [List.set, ap_tup, ap_lst, ap_cons, ap_nil, ap_c, ap_var, List.getElem?_cons_zero, List.getElem?_cons_succ, bind_ok, List.length_cons, List.length_nil, Nat.reduceAdd, Nat.zero_add, L2_, L4_, if_true]
    rfl)
  have hodd : iSeq (eLst [eC (.int 13), eUn pNeg (eC (.int 1)), eC (.bl true), eC .non, eC (.str [48]), eTup [eC (.int 0)], eBin pPow (eC (.int 10)) (eC (.int 20)), eC (.bl false)]) [some (.obj i), some (.str l), some q, some (.lst [.tup [.int 0, q, .non, .lst [wordS, q]], .tup [.int 1, q, .non, .lst [wordS, q]]]), none, none, none, none, none, none, none] s1 = .ok [.int 13, .int (-1), .bl true, .non, .str [48], .tup [.int 0], .int (10 ^ 20), .bl false] s1 := by
    simp only [ap_seq, ap_lst, ap_tup, ap_cons, ap_nil, ap_c, ap_un, ap_bin, bind_ok, d_int, pNeg, ofO_some, p20, List.length_cons, List.length_nil, Nat.reduceAdd, Nat.zero_add, L1_, L8_, if_true, elems]
  obtain ⟨env, hf⟩ := forM_rows (s := s1) (e0 := some (.obj i)) (e1 := some (.str l)) (e2 := some q) (e3 := some (.lst [.tup [.int 0, q, .non, .lst [wordS, q]], .tup [.int 1, q, .non, .lst [wordS, q]]])) hw _ none none none none none none (rows_ok (l := l) hv ho hb)
  unfold m__law_refused_right
  rw [defF_ap, ap_sseq, ap_sset]
  have hst : eCall m__law_bent_word [eVar 0, eVar 1] (startE 11 [.obj i, .str l]) s = .ok p s1 := by
    simp only [startE, ap_call, ap_cons, ap_nil, ap_var, List.map, List.length_cons, List.length_nil, List.replicate, List.cons_append, List.nil_append, Nat.reduceAdd, Nat.reduceSub, Nat.zero_add, List.getElem?_cons_zero, List.getElem?_cons_succ, bind_ok, e1]
  rw [hst, sbind_ok]
  show (SRes.then (SRes.nx [some (.obj i), some (.str l), some p, none, none, none, none, none, none, none, none] s1) _).fin = _
  rw [then_nx, ap_sseq, ap_sset, hq, sbind_ok]
  show (SRes.then (SRes.nx [some (.obj i), some (.str l), some q, none, none, none, none, none, none, none, none] s1) _).fin = _
  rw [then_nx, ap_sseq, ap_sset, hrows, sbind_ok]
  show (SRes.then (SRes.nx [some (.obj i), some (.str l), some q, some (.lst [.tup [.int 0, q, .non, .lst [wordS, q]], .tup [.int 1, q, .non, .lst [wordS, q]]]), none, none, none, none, none, none, none] s1) _).fin = _
  rw [then_nx, ap_sseq, ap_sfor]
  have cat : pAdd (.lst [.tup [.int 0, q, .non, .lst [wordS, q]], .tup [.int 1, q, .non, .lst [wordS, q]]]) (.lst (([.int 13, .int (-1), .bl true, .non, .str [48], .tup [.int 0], .int (10 ^ 20), .bl false] : List PV).map (fun o => .tup [.int 0, .str l, o, .lst [sizeS, o]]))) = some (.lst (([.tup [.int 0, q, .non, .lst [wordS, q]], .tup [.int 1, q, .non, .lst [wordS, q]]] : List PV) ++ ([.int 13, .int (-1), .bl true, .non, .str [48], .tup [.int 0], .int (10 ^ 20), .bl false] : List PV).map (fun o => .tup [.int 0, .str l, o, .lst [sizeS, o]]))) := by
    have hh : (10 : Nat) ≤ LIM := le_LIM (by decide)
    exact if_pos hh
  have L8' : ([.int 13, .int (-1), .bl true, .non, .str [48], .tup [.int 0], .int (10 ^ 20), .bl false] : List PV).length ≤ LIM := L8_
  have hit : iSeq (eBin pAdd (eVar 3) (eComp [10] (iSeq (eLst [eC (.int 13), eUn pNeg (eC (.int 1)), eC (.bl true), eC .non, eC (.str [48]), eTup [eC (.int 0)], eBin pPow (eC (.int 10)) (eC (.int 20)), eC (.bl false)])) (aName 10) (tYs) (eTup [eC (.int 0), eVar 1, eVar 10, eLst [eC (.str [115, 105, 122, 101]), eVar 10]]))) [some (.obj i), some (.str l), some q, some (.lst [.tup [.int 0, q, .non, .lst [wordS, q]], .tup [.int 1, q, .non, .lst [wordS, q]]]), none, none, none, none, none, none, none] s1 = .ok (([.tup [.int 0, q, .non, .lst [wordS, q]], .tup [.int 1, q, .non, .lst [wordS, q]]] : List PV) ++ ([.int 13, .int (-1), .bl true, .non, .str [48], .tup [.int 0], .int (10 ^ 20), .bl false] : List PV).map (fun o => .tup [.int 0, .str l, o, .lst [sizeS, o]])) s1 := by
    rw [ap_seq, ap_bin, ap_var]
    simp only [List.getElem?_cons_zero, List.getElem?_cons_succ, bind_ok]
    rw [ap_comp, hodd, bind_ok, if_pos L8']
    simp only [wipeE, List.set]
    rw [hc]
    simp only [Res.calm, bind_ok, d_lst]
    rw [cat]
    rfl
  rw [hit, sbind_ok]
  show (SRes.then (Mr.forM (aTup [aName 4, aName 5, aName 6, aName 7]) rowB _ _ s1) _).fin = _
  rw [hf, then_nx, ap_sret, ap_c, sbind_ok, fin_rt]
noncomputable def rightB : SX := sSeq (sSet (eCall m__law_drawn_word [eVar 0, eVar 1]) (aName 2))
  (sIf (tOr2 (tNt (tTru (eCall m__law_word_right [eVar 0, eVar 2]))) (tNt (tTru (eCall m__law_refused_right [eVar 0, eVar 2])))) (sRet (eC (.bl false))) (sNil))
theorem forM_right {i : Nat} : ∀ (ms : List Nat) (o1 o2 : Option PV) (s : MS), (∀ m ∈ ms, m ≤ 12) → WS i s → ∃ env s', Mr.forM (aName 1) rightB (ms.map fun m => .int (m : Nat)) [some (.obj i), o1, o2] s = .nx env s'
  | [], o1, o2, s, _, _ => ⟨_, _, rfl⟩
  | m :: ms, o1, o2, s, hm, h => by
    obtain ⟨l, s1, e1, hw, h1⟩ := m__law_drawn_word_ap h (hm m List.mem_cons_self)
    obtain ⟨s2, e2, h2⟩ := m__law_word_right_ap h1 hw
    obtain ⟨s3, e3, h3⟩ := m__law_refused_right_ap h2 hw
    obtain ⟨env, s', e4⟩ := forM_right ms (some (.int (m : Nat))) (some (.str l)) s3 (fun k hk => hm k (List.mem_cons_of_mem _ hk)) h3
    refine ⟨env, s', ?_⟩
    have hb : rightB [some (.obj i), some (.int (m : Nat)), o2] s = .nx [some (.obj i), some (.int (m : Nat)), some (.str l)] s3 := by
      unfold rightB
      simp only [ap_sseq, ap_sset, ap_call, ap_cons, ap_nil, ap_var, List.getElem?_cons_zero, List.getElem?_cons_succ, bind_ok, e1, sbind_ok, ap_name, List.set, then_nx, ap_sif, ap_or2, ap_nt, ap_tru, e2, d_bl, t_bl, ofO_some, Bool.not_true, if_neg Bool.false_ne_true, e3, ap_snil]
    simp only [List.map_cons, Mr.forM, ap_name, List.set]
    rw [hb]
    exact e4
theorem m__law_right_ap {i : Nat} {s : MS} (h : WS i s) : ∃ s', m__law_right [.obj i] s = .ok (.bl true) s' := by
  obtain ⟨env, s', e⟩ := forM_right (i := i) [0, 1, 2, 3, 5, 8, 12, 12] none none s (by decide) h
  refine ⟨s', ?_⟩
  have L8_ : (8 : Nat) ≤ LIM := le_LIM (by decide)
  unfold m__law_right
  rw [defF_ap, ap_sseq, ap_sfor]
  have hi : iSeq (eLst [eC (.int 0), eC (.int 1), eC (.int 2), eC (.int 3), eC (.int 5), eC (.int 8), eC (.int 12), eC (.int 12)]) (startE 3 [.obj i]) s = .ok (([0, 1, 2, 3, 5, 8, 12, 12] : List Nat).map fun m => .int (m : Nat)) s := by
    simp only [ap_seq, ap_lst, ap_cons, ap_nil, ap_c, bind_ok, List.length_cons, List.length_nil, Nat.reduceAdd, Nat.zero_add, L8_, if_true, elems, ofO_some]
    rfl
  rw [hi, sbind_ok]
  show (SRes.then (Mr.forM (aName 1) rightB (([0, 1, 2, 3, 5, 8, 12, 12] : List Nat).map fun m => .int (m : Nat)) [some (.obj i), none, none] s) _).fin = _
  rw [e, then_nx, ap_sret, ap_c, sbind_ok, fin_rt]
theorem comp_law {ns : List Int} (hn : ns.length ≤ 63) : ∀ (xs : List PV) (s : MS), (∀ x ∈ xs, ∃ t : Nat, t ≤ 10 ∧ x = .int (t : Nat)) → ∃ s', compM (aName 1) tYs (eCall m__law_right [eCall m__law_well [eVar 0, eVar 1]]) [some (.scr (ns.map .int)), none] xs s = .ok (xs.map fun _ => .bl true) s'
  | [], s, _ => ⟨s, rfl⟩
  | x :: xs, s, h => by
    obtain ⟨t, ht, rfl⟩ := h x List.mem_cons_self
    obtain ⟨s1, e1, h1⟩ := m__law_well_ap (s := s) hn ht
    obtain ⟨s2, e2⟩ := m__law_right_ap h1
    obtain ⟨s3, e3⟩ := comp_law hn xs s2 fun y hy => h y (List.mem_cons_of_mem _ hy)
    refine ⟨s3, ?_⟩
    simp only [compM, ap_name, List.set, ap_yes, bind_ok, if_true, ap_call, ap_cons, ap_nil, ap_var, List.getElem?_cons_zero, List.getElem?_cons_succ, e1, e2, e3, List.map_cons]
theorem law_plain (ns : List Int) (hn : ns.length ≤ 63) : ∃ s, m_law [.scr (ns.map PV.int)] ms0 = .ok (.bl true) s := by
  have hl : bLen [.scr (ns.map PV.int)] = some (.int (ns.length : Nat)) := by
    show (seqOf (.scr (ns.map PV.int))).map (fun l => PV.int l.length) = _
    simp [seqOf]
  obtain ⟨k, hk, h3⟩ : ∃ k : Nat, k ≤ 3 ∧ eB bMax2 [eC (.int 2), eB bMin2 [eB bLen [eVar 0], eC (.int 3)]] [some (.scr (ns.map .int)), none] ms0 = .ok (.int (k : Nat)) ms0 := by
    have hmin : bMin2 [.int (ns.length : Nat), .int 3] = some (.int ((min ns.length 3 : Nat) : Int)) := by
      show some (PV.int (if (3 : Int) < (ns.length : Nat) then 3 else ((ns.length : Nat) : Int))) = _
      congr 2; split <;> omega
    have hmax : ∀ m : Nat, bMax2 [.int 2, .int (m : Nat)] = some (.int ((max 2 m : Nat) : Int)) := fun m => by
      show some (PV.int (if ((m : Nat) : Int) > 2 then ((m : Nat) : Int) else 2)) = _
      congr 2; split <;> omega
    refine ⟨max 2 (min ns.length 3), by omega, ?_⟩
    simp only [ap_b, ap_cons, ap_nil, ap_c, ap_var, List.getElem?_cons_zero, bind_ok, List.map, d_int, d_scr, hl, ofO_some, hmin, hmax]
  have hr := rng1_nat (n := k) (by omega)
  obtain ⟨s', hc⟩ := comp_law hn (rng 0 k) ms0 fun x hx => by
    obtain ⟨t, ht, rfl⟩ := mem_rng hx
    exact ⟨t, by omega, rfl⟩
  have hL : (rng 0 k).length ≤ LIM := le_LIM (by rw [rng_len]; omega)
  refine ⟨s', ?_⟩
  unfold m_law
  rw [defF_ap]
  show ((sRet _ [some (.scr (ns.map .int)), none] ms0).fin) = _
  have hcomp : eComp [1] (iRng rng1 [eB bMax2 [eC (.int 2), eB bMin2 [eB bLen [eVar 0], eC (.int 3)]]]) (aName 1) (tYs) (eCall m__law_right [eCall m__law_well [eVar 0, eVar 1]]) [some (.scr (ns.map .int)), none] ms0 = .ok (.lst ((rng 0 k).map fun _ => .bl true)) s' := by
    rw [ap_comp, ap_rng, ap_cons, h3, bind_ok, ap_nil, bind_ok, bind_ok, hr, ofO_some, bind_ok, if_pos hL]
    simp only [wipeE, List.set]
    rw [hc]
    rfl
  rw [ap_sret, ap_b, ap_cons, hcomp, bind_ok, ap_nil, bind_ok, bind_ok]
  have hall : bAll [.lst ((rng 0 k).map fun _ => PV.bl true)] = some (.bl true) := by
    show (allBl ((rng 0 k).map fun _ => PV.bl true)).map (fun bs => PV.bl (bs.all id)) = _
    rw [allBl_true]
    simp
  show ((ofO (bAll [.lst ((rng 0 k).map fun _ => PV.bl true)]) s').sbind _ _).fin = _
  rw [hall, ofO_some, sbind_ok, fin_rt]
theorem law_plain_all : ∀ ns : List Int, ns.length ≤ 63 → (∀ z ∈ ns, PySem.Builtin.Int.intBits z ≤ 1048576) → ∃ s, m_law [.scr (ns.map PV.int)] ms0 = .ok (.bl true) s := fun ns h _ => law_plain ns h
end Lw
namespace Lw
open PySem PySem.Spec PyProof.Rows L2 Mr
theorem law_pure : ∀ ns : List Int, ns.length ≤ 63 → (∀ z ∈ ns, Builtin.Int.intBits z ≤ 1048576) → ∃ s, m_law [.scr (ns.map PV.int)] ms0 = .ok (.bl true) s := law_plain_all
theorem top_mk {K : PySem.W.Frag} {mg : MG} {h : Heap} (X : K.In h) (G : h.Ns mainGlobals mg)
    (b_abs : PySem.W.nsIn K mainGlobals "abs" = some none)
    (b_all : PySem.W.nsIn K mainGlobals "all" = some none)
    (b_bool : PySem.W.nsIn K mainGlobals "bool" = some none)
    (b_dict : PySem.W.nsIn K mainGlobals "dict" = some none)
    (b_divmod : PySem.W.nsIn K mainGlobals "divmod" = some none)
    (b_enumerate : PySem.W.nsIn K mainGlobals "enumerate" = some none)
    (b_int : PySem.W.nsIn K mainGlobals "int" = some none)
    (b_isinstance : PySem.W.nsIn K mainGlobals "isinstance" = some none)
    (b_len : PySem.W.nsIn K mainGlobals "len" = some none)
    (b_list : PySem.W.nsIn K mainGlobals "list" = some none)
    (b_max : PySem.W.nsIn K mainGlobals "max" = some none)
    (b_min : PySem.W.nsIn K mainGlobals "min" = some none)
    (b_range : PySem.W.nsIn K mainGlobals "range" = some none)
    (b_sorted : PySem.W.nsIn K mainGlobals "sorted" = some none)
    (b_str : PySem.W.nsIn K mainGlobals "str" = some none)
    (b_sum : PySem.W.nsIn K mainGlobals "sum" = some none)
    (b_tuple : PySem.W.nsIn K mainGlobals "tuple" = some none)
    (n_InvalidSize : ∃ C, PySem.W.nsIn K mainGlobals "InvalidSize" = some (some (.ref C)))
    (p_InvalidWord_InvalidSize : PairIn K "InvalidWord" "InvalidSize" (subE "InvalidWord" "InvalidSize"))
    (p_InvalidSize_InvalidSize : PairIn K "InvalidSize" "InvalidSize" (subE "InvalidSize" "InvalidSize"))
    (p_DoesNotFit_InvalidSize : PairIn K "DoesNotFit" "InvalidSize" (subE "DoesNotFit" "InvalidSize"))
    (n_InvalidWord : ∃ C, PySem.W.nsIn K mainGlobals "InvalidWord" = some (some (.ref C)))
    (p_InvalidWord_InvalidWord : PairIn K "InvalidWord" "InvalidWord" (subE "InvalidWord" "InvalidWord"))
    (p_InvalidSize_InvalidWord : PairIn K "InvalidSize" "InvalidWord" (subE "InvalidSize" "InvalidWord"))
    (p_DoesNotFit_InvalidWord : PairIn K "DoesNotFit" "InvalidWord" (subE "DoesNotFit" "InvalidWord"))
    (n_WordError : ∃ C, PySem.W.nsIn K mainGlobals "WordError" = some (some (.ref C)))
    (p_InvalidWord_WordError : PairIn K "InvalidWord" "WordError" (subE "InvalidWord" "WordError"))
    (p_InvalidSize_WordError : PairIn K "InvalidSize" "WordError" (subE "InvalidSize" "WordError"))
    (p_DoesNotFit_WordError : PairIn K "DoesNotFit" "WordError" (subE "DoesNotFit" "WordError"))
    (e_DoesNotFit : EG.In K "DoesNotFit")
    (e_InvalidSize : EG.In K "InvalidSize")
    (e_InvalidWord : EG.In K "InvalidWord")
    (f__law_bent_word : FnIn K "_law_bent_word" (top 44))
    (f__law_drawn_word : FnIn K "_law_drawn_word" (top 43))
    (f__law_is : FnIn K "_law_is" (top 38))
    (f__law_is_word : FnIn K "_law_is_word" (top 39))
    (f__law_pick : FnIn K "_law_pick" (top 37))
    (f__law_refused_right : FnIn K "_law_refused_right" (top 46))
    (f__law_right : FnIn K "_law_right" (top 47))
    (f__law_root : FnIn K "_law_root" (top 42))
    (f__law_take : FnIn K "_law_take" (top 36))
    (f__law_turned : FnIn K "_law_turned" (top 40))
    (f__law_turns : FnIn K "_law_turns" (top 41))
    (f__law_well : FnIn K "_law_well" (top 35))
    (f__law_word_right : FnIn K "_law_word_right" (top 45))
    (f_all_turns : FnIn K "all_turns" (top 30))
    (f_check_letter : FnIn K "check_letter" (top 25))
    (f_check_rooted : FnIn K "check_rooted" (top 28))
    (f_check_size : FnIn K "check_size" (top 26))
    (f_check_word : FnIn K "check_word" (top 24))
    (f_divisors_of : FnIn K "divisors_of" (top 21))
    (f_is_between : FnIn K "is_between" (top 7))
    (f_is_letter : FnIn K "is_letter" (top 16))
    (f_is_text_of : FnIn K "is_text_of" (top 8))
    (f_is_whole : FnIn K "is_whole" (top 6))
    (f_is_word_of : FnIn K "is_word_of" (top 14))
    (f_is_worded : FnIn K "is_worded" (top 15))
    (f_law : FnIn K "law" (top 48))
    (f_letter_count : FnIn K "letter_count" (top 33))
    (f_letters_of : FnIn K "letters_of" (top 13))
    (f_root : FnIn K "root" (top 31))
    (f_root_by : FnIn K "root_by" (top 22))
    (f_turned : FnIn K "turned" (top 29))
    (f_turned_by : FnIn K "turned_by" (top 18))
    (f_turns_of : FnIn K "turns_of" (top 19))
    (f_unlike_turns : FnIn K "unlike_turns" (top 20))
    (g_LETTERS : ∃ t, PySem.W.nsIn K mainGlobals "LETTERS" = some (some (.str "abc" t)))
    (g_LONGEST : ∃ t, PySem.W.nsIn K mainGlobals "LONGEST" = some (some (.int 12 t)))
    (g_MOST_LETTERS : ∃ t, PySem.W.nsIn K mainGlobals "MOST_LETTERS" = some (some (.int 3 t)))
    (k_DoesNotFit : ClsIn K "DoesNotFit")
    (k_InvalidSize : ClsIn K "InvalidSize")
    (k_InvalidWord : ClsIn K "InvalidWord") : Top K mg where
  b_abs := PySem.W.mg_none_of X G b_abs
  b_all := PySem.W.mg_none_of X G b_all
  b_bool := PySem.W.mg_none_of X G b_bool
  b_dict := PySem.W.mg_none_of X G b_dict
  b_divmod := PySem.W.mg_none_of X G b_divmod
  b_enumerate := PySem.W.mg_none_of X G b_enumerate
  b_int := PySem.W.mg_none_of X G b_int
  b_isinstance := PySem.W.mg_none_of X G b_isinstance
  b_len := PySem.W.mg_none_of X G b_len
  b_list := PySem.W.mg_none_of X G b_list
  b_max := PySem.W.mg_none_of X G b_max
  b_min := PySem.W.mg_none_of X G b_min
  b_range := PySem.W.mg_none_of X G b_range
  b_sorted := PySem.W.mg_none_of X G b_sorted
  b_str := PySem.W.mg_none_of X G b_str
  b_sum := PySem.W.mg_none_of X G b_sum
  b_tuple := PySem.W.mg_none_of X G b_tuple
  c_InvalidSize := pairs_get X G n_InvalidSize (List.forall_mem_cons.mpr ⟨p_InvalidWord_InvalidSize, List.forall_mem_cons.mpr ⟨p_InvalidSize_InvalidSize, List.forall_mem_cons.mpr ⟨p_DoesNotFit_InvalidSize, fun _ h => (nomatch h)⟩⟩⟩)
  c_InvalidWord := pairs_get X G n_InvalidWord (List.forall_mem_cons.mpr ⟨p_InvalidWord_InvalidWord, List.forall_mem_cons.mpr ⟨p_InvalidSize_InvalidWord, List.forall_mem_cons.mpr ⟨p_DoesNotFit_InvalidWord, fun _ h => (nomatch h)⟩⟩⟩)
  c_WordError := pairs_get X G n_WordError (List.forall_mem_cons.mpr ⟨p_InvalidWord_WordError, List.forall_mem_cons.mpr ⟨p_InvalidSize_WordError, List.forall_mem_cons.mpr ⟨p_DoesNotFit_WordError, fun _ h => (nomatch h)⟩⟩⟩)
  e_DoesNotFit := err_G X G e_DoesNotFit
  e_InvalidSize := err_G X G e_InvalidSize
  e_InvalidWord := err_G X G e_InvalidWord
  f__law_bent_word := FnIn.get X G f__law_bent_word
  f__law_drawn_word := FnIn.get X G f__law_drawn_word
  f__law_is := FnIn.get X G f__law_is
  f__law_is_word := FnIn.get X G f__law_is_word
  f__law_pick := FnIn.get X G f__law_pick
  f__law_refused_right := FnIn.get X G f__law_refused_right
  f__law_right := FnIn.get X G f__law_right
  f__law_root := FnIn.get X G f__law_root
  f__law_take := FnIn.get X G f__law_take
  f__law_turned := FnIn.get X G f__law_turned
  f__law_turns := FnIn.get X G f__law_turns
  f__law_well := FnIn.get X G f__law_well
  f__law_word_right := FnIn.get X G f__law_word_right
  f_all_turns := FnIn.get X G f_all_turns
  f_check_letter := FnIn.get X G f_check_letter
  f_check_rooted := FnIn.get X G f_check_rooted
  f_check_size := FnIn.get X G f_check_size
  f_check_word := FnIn.get X G f_check_word
  f_divisors_of := FnIn.get X G f_divisors_of
  f_is_between := FnIn.get X G f_is_between
  f_is_letter := FnIn.get X G f_is_letter
  f_is_text_of := FnIn.get X G f_is_text_of
  f_is_whole := FnIn.get X G f_is_whole
  f_is_word_of := FnIn.get X G f_is_word_of
  f_is_worded := FnIn.get X G f_is_worded
  f_law := FnIn.get X G f_law
  f_letter_count := FnIn.get X G f_letter_count
  f_letters_of := FnIn.get X G f_letters_of
  f_root := FnIn.get X G f_root
  f_root_by := FnIn.get X G f_root_by
  f_turned := FnIn.get X G f_turned
  f_turned_by := FnIn.get X G f_turned_by
  f_turns_of := FnIn.get X G f_turns_of
  f_unlike_turns := FnIn.get X G f_unlike_turns
  g_LETTERS := glob_get X G g_LETTERS
  g_LONGEST := glob_get X G g_LONGEST
  g_MOST_LETTERS := glob_get X G g_MOST_LETTERS
  x_all := (errs_G X G e_InvalidWord k_InvalidWord (errs_G X G e_InvalidSize k_InvalidSize (errs_G X G e_DoesNotFit k_DoesNotFit Errs.nil)))
end Lw
open PySem PySem.W PyProof.Rows
set_option maxRecDepth 100000 in
set_option maxHeartbeats 0 in
theorem PySem.Challenge.cw_leastwords_k04_whole_turns_of_words_holds : PySem.Challenge.rw_leastwords_k04_whole_turns_of_words.Holds := by
  w_on; o_law; k_head; (case hw => w_witness2)
  k_fill
  refine Mr.law_walk (l := PySem.Challenge.rw_leastwords_k04_whole_turns_of_words) (k := 10) (st := Lw.top 48) (Top := Lw.Top) rfl rfl rfl ⟨rfl, by decide, by decide⟩ (fun w h Y => PySem.W.kIn_of Y) (fun T => Lw.d_law T) (fun _ _ _ _ _ _ _ => rfl) ?T Lw.law_pure
  case T =>
    intro w mg h KX G
    refine' Lw.top_mk KX G ?b_abs ?b_all ?b_bool ?b_dict ?b_divmod ?b_enumerate ?b_int ?b_isinstance ?b_len ?b_list ?b_max ?b_min ?b_range ?b_sorted ?b_str ?b_sum ?b_tuple ?n_InvalidSize ?p_InvalidWord_InvalidSize ?p_InvalidSize_InvalidSize ?p_DoesNotFit_InvalidSize ?n_InvalidWord ?p_InvalidWord_InvalidWord ?p_InvalidSize_InvalidWord ?p_DoesNotFit_InvalidWord ?n_WordError ?p_InvalidWord_WordError ?p_InvalidSize_WordError ?p_DoesNotFit_WordError ?e_DoesNotFit ?e_InvalidSize ?e_InvalidWord ?f__law_bent_word ?f__law_drawn_word ?f__law_is ?f__law_is_word ?f__law_pick ?f__law_refused_right ?f__law_right ?f__law_root ?f__law_take ?f__law_turned ?f__law_turns ?f__law_well ?f__law_word_right ?f_all_turns ?f_check_letter ?f_check_rooted ?f_check_size ?f_check_word ?f_divisors_of ?f_is_between ?f_is_letter ?f_is_text_of ?f_is_whole ?f_is_word_of ?f_is_worded ?f_law ?f_letter_count ?f_letters_of ?f_root ?f_root_by ?f_turned ?f_turned_by ?f_turns_of ?f_unlike_turns ?g_LETTERS ?g_LONGEST ?g_MOST_LETTERS ?k_DoesNotFit ?k_InvalidSize ?k_InvalidWord
    (case b_abs => k_is)
    (case b_all => k_is)
    (case b_bool => k_is)
    (case b_dict => k_is)
    (case b_divmod => k_is)
    (case b_enumerate => k_is)
    (case b_int => k_is)
    (case b_isinstance => k_is)
    (case b_len => k_is)
    (case b_list => k_is)
    (case b_max => k_is)
    (case b_min => k_is)
    (case b_range => k_is)
    (case b_sorted => k_is)
    (case b_str => k_is)
    (case b_sum => k_is)
    (case b_tuple => k_is)
    (case n_InvalidSize => refine' Mr.n_in ?zz; (case zz => k_is))
    (case p_InvalidWord_InvalidSize => refine' Mr.pairIn_of (b := false) ?h1 ?h2 ?h3 ?h4 ?h5 ?h6 ?h7; (case h1 => k_is); (case h2 => k_is); (case h3 => k_is); (case h4 => k_is); (case h5 => k_is); (case h6 => first | rfl | k_is); (case h7 => decide))
    (case p_InvalidSize_InvalidSize => refine' Mr.pairIn_of (b := true) ?h1 ?h2 ?h3 ?h4 ?h5 ?h6 ?h7; (case h1 => k_is); (case h2 => k_is); (case h3 => k_is); (case h4 => k_is); (case h5 => k_is); (case h6 => first | rfl | k_is); (case h7 => decide))
    (case p_DoesNotFit_InvalidSize => refine' Mr.pairIn_of (b := false) ?h1 ?h2 ?h3 ?h4 ?h5 ?h6 ?h7; (case h1 => k_is); (case h2 => k_is); (case h3 => k_is); (case h4 => k_is); (case h5 => k_is); (case h6 => first | rfl | k_is); (case h7 => decide))
    (case n_InvalidWord => refine' Mr.n_in ?zz; (case zz => k_is))
    (case p_InvalidWord_InvalidWord => refine' Mr.pairIn_of (b := true) ?h1 ?h2 ?h3 ?h4 ?h5 ?h6 ?h7; (case h1 => k_is); (case h2 => k_is); (case h3 => k_is); (case h4 => k_is); (case h5 => k_is); (case h6 => first | rfl | k_is); (case h7 => decide))
    (case p_InvalidSize_InvalidWord => refine' Mr.pairIn_of (b := false) ?h1 ?h2 ?h3 ?h4 ?h5 ?h6 ?h7; (case h1 => k_is); (case h2 => k_is); (case h3 => k_is); (case h4 => k_is); (case h5 => k_is); (case h6 => first | rfl | k_is); (case h7 => decide))
    (case p_DoesNotFit_InvalidWord => refine' Mr.pairIn_of (b := false) ?h1 ?h2 ?h3 ?h4 ?h5 ?h6 ?h7; (case h1 => k_is); (case h2 => k_is); (case h3 => k_is); (case h4 => k_is); (case h5 => k_is); (case h6 => first | rfl | k_is); (case h7 => decide))
    (case n_WordError => refine' Mr.n_in ?zz; (case zz => k_is))
    (case p_InvalidWord_WordError => refine' Mr.pairIn_of (b := true) ?h1 ?h2 ?h3 ?h4 ?h5 ?h6 ?h7; (case h1 => k_is); (case h2 => k_is); (case h3 => k_is); (case h4 => k_is); (case h5 => k_is); (case h6 => first | rfl | k_is); (case h7 => decide))
    (case p_InvalidSize_WordError => refine' Mr.pairIn_of (b := true) ?h1 ?h2 ?h3 ?h4 ?h5 ?h6 ?h7; (case h1 => k_is); (case h2 => k_is); (case h3 => k_is); (case h4 => k_is); (case h5 => k_is); (case h6 => first | rfl | k_is); (case h7 => decide))
    (case p_DoesNotFit_WordError => refine' Mr.pairIn_of (b := true) ?h1 ?h2 ?h3 ?h4 ?h5 ?h6 ?h7; (case h1 => k_is); (case h2 => k_is); (case h3 => k_is); (case h4 => k_is); (case h5 => k_is); (case h6 => first | rfl | k_is); (case h7 => decide))
    (case e_DoesNotFit => refine' Mr.EG.in_of ⟨14, 17, 14, 21⟩ ⟨14, 23, 14, 28⟩ ⟨15, 8, 15, 12⟩ ⟨15, 8, 15, 18⟩ ⟨15, 21, 15, 26⟩ ⟨15, 8, 15, 26⟩ ?h1 ?h2 ?h3 ?h4 ?h5 ?h6 ?h7 ?h8 ?h9 ?h10 ?h11 ?h12 ?h13 ?h14 ?h15; (case h1 => k_is); (case h2 => k_is); (case h3 => decide +kernel); (case h4 => k_is); (case h5 => k_is); (case h6 => k_is); (case h7 => k_is); (case h8 => k_is); (case h9 => k_is); (case h10 => k_is); (case h11 => k_is); (case h12 => k_is); (case h13 => k_is); (case h14 => k_is); (case h15 => k_is))
    (case e_InvalidSize => refine' Mr.EG.in_of ⟨10, 17, 10, 21⟩ ⟨10, 23, 10, 28⟩ ⟨11, 8, 11, 12⟩ ⟨11, 8, 11, 18⟩ ⟨11, 21, 11, 26⟩ ⟨11, 8, 11, 26⟩ ?h1 ?h2 ?h3 ?h4 ?h5 ?h6 ?h7 ?h8 ?h9 ?h10 ?h11 ?h12 ?h13 ?h14 ?h15; (case h1 => k_is); (case h2 => k_is); (case h3 => decide +kernel); (case h4 => k_is); (case h5 => k_is); (case h6 => k_is); (case h7 => k_is); (case h8 => k_is); (case h9 => k_is); (case h10 => k_is); (case h11 => k_is); (case h12 => k_is); (case h13 => k_is); (case h14 => k_is); (case h15 => k_is))
    (case e_InvalidWord => refine' Mr.EG.in_of ⟨6, 17, 6, 21⟩ ⟨6, 23, 6, 28⟩ ⟨7, 8, 7, 12⟩ ⟨7, 8, 7, 18⟩ ⟨7, 21, 7, 26⟩ ⟨7, 8, 7, 26⟩ ?h1 ?h2 ?h3 ?h4 ?h5 ?h6 ?h7 ?h8 ?h9 ?h10 ?h11 ?h12 ?h13 ?h14 ?h15; (case h1 => k_is); (case h2 => k_is); (case h3 => decide +kernel); (case h4 => k_is); (case h5 => k_is); (case h6 => k_is); (case h7 => k_is); (case h8 => k_is); (case h9 => k_is); (case h10 => k_is); (case h11 => k_is); (case h12 => k_is); (case h13 => k_is); (case h14 => k_is); (case h15 => k_is))
    (case f__law_bent_word => refine' Mr.fn_in ?a ?l ?c ?k; (case a => k_is); (case l => k_is); (case c => k_is); (case k => k_is))
    (case f__law_drawn_word => refine' Mr.fn_in ?a ?l ?c ?k; (case a => k_is); (case l => k_is); (case c => k_is); (case k => k_is))
    (case f__law_is => refine' Mr.fn_in ?a ?l ?c ?k; (case a => k_is); (case l => k_is); (case c => k_is); (case k => k_is))
    (case f__law_is_word => refine' Mr.fn_in ?a ?l ?c ?k; (case a => k_is); (case l => k_is); (case c => k_is); (case k => k_is))
    (case f__law_pick => refine' Mr.fn_in ?a ?l ?c ?k; (case a => k_is); (case l => k_is); (case c => k_is); (case k => k_is))
    (case f__law_refused_right => refine' Mr.fn_in ?a ?l ?c ?k; (case a => k_is); (case l => k_is); (case c => k_is); (case k => k_is))
    (case f__law_right => refine' Mr.fn_in ?a ?l ?c ?k; (case a => k_is); (case l => k_is); (case c => k_is); (case k => k_is))
    (case f__law_root => refine' Mr.fn_in ?a ?l ?c ?k; (case a => k_is); (case l => k_is); (case c => k_is); (case k => k_is))
    (case f__law_take => refine' Mr.fn_in ?a ?l ?c ?k; (case a => k_is); (case l => k_is); (case c => k_is); (case k => k_is))
    (case f__law_turned => refine' Mr.fn_in ?a ?l ?c ?k; (case a => k_is); (case l => k_is); (case c => k_is); (case k => k_is))
    (case f__law_turns => refine' Mr.fn_in ?a ?l ?c ?k; (case a => k_is); (case l => k_is); (case c => k_is); (case k => k_is))
    (case f__law_well => refine' Mr.fn_in ?a ?l ?c ?k; (case a => k_is); (case l => k_is); (case c => k_is); (case k => k_is))
    (case f__law_word_right => refine' Mr.fn_in ?a ?l ?c ?k; (case a => k_is); (case l => k_is); (case c => k_is); (case k => k_is))
    (case f_all_turns => refine' Mr.fn_in ?a ?l ?c ?k; (case a => k_is); (case l => k_is); (case c => k_is); (case k => k_is))
    (case f_check_letter => refine' Mr.fn_in ?a ?l ?c ?k; (case a => k_is); (case l => k_is); (case c => k_is); (case k => k_is))
    (case f_check_rooted => refine' Mr.fn_in ?a ?l ?c ?k; (case a => k_is); (case l => k_is); (case c => k_is); (case k => k_is))
    (case f_check_size => refine' Mr.fn_in ?a ?l ?c ?k; (case a => k_is); (case l => k_is); (case c => k_is); (case k => k_is))
    (case f_check_word => refine' Mr.fn_in ?a ?l ?c ?k; (case a => k_is); (case l => k_is); (case c => k_is); (case k => k_is))
    (case f_divisors_of => refine' Mr.fn_in ?a ?l ?c ?k; (case a => k_is); (case l => k_is); (case c => k_is); (case k => k_is))
    (case f_is_between => refine' Mr.fn_in ?a ?l ?c ?k; (case a => k_is); (case l => k_is); (case c => k_is); (case k => k_is))
    (case f_is_letter => refine' Mr.fn_in ?a ?l ?c ?k; (case a => k_is); (case l => k_is); (case c => k_is); (case k => k_is))
    (case f_is_text_of => refine' Mr.fn_in ?a ?l ?c ?k; (case a => k_is); (case l => k_is); (case c => k_is); (case k => k_is))
    (case f_is_whole => refine' Mr.fn_in ?a ?l ?c ?k; (case a => k_is); (case l => k_is); (case c => k_is); (case k => k_is))
    (case f_is_word_of => refine' Mr.fn_in ?a ?l ?c ?k; (case a => k_is); (case l => k_is); (case c => k_is); (case k => k_is))
    (case f_is_worded => refine' Mr.fn_in ?a ?l ?c ?k; (case a => k_is); (case l => k_is); (case c => k_is); (case k => k_is))
    (case f_law => refine' Mr.fn_in ?a ?l ?c ?k; (case a => k_is); (case l => k_is); (case c => k_is); (case k => k_is))
    (case f_letter_count => refine' Mr.fn_in ?a ?l ?c ?k; (case a => k_is); (case l => k_is); (case c => k_is); (case k => k_is))
    (case f_letters_of => refine' Mr.fn_in ?a ?l ?c ?k; (case a => k_is); (case l => k_is); (case c => k_is); (case k => k_is))
    (case f_root => refine' Mr.fn_in ?a ?l ?c ?k; (case a => k_is); (case l => k_is); (case c => k_is); (case k => k_is))
    (case f_root_by => refine' Mr.fn_in ?a ?l ?c ?k; (case a => k_is); (case l => k_is); (case c => k_is); (case k => k_is))
    (case f_turned => refine' Mr.fn_in ?a ?l ?c ?k; (case a => k_is); (case l => k_is); (case c => k_is); (case k => k_is))
    (case f_turned_by => refine' Mr.fn_in ?a ?l ?c ?k; (case a => k_is); (case l => k_is); (case c => k_is); (case k => k_is))
    (case f_turns_of => refine' Mr.fn_in ?a ?l ?c ?k; (case a => k_is); (case l => k_is); (case c => k_is); (case k => k_is))
    (case f_unlike_turns => refine' Mr.fn_in ?a ?l ?c ?k; (case a => k_is); (case l => k_is); (case c => k_is); (case k => k_is))
    (case g_LETTERS => refine' Mr.gs_in ?zz; (case zz => k_is))
    (case g_LONGEST => refine' Mr.gi_in ?zz; (case zz => k_is))
    (case g_MOST_LETTERS => refine' Mr.gi_in ?zz; (case zz => k_is))
    (case k_DoesNotFit => refine' Mr.clsIn_of ?h1 ?h2 ?h3 ?h4 ?h5 ?h6 ?h7 ?h8 ?h9; (case h1 => k_is); (case h2 => k_is); (case h3 => k_is); (case h4 => k_is); (case h5 => k_is); (case h6 => k_is); (case h7 => k_is); (case h8 => k_is); (case h9 => k_is))
    (case k_InvalidSize => refine' Mr.clsIn_of ?h1 ?h2 ?h3 ?h4 ?h5 ?h6 ?h7 ?h8 ?h9; (case h1 => k_is); (case h2 => k_is); (case h3 => k_is); (case h4 => k_is); (case h5 => k_is); (case h6 => k_is); (case h7 => k_is); (case h8 => k_is); (case h9 => k_is))
    (case k_InvalidWord => refine' Mr.clsIn_of ?h1 ?h2 ?h3 ?h4 ?h5 ?h6 ?h7 ?h8 ?h9; (case h1 => k_is); (case h2 => k_is); (case h3 => k_is); (case h4 => k_is); (case h5 => k_is); (case h6 => k_is); (case h7 => k_is); (case h8 => k_is); (case h9 => k_is))

import PyProof.Rows.All
import Wide.All
import OpenK.AllK
import Wide.FinOn
import HandS.ForMost
import HandS.ForExc
import HandS.EndBits
import HandS.Flow
import HandS.TryOnly
import HandS.TryMany
import HandS.DictComp
import HandS.SetKeys
import HandS.Strs
import HandS.StrMore
import HandS.StrSplit
import HandS.Conv
import HandS.Codes
import HandS.IsInst
import HandS.TupAny
import HandS.TupMul
import HandS.Defaults
import HandS.ExcInit
import HandS.WideBits
import KE.DataEq
import KE.SortData
import KE.LtData
import HandS.Style
import PyProof.ListStr
import PyProof.TupleOfStr
import PyProof.Rows.SortWalk
import PyProof.Rows.RegReprOcc
import HandS.ExcIs
import KE.GoesEnum
import KE.GoesMore
import PyProof.Rows.StrRev
import KE.DataMinMax
import HandS.Deep
import HandS.Replace
import PyProof.CollectStr
import PyProof.WalkInts
import KE.DataFind
import HandS.Sort
import HandS.Zip
import HandS.Star
import HandS.Set
import HandS.SetFor
import HandS.Gcd
import KE.KMathGC
import PySem.Challenge.RW_leastwords_k44_what_comes_by_shuffling
set_option Elab.async false
set_option linter.all false
set_option maxRecDepth 100000
set_option maxHeartbeats 4000000
set_option autoImplicit false
/-! Mr: values without addresses, states, results, operations: what the given program computes, told by plain functions. -/
namespace Mr
noncomputable section
inductive PV where
  | non | bl (b : Bool) | int (i : Int) | str (l : List Nat)
  | tup (l : List PV) | lst (l : List PV)
  | dct (t : Bool) (ks vs : List PV) | set (l : List PV)
  | scr (l : List PV) | obj (i : Nat) | fn (n : String) | clo (n : Nat) (l : List PV) | ty (n : String)
  deriving Inhabited
/-- a thing that changes -/
inductive PO where
  | lst (l : List PV) | dct (t : Bool) (ks vs : List PV) | ins (c : String) (fs : List (String × PV))
structure MS where
  n : Nat
  m : Nat → Option PO
inductive Res (α : Type) where
  | ok (a : α) (s : MS)
  | exc (c : String) (v : PV) (s : MS)
  | stuck
abbrev Env := List (Option PV)
abbrev EX := Env → MS → Res PV
abbrev ET := Env → MS → Res Bool
abbrev FN := List PV → MS → Res PV
inductive SRes where
  | nx (e : Env) (s : MS) | rt (v : PV) (s : MS) | bk (e : Env) (s : MS) | ct (e : Env) (s : MS)
  | ex (c : String) (v : PV) (e : Env) (s : MS) | stuck
abbrev SX := Env → MS → SRes
def Res.bind {α β : Type} (r : Res α) (k : α → MS → Res β) : Res β := match r with
  | .ok a s => k a s
  | .exc c v s => .exc c v s
  | .stuck => .stuck
@[simp] theorem bind_ok {α β : Type} (a : α) (s : MS) (k : α → MS → Res β) : (Res.ok a s).bind k = k a s := rfl
@[simp] theorem bind_exc {α β : Type} (c : String) (v : PV) (s : MS) (k : α → MS → Res β) : (Res.exc c v s : Res α).bind k = .exc c v s := rfl
@[simp] theorem bind_stuck {α β : Type} (k : α → MS → Res β) : (Res.stuck : Res α).bind k = .stuck := rfl
def Res.sbind {α : Type} (r : Res α) (e : Env) (k : α → MS → SRes) : SRes := match r with
  | .ok a s => k a s
  | .exc c v s => .ex c v e s
  | .stuck => .stuck
@[simp] theorem sbind_ok {α : Type} (a : α) (s : MS) (e : Env) (k : α → MS → SRes) : (Res.ok a s).sbind e k = k a s := rfl
@[simp] theorem sbind_exc {α : Type} (c : String) (v : PV) (s : MS) (e : Env) (k : α → MS → SRes) : (Res.exc c v s : Res α).sbind e k = .ex c v e s := rfl
@[simp] theorem sbind_stuck {α : Type} (e : Env) (k : α → MS → SRes) : (Res.stuck : Res α).sbind e k = .stuck := rfl
def ofO {α : Type} : Option α → MS → Res α
  | some v, s => .ok v s
  | none, _ => .stuck
@[simp] theorem ofO_some {α : Type} (v : α) (s : MS) : ofO (some v) s = .ok v s := rfl
@[simp] theorem ofO_none {α : Type} (s : MS) : (ofO none s : Res α) = .stuck := rfl
/-- the longest list or text; told by its equation alone, so that nothing counts up to it -/
def LIM : Nat := Classical.choose (⟨16777216, rfl⟩ : ∃ n : Nat, n = 16777216)
theorem LIM_eq : LIM = 16777216 := Classical.choose_spec (⟨16777216, rfl⟩ : ∃ n : Nat, n = 16777216)
/-- what is read where a value stands -/
def deref (s : MS) : PV → PV
  | .obj i => match s.m i with
    | some (.lst l) => .lst l
    | some (.dct t ks vs) => .dct t ks vs
    | _ => .obj i
  | v => v
/-! ### operations -/
def truth : PV → Option Bool
  | .non => some false
  | .bl b => some b
  | .int i => some (i != 0)
  | .str l => if l.length ≤ LIM then some (!l.isEmpty) else none
  | .tup l => some (!l.isEmpty)
  | .lst l => some (!l.isEmpty)
  | _ => none
/-- between -2^k and 2^k, sealed -/
def fits (k : Nat) : Int → Bool := Classical.choose (⟨fun i => decide (-(2 ^ k) < i) && decide (i < 2 ^ k), rfl⟩ : ∃ f : Int → Bool, f = fun i => decide (-(2 ^ k) < i) && decide (i < 2 ^ k))
theorem fits_iff {k : Nat} {i : Int} : fits k i = true ↔ -(2 ^ k) < i ∧ i < 2 ^ k := by
  have h : fits k = _ := Classical.choose_spec (⟨fun i => decide (-(2 ^ k) < i) && decide (i < 2 ^ k), rfl⟩ : ∃ f : Int → Bool, f = fun i => decide (-(2 ^ k) < i) && decide (i < 2 ^ k))
  rw [h, Bool.and_eq_true, decide_eq_true_eq, decide_eq_true_eq]
def small (i : Int) : Bool := fits 64 i
def pAdd : PV → PV → Option PV
  | .int i, .int j => some (.int (i + j))
  | .str a, .str b => if a.length + b.length ≤ LIM then some (.str (a ++ b)) else none
  | .tup a, .tup b => if a.length + b.length ≤ LIM then some (.tup (a ++ b)) else none
  | .lst a, .lst b => if a.length + b.length ≤ LIM then some (.lst (a ++ b)) else none
  | _, _ => none
def pSub : PV → PV → Option PV
  | .int i, .int j => some (.int (i - j))
  | _, _ => none
def pMul : PV → PV → Option PV
  | .int i, .int j => if small i || small j then some (.int (i * j)) else none
  | .str a, .int k => if a.length * k.toNat ≤ LIM ∧ fits 62 k = true then some (.str (List.replicate k.toNat a).flatten) else none
  | .lst a, .int k => if a.length * k.toNat ≤ LIM ∧ fits 62 k = true then some (.lst (List.replicate k.toNat a).flatten) else none
  | _, _ => none
def pFdiv : PV → PV → Option PV
  | .int i, .int j => if 0 < j ∧ fits 30 j = true then some (.int (i / j)) else none
  | _, _ => none
def pMod : PV → PV → Option PV
  | .int i, .int j => if 0 < j then some (.int (i % j)) else none
  | _, _ => none
def pPow : PV → PV → Option PV
  | .int i, .int j => if 0 ≤ j ∧ fits 19 j = true ∧ fits 64 i = true then some (.int (i ^ j.toNat)) else none
  | _, _ => none
def pNeg : PV → Option PV
  | .int i => some (.int (-i))
  | _ => none
/-! data -/
mutual
def isD : PV → Bool
  | .non | .bl _ | .int _ | .str _ => true
  | .tup l | .lst l => isDs l
  | _ => false
def isDs : List PV → Bool
  | [] => true
  | x :: xs => isD x && isDs xs
end
mutual
def dep : PV → Nat
  | .tup l | .lst l => deps l + 1
  | _ => 0
def deps : List PV → Nat
  | [] => 0
  | x :: xs => max (dep x) (deps xs)
end
mutual
/-- == of data: bools are the ints 0 and 1 -/
def eqB : PV → PV → Bool
  | .non, .non => true
  | .bl a, .bl b => a == b
  | .bl a, .int b => (if a then 1 else 0) == b
  | .int a, .bl b => a == (if b then 1 else 0)
  | .int a, .int b => a == b
  | .str a, .str b => a == b
  | .tup a, .tup b => eqBs a b
  | .lst a, .lst b => eqBs a b
  | _, _ => false
def eqBs : List PV → List PV → Bool
  | [], [] => true
  | x :: xs, y :: ys => eqB x y && eqBs xs ys
  | _, _ => false
end
def pEq (x y : PV) : Option Bool := if isD x && isD y && decide (min (dep x) (dep y) ≤ 64) then some (eqB x y) else none
def pNe (x y : PV) : Option Bool := (pEq x y).map (!·)
mutual
/-- data that can be compared, place by place -/
def alikeB : PV → PV → Bool
  | .non, .non => true
  | .bl _, .bl _ => true
  | .int _, .int _ => true
  | .str _, .str _ => true
  | .tup a, .tup b => alikeBs a b
  | .lst a, .lst b => alikeBs a b
  | _, _ => false
def alikeBs : List PV → List PV → Bool
  | x :: xs, y :: ys => alikeB x y && alikeBs xs ys
  | [], _ => true
  | _ :: _, [] => true
end
mutual
def ltB : PV → PV → Bool
  | .bl a, .bl b => !a && b
  | .int a, .int b => decide (a < b)
  | .str a, .str b => decide (a < b)
  | .tup a, .tup b => ltBs a b
  | .lst a, .lst b => ltBs a b
  | _, _ => false
def ltBs : List PV → List PV → Bool
  | [], [] => false
  | [], _ :: _ => true
  | _ :: _, [] => false
  | x :: xs, y :: ys => if eqB x y then ltBs xs ys else ltB x y
end
def pLt : PV → PV → Option Bool
  | .int a, .int b => some (decide (a < b))
  | .str a, .str b => some (decide (a < b))
  | .tup a, .tup b => if isDs a && isDs b && alikeBs a b && decide (min (deps a) (deps b) ≤ 60) then some (ltBs a b) else none
  | _, _ => none
def qLt : PV → PV → Option Bool
  | .int a, .int b => some (decide (a < b))
  | .str a, .str b => some (decide (a < b))
  | _, _ => none
def pGt (x y : PV) : Option Bool := qLt y x
def pLe (x y : PV) : Option Bool := (qLt y x).map (!·)
def pGe (x y : PV) : Option Bool := (qLt x y).map (!·)
def isNon : PV → Bool
  | .non => true
  | _ => false
def isBl (c : Bool) : PV → Bool
  | .bl a => a == c
  | _ => false
/-- is: None, and the bools -/
def pIs (x : PV) : PV → Option Bool
  | .non => some (isNon x)
  | .bl b => some (isBl b x)
  | _ => none
def pIsN (x y : PV) : Option Bool := (pIs x y).map (!·)
/-- a text within another one -/
def isIn (a : List Nat) : List Nat → Bool
  | [] => a.isEmpty
  | x :: xs => a.isPrefixOf (x :: xs) || isIn a xs
def seqOf : PV → Option (List PV)
  | .tup l | .lst l | .scr l => some l
  | _ => none
def pIn (x y : PV) : Option Bool := match y with
  | .str b => match x with
    | .str [c] => some (b.contains c)
    | .str a => some (isIn a b)
    | _ => none
  | .tup l | .lst l => if isD x && isDs l && decide (min (deps l) (dep x) ≤ 64) then some (l.any fun y => eqB y x) else none
  | _ => none
def pNin (x y : PV) : Option Bool := (pIn x y).map (!·)
/-! places -/
def sIx (n d : Nat) : Option Int → Nat
  | none => d
  | some v => if v < 0 then (v + (n : Int)).toNat else min v.toNat n
def cutL {α : Type} (xs : List α) (lo hi : Option Int) : List α := (xs.drop (sIx xs.length 0 lo)).take (sIx xs.length xs.length hi - sIx xs.length 0 lo)
def ixL (n : Nat) (i : Int) : Option Nat := if 0 ≤ i then (if i < n then some i.toNat else none) else if -(n : Int) ≤ i then some (i + n).toNat else none
def atL {α : Type} (xs : List α) (i : Int) : Option α := (ixL xs.length i).bind fun j => xs[j]?
def aeq : PV → PV → Bool
  | .int i, .int j => i == j
  | .str a, .str b => a == b
  | _, _ => false
def aeqs : List PV → List PV → Bool
  | [], [] => true
  | x :: xs, y :: ys => aeq x y && aeqs xs ys
  | _, _ => false
def keq : PV → PV → Bool
  | .tup a, .tup b => aeqs a b
  | x, y => aeq x y
def isAt : PV → Bool
  | .int _ | .str _ => true
  | _ => false
/-- what may be a key of a dict of that kind -/
def isKey (t : Bool) : PV → Bool
  | .int _ | .str _ => !t
  | .tup l => t && l.all isAt
  | _ => false
def dget : List PV → List PV → PV → Option PV
  | k :: ks, v :: vs, x => if keq k x then some v else dget ks vs x
  | _, _, _ => none
def dset : List PV → List PV → PV → PV → List PV
  | k :: ks, v :: vs, x, y => (if keq k x = true then y else v) :: dset ks vs x y
  | _, _, _, _ => []
def dput (ks vs : List PV) (x y : PV) : List PV × List PV := if (ks.any fun k => keq k x) = true then (ks, dset ks vs x y) else (ks ++ [x], vs ++ [y])
def pIx (x y : PV) : Option PV := match x, y with
  | .tup l, .int i => atL l i
  | .lst l, .int i => atL l i
  | .scr l, .int i => atL l i
  | .str l, .int i => if l.length ≤ LIM then (atL l i).map (fun c => .str [c]) else none
  | .dct t ks vs, k => if isKey t k then dget ks vs k else none
  | _, _ => none
def pCut (x : PV) (lo hi : Option Int) : Option PV := match x with
  | .str l => if l.length ≤ LIM then some (.str (cutL l lo hi)) else none
  | .tup l => some (.tup (cutL l lo hi))
  | .lst l => some (.lst (cutL l lo hi))
  | .scr l => some (.lst (cutL l lo hi))
  | _ => none
def pRev (x : PV) : Option PV := match x with
  | .str l => if l.length ≤ LIM then some (.str l.reverse) else none
  | .lst l => some (.lst l.reverse)
  | .tup l => some (.tup l.reverse)
  | _ => none
/-! built-in functions -/
def tyOf : PV → Option String
  | .non => some "NoneType" | .bl _ => some "bool" | .int _ => some "int" | .str _ => some "str"
  | .tup _ => some "tuple" | .lst _ => some "list" | .dct false _ _ => some "dict"
  | _ => none
def isSub (t c : String) : Bool := t == c || (t == "bool" && c == "int")
def tyNames : List PV → Option (List String)
  | [] => some []
  | .ty n :: r => (tyNames r).map (n :: ·)
  | _ => none
def kinds : List String := ["bool", "int", "str", "tuple", "list", "dict"]
def bIsi : List PV → Option PV
  | [x, .ty c] => (tyOf x).bind fun t => if kinds.contains c then some (.bl (isSub t c)) else none
  | _ => none
def bLen : List PV → Option PV
  | [.str l] => if l.length ≤ LIM then some (.int l.length) else none
  | [.dct false ks _] => some (.int ks.length)
  | [x] => (seqOf x).map fun l => .int l.length
  | _ => none
def allBl : List PV → Option (List Bool)
  | [] => some []
  | .bl b :: r => (allBl r).map (b :: ·)
  | _ => none
def allInt : List PV → Option (List Int)
  | [] => some []
  | .int b :: r => (allInt r).map (b :: ·)
  | _ => none
def allStr : List PV → Option (List (List Nat))
  | [] => some []
  | .str b :: r => (allStr r).map (b :: ·)
  | _ => none
def bAll : List PV → Option PV
  | [.lst l] => (allBl l).map fun bs => .bl (bs.all id)
  | _ => none
def bAny : List PV → Option PV
  | [.lst l] => (allBl l).map fun bs => .bl (bs.any id)
  | _ => none
def bSum : List PV → Option PV
  | [.lst l] => (allInt l).map fun ns => .int ns.sum
  | _ => none
def bAbs : List PV → Option PV
  | [.int i] => some (.int (if i < 0 then -i else i))
  | _ => none
def bInt : List PV → Option PV
  | [.int i] => some (.int i)
  | [.bl b] => some (.int (if b then 1 else 0))
  | _ => none
/-- min, max of two -/
def bMin2 : List PV → Option PV
  | [.int i, .int j] => some (.int (if j < i then j else i))
  | _ => none
def bMax2 : List PV → Option PV
  | [.int i, .int j] => some (.int (if j > i then j else i))
  | _ => none
def bTuple : List PV → Option PV
  | [.tup l] => some (.tup l)
  | [.lst l] => some (.tup l)
  | [.str l] => if l.length ≤ LIM then some (.tup (l.map fun c => .str [c])) else none
  | _ => none
def bList : List PV → Option PV
  | [.tup l] => some (.lst l)
  | [.lst l] => some (.lst l)
  | [.str l] => if l.length ≤ LIM then some (.lst (l.map fun c => .str [c])) else none
  | [.dct false ks _] => some (.lst ks)
  | _ => none
def bDivmod : List PV → Option PV
  | [.int i, .int j] => if 0 < j ∧ fits 30 j = true then some (.tup [.int (i / j), .int (i % j)]) else none
  | _ => none
def leV (x y : PV) : Bool := !ltB y x
def isTupC : PV → Bool
  | .tup (_ :: _) => true
  | _ => false
def isTup : PV → Bool
  | .tup _ => true
  | _ => false
/-- what can be sorted -/
def sortable (l : List PV) : Bool := isDs l && (l.all fun x => l.all fun y => alikeB x y) && ((l.all isTupC) || (l.all fun x => !isNon x && !isTup x)) && decide (deps l ≤ 60) && decide (l.length ≤ LIM)
def sortV (l : List PV) : List PV := l.mergeSort leV
def bSorted : List PV → Option PV
  | [.lst l] => if sortable l then some (.lst (sortV l)) else none
  | [.dct false ks _] => if sortable ks && decide (ks.length < 64) && ks.all (fun k => match k with | .str _ => true | _ => false) then some (.lst (sortV ks)) else none
  | _ => none
def joinL (S : List Nat) : List (List Nat) → List Nat
  | [] => []
  | [p] => p
  | p :: q :: r => p ++ (S ++ joinL S (q :: r))
def mJoin : PV → List PV → Option PV
  | .str a, [.lst l] | .str a, [.tup l] => (allStr l).bind fun ss => if (ss.map (·.length)).sum + ss.length * a.length ≤ LIM then some (.str (joinL a ss)) else none
  | _, _ => none
def mCount : PV → List PV → Option PV
  | .str a, [.str [c]] => some (.int (a.count c))
  | _, _ => none
end
end Mr
/-! how the plain values lie in the machine's heap -/
namespace Mr
noncomputable section
open PySem PySem.Spec PyProof.Rows L2
theorem sizeLIM : LIM = sizeLine := by rw [LIM_eq, sizeLine_eq]
theorem toSz {n : Nat} (h : n ≤ LIM) : n ≤ sizeLine := by rw [sizeLIM] at h; exact h
structure G where
  H : Hp
  Z : Addr → Prop
  ρ : Nat → Addr
  s : MS
def pvKey : Key → PV
  | .inl i => .int i
  | .inr x => .str x.cps.toList
abbrev MG := Str → Option Value
def DkF (R : HO → Prop) (P : List V → Prop) (t : Bool) (ks : List PV) : Prop :=
  (t = false ∧ ∃ kvs : List (Key × V), R (.dK kvs) ∧ ks = kvs.map (fun p => pvKey p.1) ∧ P (kvs.map (·.2))) ∨
  (t = true ∧ ∃ kvs : List (List Key × V), R (.dT kvs) ∧ ks = kvs.map (fun p => PV.tup (p.1.map pvKey)) ∧ P (kvs.map (·.2)))
section
variable (K : PySem.W.Frag) (mg : MG)
def ScrP (g : G) (a : Addr) (vs : List V) : Prop := (∃ o, g.H a = some (.frz o (.lst vs))) ∨
  ∃ (o : Obj) (its : Array Value) (n : Nat), K.lookup a = some o ∧ o.cls = .type "list" ∧ o.dict = none ∧ o.data = .seq its n ∧ its.size ≤ sizeLine ∧ Vals vs its.toList
mutual
def RelP (g : G) : PV → V → Prop
  | .non, v => v = .non
  | .bl b, v => v = .bl b
  | .int i, v => v = .int i
  | .str l, v => v = .str ⟨l.toArray⟩
  | .tup l, v => ∃ a vs, v = .ref a ∧ g.H a = some (.tup vs) ∧ RelPs g l vs
  | .lst l, v => ∃ a vs, v = .ref a ∧ (g.H a = some (.lst vs) ∧ g.Z a) ∧ RelPs g l vs
  | .scr l, v => ∃ a vs, v = .ref a ∧ ScrP K g a vs ∧ RelPs g l vs
  | .dct t ks vs, v => ∃ a, v = .ref a ∧ DkF (fun u => ∃ o, g.H a = some (.frz o u)) (RelPs g vs) t ks
  | .obj i, v => i < g.s.n ∧ v = .ref (g.ρ i)
  | .fn n, v => ∃ f, v = .ref f ∧ mg (Str.ofString n) = some (.ref f)
  | .ty n, v => v = .ty n
  | .set l, v => ∃ i j a, l = [.int i, .int j] ∧ v = .ref a ∧ g.H a = some (.rng i j)
  | .clo _ _, _ => False
def RelPs (g : G) : List PV → List V → Prop
  | [], vs => vs = []
  | p :: ps, vs => ∃ v r, vs = v :: r ∧ RelP g p v ∧ RelPs g ps r
end
/-- as it is read -/
def RelD (g : G) : PV → V → Prop
  | .lst l, v => ∃ a vs, v = .ref a ∧ g.H a = some (.lst vs) ∧ RelPs K mg g l vs
  | .dct t ks vs, v => ∃ a, v = .ref a ∧ DkF (fun u => Rd g.H a u) (RelPs K mg g vs) t ks
  | p, v => RelP K mg g p v
def RelO (g : G) : PO → Addr → Prop
  | .lst l, a => ∃ vs, g.H a = some (.lst vs) ∧ RelPs K mg g l vs
  | .dct t ks vs, a => DkF (fun u => g.H a = some u) (RelPs K mg g vs) t ks
  | .ins c fs, a => ∃ C dx fv, g.H a = some (.ins C dx fv) ∧ mg (Str.ofString c) = some (.ref C) ∧ fv.map (·.1) = fs.map (fun p => Str.ofString p.1) ∧ RelPs K mg g (fs.map (·.2)) (fv.map (·.2))
structure G.Ok (g : G) : Prop where
  wf : ∀ i, g.s.n ≤ i → g.s.m i = none
  inj : ∀ i j, g.s.m i ≠ none → g.s.m j ≠ none → g.ρ i = g.ρ j → i = j
  out : ∀ i, g.s.m i ≠ none → ¬ g.Z (g.ρ i)
  zd : ∀ a, g.Z a → g.H a ≠ none
  obj : ∀ i o, g.s.m i = some o → RelO K mg g o (g.ρ i)
end
def Live (g : G) (a : Addr) : Prop := ∃ i, g.s.m i ≠ none ∧ g.ρ i = a
structure Ext (g g' : G) : Prop where
  n : g.s.n ≤ g'.s.n
  ρ : ∀ i, i < g.s.n → g'.ρ i = g.ρ i
  Z : ∀ a, g.Z a → g'.Z a
  H : ∀ a o, g.H a = some o → ¬ Live g a → g'.H a = some o
  dom : ∀ a, g.H a ≠ none → g'.H a ≠ none
  zNew : ∀ a, g'.Z a → g.Z a ∨ g.H a = none ∨ Live g a
  mNew : ∀ i, g'.s.m i ≠ none → g.s.m i ≠ none ∨ (g.s.n ≤ i ∧ g.H (g'.ρ i) = none)
section
variable {K : PySem.W.Frag} {mg : MG} {g g' g1 g2 : G}
theorem G.Ok.lt (ok : g.Ok K mg) {i : Nat} (h : g.s.m i ≠ none) : i < g.s.n := by
  rcases Nat.lt_or_ge i g.s.n with q | q
  · exact q
  · exact absurd (ok.wf i q) h
theorem Ext.refl (g : G) : Ext g g := ⟨Nat.le_refl _, fun _ _ => rfl, fun _ h => h, fun _ _ h _ => h, fun _ h => h, fun _ h => .inl h, fun _ h => .inl h⟩
theorem Ext.trans (ok : g.Ok K mg) (ok1 : g1.Ok K mg) (a : Ext g g1) (b : Ext g1 g2) : Ext g g2 := by
  have l1 : ∀ x, g.H x ≠ none → Live g1 x → Live g x := fun x hx ⟨i, hi, e⟩ => by
    rcases a.mNew i hi with q | ⟨_, q⟩
    · exact ⟨i, q, (a.ρ i (ok.lt q)).symm.trans e⟩
    · rw [e] at q; exact absurd q hx
  refine ⟨Nat.le_trans a.n b.n, fun i h => (b.ρ i (Nat.lt_of_lt_of_le h a.n)).trans (a.ρ i h), fun x h => b.Z x (a.Z x h), fun x o h nl => ?_, fun x h => b.dom x (a.dom x h), fun x h => ?_, fun i h => ?_⟩
  · exact b.H x o (a.H x o h nl) fun q => nl (l1 x (by rw [h]; simp) q)
  · rcases b.zNew x h with q | q | q
    · exact a.zNew x q
    · refine .inr (.inl ?_)
      rcases Classical.em (g.H x = none) with z | z
      · exact z
      · exact absurd q (a.dom x z)
    · rcases Classical.em (g.H x = none) with z | z
      · exact .inr (.inl z)
      · exact .inr (.inr (l1 x z q))
  · rcases b.mNew i h with q | ⟨q1, q2⟩
    · rcases a.mNew i q with z | ⟨z1, z2⟩
      · exact .inl z
      · refine .inr ⟨z1, ?_⟩
        rw [b.ρ i (ok1.lt q)]; exact z2
    · refine .inr ⟨Nat.le_trans a.n q1, ?_⟩
      rcases Classical.em (g.H (g2.ρ i) = none) with z | z
      · exact z
      · exact absurd q2 (a.dom _ z)
/-- what kinds stand at live places -/
def Ob : HO → Prop
  | .lst _ => True | .dK _ => True | .dT _ => True | .ins _ _ _ => True | _ => False
theorem G.Ok.kind (ok : g.Ok K mg) {a : Addr} (l : Live g a) : ∃ o, g.H a = some o ∧ Ob o := by
  obtain ⟨i, hi, rfl⟩ := l
  cases e : g.s.m i with
  | none => exact absurd e hi
  | some o =>
    have r := ok.obj i o e
    cases o with
    | lst l => obtain ⟨vs, h, _⟩ := r; exact ⟨_, h, trivial⟩
    | dct t ks vs =>
      rcases r with ⟨_, kvs, h, _⟩ | ⟨_, kvs, h, _⟩
      · exact ⟨_, h, trivial⟩
      · exact ⟨_, h, trivial⟩
    | ins c fs => obtain ⟨C, dx, fv, h, _⟩ := r; exact ⟨_, h, trivial⟩
theorem G.Ok.stay (ok : g.Ok K mg) (x : Ext g g') {a : Addr} {o : HO} (h : g.H a = some o) (hk : ¬ Ob o) : g'.H a = some o :=
  x.H a o h fun l => by
    obtain ⟨u, e, k⟩ := ok.kind l
    rw [h] at e; cases e; exact hk k
theorem G.Ok.stayZ (ok : g.Ok K mg) (x : Ext g g') {a : Addr} {o : HO} (h : g.H a = some o) (hz : g.Z a) : g'.H a = some o :=
  x.H a o h fun ⟨i, hi, e⟩ => ok.out i hi (e ▸ hz)
theorem G.Ok.sqT (ok : g.Ok K mg) (x : Ext g g') {a : Addr} {vs : List V} (h : SqT K g.H a vs) : SqT K g'.H a vs := by
  rcases h with (h | ⟨o, h⟩) | h
  · exact .inl (.inl (ok.stay x h id))
  · exact .inl (.inr ⟨o, ok.stay x h id⟩)
  · exact .inr h
theorem ScrP.sq {a : Addr} {vs : List V} (h : ScrP K g a vs) : SqL K g.H a vs := by
  rcases h with ⟨o, h⟩ | h
  · exact .inl (.inr ⟨o, h⟩)
  · exact .inr h
theorem DkF.mono {R R' : HO → Prop} {P P' : List V → Prop} {t : Bool} {ks : List PV} (h : DkF R P t ks) (hr : ∀ u, R u → R' u) (hp : ∀ l, P l → P' l) : DkF R' P' t ks := by
  rcases h with ⟨e, kvs, a, b, c⟩ | ⟨e, kvs, a, b, c⟩
  · exact .inl ⟨e, kvs, hr _ a, b, hp _ c⟩
  · exact .inr ⟨e, kvs, hr _ a, b, hp _ c⟩
/-- what the plain values lean on stays -/
structure Keeps (g g' : G) : Prop where
  n : g.s.n ≤ g'.s.n
  ρ : ∀ i, i < g.s.n → g'.ρ i = g.ρ i
  tup : ∀ a vs, g.H a = some (.tup vs) → g'.H a = some (.tup vs)
  frz : ∀ a o u, g.H a = some (.frz o u) → g'.H a = some (.frz o u)
  rng : ∀ a i j, g.H a = some (.rng i j) → g'.H a = some (.rng i j)
  lst : ∀ a vs, g.H a = some (.lst vs) → g.Z a → g'.H a = some (.lst vs) ∧ g'.Z a
theorem Ext.keeps (ok : g.Ok K mg) (x : Ext g g') : Keeps g g' :=
  ⟨x.n, x.ρ, fun a vs h => ok.stay x h id, fun a o u h => ok.stay x h id, fun a i j h => ok.stay x h id, fun a vs h z => ⟨ok.stayZ x h z, x.Z a z⟩⟩
mutual
theorem RelP.keep (x : Keeps g g') : ∀ (p : PV) (v : V), RelP K mg g p v → RelP K mg g' p v
  | .non, _, h => by simpa only [RelP] using h
  | .bl _, _, h => by simpa only [RelP] using h
  | .int _, _, h => by simpa only [RelP] using h
  | .str _, _, h => by simpa only [RelP] using h
  | .tup l, v, h => by
    simp only [RelP] at h ⊢
    obtain ⟨a, vs, e, h1, h2⟩ := h
    exact ⟨a, vs, e, x.tup a vs h1, RelPs.keep x l vs h2⟩
  | .lst l, v, h => by
    simp only [RelP] at h ⊢
    obtain ⟨a, vs, e, h1, h2⟩ := h
    refine ⟨a, vs, e, ?_, RelPs.keep x l vs h2⟩
    exact x.lst a vs h1.1 h1.2
  | .scr l, v, h => by
    simp only [RelP] at h ⊢
    obtain ⟨a, vs, e, h1, h2⟩ := h
    refine ⟨a, vs, e, ?_, RelPs.keep x l vs h2⟩
    rcases h1 with ⟨o, h⟩ | h
    · exact .inl ⟨o, x.frz a o _ h⟩
    · exact .inr h
  | .dct t ks vs, v, h => by
    simp only [RelP] at h ⊢
    obtain ⟨a, e, h⟩ := h
    exact ⟨a, e, h.mono (fun u ⟨o, q⟩ => ⟨o, x.frz a o u q⟩) fun l q => RelPs.keep x vs l q⟩
  | .obj i, v, h => by
    simp only [RelP] at h ⊢
    exact ⟨Nat.lt_of_lt_of_le h.1 x.n, by rw [x.ρ i h.1]; exact h.2⟩
  | .fn n, _, h => by simpa only [RelP] using h
  | .ty n, _, h => by simpa only [RelP] using h
  | .set l, v, h => by
    simp only [RelP] at h ⊢
    obtain ⟨i, j, a, e1, e2, h1⟩ := h
    exact ⟨i, j, a, e1, e2, x.rng a i j h1⟩
  | .clo _ _, _, h => by simp only [RelP] at h
theorem RelPs.keep (x : Keeps g g') : ∀ (l : List PV) (vs : List V), RelPs K mg g l vs → RelPs K mg g' l vs
  | [], vs, h => by simpa only [RelPs] using h
  | p :: ps, vs, h => by
    simp only [RelPs] at h ⊢
    obtain ⟨v, r, e, h1, h2⟩ := h
    exact ⟨v, r, e, RelP.keep x p v h1, RelPs.keep x ps r h2⟩
end
theorem RelP.ext (ok : g.Ok K mg) (x : Ext g g') {p : PV} {v : V} (h : RelP K mg g p v) : RelP K mg g' p v := h.keep (x.keeps ok)
theorem RelPs.ext (ok : g.Ok K mg) (x : Ext g g') {l : List PV} {vs : List V} (h : RelPs K mg g l vs) : RelPs K mg g' l vs := h.keep (x.keeps ok)
theorem RelP.d {p : PV} {v : V} (h : RelP K mg g p v) : RelD K mg g p v := by
  cases p with
  | lst l =>
    simp only [RelP] at h
    obtain ⟨a, vs, e, h1, h2⟩ := h
    exact ⟨a, vs, e, h1.1, h2⟩
  | dct t ks vs =>
    simp only [RelP] at h
    obtain ⟨a, e, h⟩ := h
    exact ⟨a, e, h.mono (fun u q => .inr q) fun _ q => q⟩
  | _ => exact h
/-- what is read where a value stands -/
theorem RelP.deref (ok : g.Ok K mg) {p : PV} {v : V} (h : RelP K mg g p v) : RelD K mg g (deref g.s p) v := by
  cases p with
  | obj i =>
    have h0 := h
    simp only [RelP] at h
    obtain ⟨hi, rfl⟩ := h
    cases e : g.s.m i with
    | none =>
      have q : Mr.deref g.s (.obj i) = .obj i := by simp [Mr.deref, e]
      rw [q]; exact h0
    | some o =>
      have r := ok.obj i o e
      cases o with
      | lst l =>
        have q : Mr.deref g.s (.obj i) = .lst l := by simp [Mr.deref, e]
        rw [q]
        obtain ⟨vs, h1, h2⟩ := r
        exact ⟨_, vs, rfl, h1, h2⟩
      | dct t ks vs =>
        have q : Mr.deref g.s (.obj i) = .dct t ks vs := by simp [Mr.deref, e]
        rw [q]
        have r' : DkF (fun u => g.H (g.ρ i) = some u) (RelPs K mg g vs) t ks := r
        exact ⟨_, rfl, DkF.mono r' (fun u q => .inl q) fun _ q => q⟩
      | ins c fs =>
        have q : Mr.deref g.s (.obj i) = .obj i := by simp [Mr.deref, e]
        rw [q]; exact h0
  | _ => exact h.d
theorem RelPs.length : ∀ {l : List PV} {vs : List V}, RelPs K mg g l vs → l.length = vs.length
  | [], vs, h => by simp only [RelPs] at h; subst h; rfl
  | p :: ps, vs, h => by
    simp only [RelPs] at h
    obtain ⟨v, r, rfl, _, h2⟩ := h
    simp [RelPs.length h2]
theorem RelPs.get : ∀ {l : List PV} {vs : List V} {i : Nat} {v : V}, RelPs K mg g l vs → vs[i]? = some v → ∃ p, l[i]? = some p ∧ RelP K mg g p v
  | [], vs, i, v, h, e => by simp only [RelPs] at h; subst h; simp at e
  | p :: ps, vs, i, v, h, e => by
    simp only [RelPs] at h
    obtain ⟨u, r, rfl, h1, h2⟩ := h
    cases i with
    | zero => simp at e; subst e; exact ⟨p, rfl, h1⟩
    | succ j => simpa using RelPs.get h2 (by simpa using e)
theorem RelPs.get' : ∀ {l : List PV} {vs : List V} {i : Nat} {p : PV}, RelPs K mg g l vs → l[i]? = some p → ∃ v, vs[i]? = some v ∧ RelP K mg g p v
  | [], vs, i, p, h, e => by simp at e
  | q :: ps, vs, i, p, h, e => by
    simp only [RelPs] at h
    obtain ⟨u, r, rfl, h1, h2⟩ := h
    cases i with
    | zero => simp at e; subst e; exact ⟨u, rfl, h1⟩
    | succ j => simpa using RelPs.get' h2 (by simpa using e)
theorem RelPs.cons {p : PV} {v : V} {l : List PV} {vs : List V} (h : RelP K mg g p v) (hs : RelPs K mg g l vs) : RelPs K mg g (p :: l) (v :: vs) := by
  simp only [RelPs]; exact ⟨v, vs, rfl, h, hs⟩
theorem RelPs.nil : RelPs K mg g [] [] := by simp only [RelPs]
theorem RelPs.append : ∀ {l l' : List PV} {vs vs' : List V}, RelPs K mg g l vs → RelPs K mg g l' vs' → RelPs K mg g (l ++ l') (vs ++ vs')
  | [], _, vs, _, h, h' => by simp only [RelPs] at h; subst h; exact h'
  | p :: ps, _, vs, _, h, h' => by
    simp only [RelPs] at h
    obtain ⟨v, r, rfl, h1, h2⟩ := h
    exact RelPs.cons h1 (RelPs.append h2 h')
theorem RelPs.drop : ∀ {l : List PV} {vs : List V} (n : Nat), RelPs K mg g l vs → RelPs K mg g (l.drop n) (vs.drop n)
  | [], vs, n, h => by simp only [RelPs] at h; subst h; simpa using RelPs.nil
  | p :: ps, vs, n, h => by
    have h0 := h
    simp only [RelPs] at h
    obtain ⟨v, r, rfl, h1, h2⟩ := h
    cases n with
    | zero => exact h0
    | succ k => simpa using RelPs.drop k h2
theorem RelPs.take : ∀ {l : List PV} {vs : List V} (n : Nat), RelPs K mg g l vs → RelPs K mg g (l.take n) (vs.take n)
  | [], vs, n, h => by simp only [RelPs] at h; subst h; simpa using RelPs.nil
  | p :: ps, vs, n, h => by
    simp only [RelPs] at h
    obtain ⟨v, r, rfl, h1, h2⟩ := h
    cases n with
    | zero => exact RelPs.nil
    | succ k => simpa using RelPs.cons h1 (RelPs.take k h2)
theorem RelPs.set : ∀ {l : List PV} {vs : List V} (n : Nat) {p : PV} {v : V}, RelPs K mg g l vs → RelP K mg g p v → RelPs K mg g (l.set n p) (vs.set n v)
  | [], vs, n, _, _, h, _ => by simp only [RelPs] at h; subst h; simpa using RelPs.nil
  | p :: ps, vs, n, _, _, h, hp => by
    simp only [RelPs] at h
    obtain ⟨v, r, rfl, h1, h2⟩ := h
    cases n with
    | zero => simpa using RelPs.cons hp h2
    | succ k => simpa using RelPs.cons h1 (RelPs.set k h2 hp)
theorem RelPs.reverse : ∀ {l : List PV} {vs : List V}, RelPs K mg g l vs → RelPs K mg g l.reverse vs.reverse
  | [], vs, h => by simp only [RelPs] at h; subst h; simpa using RelPs.nil
  | p :: ps, vs, h => by
    simp only [RelPs] at h
    obtain ⟨v, r, rfl, h1, h2⟩ := h
    simpa using RelPs.append (RelPs.reverse h2) (RelPs.cons h1 RelPs.nil)
/-! ### new things -/
theorem upd_ext {a : Addr} {u : HO} {Z : Addr → Prop} (hp : g.H a = none) (hz : ∀ b, g.Z b → Z b) (hz' : ∀ b, Z b → g.Z b ∨ b = a) : Ext g { g with H := upd g.H a u, Z := Z } where
  n := Nat.le_refl _
  ρ := fun _ _ => rfl
  Z := hz
  H := fun b o h _ => by
    show upd g.H a u b = some o
    rw [upd_ne (ne_of_none h hp)]; exact h
  dom := fun b h => by
    show upd g.H a u b ≠ none
    rcases Classical.em (b = a) with q | q
    · rw [q, upd_same]; simp
    · rw [upd_ne q]; exact h
  zNew := fun b h => by
    rcases hz' b h with q | q
    · exact .inl q
    · exact .inr (.inl (q ▸ hp))
  mNew := fun i h => .inl h
theorem RelO.keep (x : Keeps g g') {o : PO} {a : Addr} (hs : ∀ u, g.H a = some u → g'.H a = some u) (h : RelO K mg g o a) : RelO K mg g' o a := by
  cases o with
  | lst l => obtain ⟨vs, h1, h2⟩ := h; exact ⟨vs, hs _ h1, h2.keep x⟩
  | dct t ks vs =>
    have h' : DkF (fun u => g.H a = some u) (RelPs K mg g vs) t ks := h
    exact DkF.mono h' (fun u q => hs u q) fun l q => RelPs.keep x vs l q
  | ins c fs => obtain ⟨C, dx, fv, h1, h2, h3, h4⟩ := h; exact ⟨C, dx, fv, hs _ h1, h2, h3, h4.keep x⟩
theorem RelO.ext (ok : g.Ok K mg) (x : Ext g g') {o : PO} {a : Addr} (hs : ∀ u, g.H a = some u → g'.H a = some u) (h : RelO K mg g o a) : RelO K mg g' o a := h.keep (x.keeps ok) hs
theorem upd_ok {a : Addr} {u : HO} {Z : Addr → Prop} (ok : g.Ok K mg) (hp : g.H a = none) (hz : ∀ b, g.Z b → Z b) (hz' : ∀ b, Z b → g.Z b ∨ b = a) : G.Ok K mg { g with H := upd g.H a u, Z := Z } where
  zd := fun b h => by
    show upd g.H a u b ≠ none
    rcases Classical.em (b = a) with q | q
    · rw [q, upd_same]; simp
    · rw [upd_ne q]
      rcases hz' b h with z | z
      · exact ok.zd b z
      · exact absurd z q
  wf := ok.wf
  inj := ok.inj
  out := fun i h z => by
    rcases hz' _ z with q | q
    · exact ok.out i h q
    · obtain ⟨o, e, _⟩ := ok.kind ⟨i, h, q⟩
      rw [hp] at e; cases e
  obj := fun i o h => RelO.ext ok (upd_ext hp hz hz') (fun w q => by
    show upd g.H a u _ = some w
    rw [upd_ne (ne_of_none q hp)]; exact q) (ok.obj i o h)
/-- a new tuple, or any thing that is not listed -/
abbrev G.new (g : G) (a : Addr) (u : HO) : G := { g with H := upd g.H a u }
abbrev G.newZ (g : G) (a : Addr) (u : HO) : G := { g with H := upd g.H a u, Z := fun b => g.Z b ∨ b = a }
theorem G.new_ext {a : Addr} {u : HO} (hp : g.H a = none) : Ext g (g.new a u) := upd_ext hp (fun _ h => h) fun _ h => .inl h
theorem G.new_ok {a : Addr} {u : HO} (ok : g.Ok K mg) (hp : g.H a = none) : (g.new a u).Ok K mg := upd_ok ok hp (fun _ h => h) fun _ h => .inl h
theorem G.newZ_ext {a : Addr} {u : HO} (hp : g.H a = none) : Ext g (g.newZ a u) := upd_ext hp (fun _ h => .inl h) fun _ h => h
theorem G.newZ_ok {a : Addr} {u : HO} (ok : g.Ok K mg) (hp : g.H a = none) : (g.newZ a u).Ok K mg := upd_ok ok hp (fun _ h => .inl h) fun _ h => h
theorem G.new_tup {a : Addr} {l : List PV} {vs : List V} (ok : g.Ok K mg) (hp : g.H a = none) (h : RelPs K mg g l vs) : RelP K mg (g.new a (.tup vs)) (.tup l) (.ref a) := by
  simp only [RelP]
  exact ⟨a, vs, rfl, upd_same, h.ext ok (G.new_ext hp)⟩
theorem G.newZ_lst {a : Addr} {l : List PV} {vs : List V} (ok : g.Ok K mg) (hp : g.H a = none) (h : RelPs K mg g l vs) : RelP K mg (g.newZ a (.lst vs)) (.lst l) (.ref a) := by
  simp only [RelP]
  exact ⟨a, vs, rfl, ⟨upd_same, .inr rfl⟩, h.ext ok (G.newZ_ext hp)⟩
end
end
end Mr
/-! readings by plain functions -/
namespace Mr
noncomputable section
open PySem PySem.Spec PyProof.Rows L2
def attrOf (c : String) : Str := if ["InvalidMix", "InvalidRings", "InvalidLot", "InvalidParts", "InvalidDeeds"].contains c then Str.ofString "index" else Str.ofString "given"
/-- where an exception is going to, and the exception that is being handled: its slot, itself, its dict, its class, what it keeps -/
structure WY where
  w : WX
  b : Option (Nat × Addr × Addr × String × PV)
structure RelEnv (K : PySem.W.Frag) (mg : MG) (B : Option (Nat × Addr × Addr × String × PV)) (g : G) (env : Env) (σ : L2.St) : Prop where
  len : env.length = σ.length
  er : ∀ (i : Nat) (a dd : Addr) (c : String) (p : PV), B = some (i, a, dd, c, p) → σ[i]? = some (some (.ref a)) ∧ ∃ w, g.H dd = some (.xd [(attrOf c, w)]) ∧ RelP K mg g p w
  at_ : ∀ (i : Nat) (p : PV), env[i]? = some (some p) → ∃ v, σ[i]? = some (some v) ∧ RelP K mg g p v
/-- an error of the program's own: its class, what it keeps -/
def ExcR (K : PySem.W.Frag) (mg : MG) (c : String) (p : PV) (g : G) (cls : Value) (d : Option Addr) : Prop :=
  ∃ C dd v, cls = .ref C ∧ mg (Str.ofString c) = some (.ref C) ∧ d = some dd ∧ g.H dd = some (.xd [(attrOf c, v)]) ∧ RelP K mg g p v
section
variable (K : PySem.W.Frag) (mg : MG)
def OutA {α β : Type} (R : G → α → β → Prop) (g : G) (σ : L2.St) (W : WY) (r : Res α) (Q : β → Hp → Prop) : Prop := match r with
  | .ok p s' => ∀ g' v, Ext g g' → g'.Ok K mg → g'.s = s' → R g' p v → Q v g'.H
  | .exc c p s' => ∀ g' cls d, Ext g g' → g'.Ok K mg → g'.s = s' → ExcR K mg c p g' cls d → W.w cls d σ g'.H
  | .stuck => False
def RdA {α β : Type} (R : G → α → β → Prop) (W : WY) (f : Env → MS → Res α) : L2.St → Hp → (β → Hp → Prop) → Prop := fun σ H Q =>
  ∃ g env, g.H = H ∧ g.Ok K mg ∧ RelEnv K mg W.b g env σ ∧ OutA K mg R g σ W (f env g.s) Q
abbrev RdE (W : WY) (f : EX) : TE := RdA K mg (fun g p v => RelP K mg g p v) W f
abbrev RdT (W : WY) (f : ET) : TT := RdA K mg (fun _ (b : Bool) c => b = c) W f
abbrev RdL (W : WY) (f : Env → MS → Res (List PV)) : TA := RdA K mg (fun g ps vs => RelPs K mg g ps vs) W f
end
abbrev IE (X : Cx) (W : WY) (e : Expr) (f : EX) : Prop := PE X e (RdE X.K X.mg W f)
abbrev IT (X : Cx) (W : WY) (e : Expr) (f : ET) : Prop := PT X e (RdT X.K X.mg W f)
abbrev IW (X : Cx) (W : WY) (e : Expr) (f : ET) : Prop := PW X e (RdT X.K X.mg W f)
abbrev IA (X : Cx) (W : WY) (es : List Expr) (f : Env → MS → Res (List PV)) : Prop := PA X es (RdL X.K X.mg W f)
section
variable {K : PySem.W.Frag} {mg : MG} {g g' g1 g2 : G} {env : Env} {σ : L2.St} {W : WY}
theorem RelEnv.ext {B : Option (Nat × Addr × Addr × String × PV)} (ok : g.Ok K mg) (x : Ext g g') (h : RelEnv K mg B g env σ) : RelEnv K mg B g' env σ :=
  ⟨h.len, fun i a dd c p e => let ⟨e1, w, e2, r⟩ := h.er i a dd c p e; ⟨e1, w, ok.stay x e2 (fun z => z), r.ext ok x⟩, fun i p e => let ⟨v, q, r⟩ := h.at_ i p e; ⟨v, q, r.ext ok x⟩⟩
theorem OutA.back {α β : Type} {R : G → α → β → Prop} {r : Res α} {Q : β → Hp → Prop} (ok : g.Ok K mg) (ok1 : g1.Ok K mg) (x : Ext g g1) (h : OutA K mg R g σ W r Q) : OutA K mg R g1 σ W r Q := by
  cases r with
  | ok p s' => exact fun g' v x' ok' e r => h g' v (x.trans ok ok1 x') ok' e r
  | exc c p s' => exact fun g' cls d x' ok' e r => h g' cls d (x.trans ok ok1 x') ok' e r
  | stuck => exact h
/-- the first of two in a row -/
theorem RdA.seq {α β γ δ : Type} {R : G → α → β → Prop} {R' : G → γ → δ → Prop} {f : Env → MS → Res α} {k : α → Env → MS → Res γ} {H : Hp} {Q : δ → Hp → Prop}
    (h : RdA K mg R' W (fun e s => (f e s).bind fun p s' => k p e s') σ H Q) : RdA K mg R W f σ H (fun v H1 => ∃ p, ∃ g env, g.H = H1 ∧ g.Ok K mg ∧ RelEnv K mg W.b g env σ ∧ R g p v ∧ OutA K mg R' g σ W (k p env g.s) Q) := by
  obtain ⟨g, env, e, ok, re, h⟩ := h
  refine ⟨g, env, e, ok, re, ?_⟩
  dsimp only at h
  cases hf : f env g.s with
  | ok p s' =>
    rw [hf] at h
    intro g' v x ok' es r
    refine ⟨p, g', env, rfl, ok', re.ext ok x, r, ?_⟩
    have h2 : OutA K mg R' g σ W (k p env s') Q := h
    rw [es]
    exact h2.back ok ok' x
  | exc c p s' => rw [hf] at h; exact h
  | stuck => rw [hf] at h; exact h
theorem RdA.keep {α β γ : Type} {R : G → α → β → Prop} {R2 : G → γ → Prop} {f : Env → MS → Res α} {H : Hp} {Q : β → Hp → Prop} : True := trivial
theorem OutA.ok {α β : Type} {R : G → α → β → Prop} {p : α} {v : β} {Q : β → Hp → Prop} (ok : g.Ok K mg) (h : OutA K mg R g σ W (.ok p g.s) Q) (r : R g p v) : Q v g.H := h g v (Ext.refl g) ok rfl r
end
section
variable {X : Cx} {W : WY} {e : Expr} {f : EX}
theorem PE.weak {t t' : TE} (h : PE X e t) (w : ∀ σ H Q, t' σ H Q → t σ H Q) : PE X e t' := ⟨fun pins s σ H Q I q => h.run pins s σ H Q I (w σ H Q q)⟩
theorem PT.weak {t t' : TT} (h : PT X e t) (w : ∀ σ H Q, t' σ H Q → t σ H Q) : PT X e t' := ⟨fun pins s σ H Q I q => h.run pins s σ H Q I (w σ H Q q)⟩
theorem PW.weak {t t' : TT} (h : PW X e t) (w : ∀ σ H Q, t' σ H Q → t σ H Q) : PW X e t' := ⟨fun wh pins s σ H Q I q => h.run wh pins s σ H Q I (w σ H Q q)⟩
theorem PA.weak {es : List Expr} {t t' : TA} (h : PA X es t) (w : ∀ σ H Q, t' σ H Q → t σ H Q) : PA X es t' := ⟨fun pos pins s σ H Q I q => h.run pos pins s σ H Q I (w σ H Q q)⟩
theorem PS.weak {st : Stmt} {t t' : TS} (h : PS X st t) (w : ∀ D σ H, t' D σ H → t D σ H) : PS X st t' := ⟨fun pins s σ H D I q => h.run pins s σ H D I (w D σ H q)⟩
theorem PSs.weak {st : List Stmt} {t t' : TS} (h : PSs X st t) (w : ∀ D σ H, t' D σ H → t D σ H) : PSs X st t' := ⟨fun pins s σ H D I q => h.run pins s σ H D I (w D σ H q)⟩
end
end
end Mr
namespace Mr
noncomputable section
open PySem PySem.Spec PyProof.Rows L2
/-! ### names and constants -/
def eVar (i : Nat) : EX := fun e s => match e[i]? with
  | some (some p) => .ok p s
  | _ => .stuck
def eC (p : PV) : EX := fun _ s => .ok p s
section
variable {X : Cx} {W : WY} {pos : Pos}
theorem ie_var (i : Nat) {x : Str} (hN : X.N[i]? = some x := by rfl) (hv : Vis X.env.scope x := by first | exact Or.inl rfl | exact Or.inr (Or.inl rfl) | exact Or.inr (Or.inr rfl)) (hd : (x == ("__debug__" : Str)) = false := by decide)
    (hcd : (x == ("__classdict__" : Str)) = false := by decide) : IE X W (.Name x pos) (eVar i) :=
  PE.weak (pe_var hN hv hd hcd) fun σ H Q h => by
    obtain ⟨g, env, rfl, ok, re, h⟩ := h
    unfold eVar at h
    cases e : env[i]? with
    | none => rw [e] at h; exact h.elim
    | some o =>
      cases o with
      | none => rw [e] at h; exact h.elim
      | some p =>
        rw [e] at h
        obtain ⟨v, q, r⟩ := re.at_ i p e
        exact ⟨v, q, OutA.ok ok h r⟩
theorem ie_c {e : Expr} {v : V} {p : PV} (h : PE X e (tC v)) (r : ∀ g, RelP X.K X.mg g p v) : IE X W e (eC p) :=
  PE.weak h fun σ H Q h => by
    obtain ⟨g, env, rfl, ok, re, h⟩ := h
    exact OutA.ok ok h (r g)
theorem ie_int {i : Int} {j : Nat} : IE X W (.Constant (.int i) j pos) (eC (.int i)) := ie_c pe_int fun _ => by simp only [RelP]
theorem ie_bl {b : Bool} {j : Nat} : IE X W (.Constant (.bool b) j pos) (eC (.bl b)) := ie_c pe_bl fun _ => by simp only [RelP]
theorem ie_non {j : Nat} : IE X W (.Constant .none j pos) (eC .non) := ie_c pe_non fun _ => by simp only [RelP]
theorem ie_str {x : Str} {j : Nat} (l : List Nat) (h : x = ⟨l.toArray⟩ := by decide +kernel) : IE X W (.Constant (.str x) j pos) (eC (.str l)) := ie_c pe_str fun _ => by subst h; simp only [RelP]
/-! ### two operands -/
def eBin (op : PV → PV → Option PV) (f h : EX) : EX := fun e s => (f e s).bind fun x s => (h e s).bind fun y s => ofO (op (deref s x) (deref s y)) s
/-- a value made of two, by values -/
def OpM (K : PySem.W.Frag) (mg : MG) (op : PV → PV → Option PV) : R2 := fun x y H Q =>
  ∃ g px py z, g.H = H ∧ g.Ok K mg ∧ RelD K mg g px x ∧ RelD K mg g py y ∧ op px py = some z ∧ ∀ g' v, Ext g g' → g'.Ok K mg → g'.s = g.s → RelP K mg g' z v → Q v g'.H
theorem RdE.op2 {K : PySem.W.Frag} {mg : MG} {op : PV → PV → Option PV} {f h : EX} {σ : L2.St} {H : Hp} {Q : VK} (q : RdE K mg W (eBin op f h) σ H Q) : tOp (OpM K mg op) (RdE K mg W f) (RdE K mg W h) σ H Q := by
  unfold tOp
  have q1 := RdA.seq (R := fun g p v => RelP K mg g p v) (f := f) (k := fun x e s => (h e s).bind fun y s => ofO (op (deref s x) (deref s y)) s) q
  obtain ⟨g, env, e, ok, re, q1⟩ := q1
  refine ⟨g, env, e, ok, re, ?_⟩
  revert q1
  cases f env g.s with
  | exc c p s' => exact id
  | stuck => exact id
  | ok x s1 =>
    intro q1 g' v x' ok' es r
    obtain ⟨px, g2, env2, e2, ok2, re2, r2, q2⟩ := q1 g' v x' ok' es r
    refine ⟨g2, env2, e2, ok2, re2, ?_⟩
    revert q2
    cases h env2 g2.s with
    | exc c p s' => exact id
    | stuck => exact id
    | ok y s2 =>
      intro q2 g3 w x3 ok3 es3 r3
      have rx := r2.ext ok2 x3
      change OutA K mg _ g2 σ W (ofO (op (deref s2 px) (deref s2 y)) s2) Q at q2
      cases ho : op (deref s2 px) (deref s2 y) with
      | none => rw [ho] at q2; exact q2.elim
      | some z =>
        rw [ho] at q2
        rw [← es3] at ho
        exact ⟨g3, _, _, z, rfl, ok3, rx.deref ok3, r3.deref ok3, ho, fun g4 u x4 ok4 es4 r4 => q2 g4 u (x3.trans ok2 ok3 x4) ok4 (es4.trans es3) r4⟩
theorem ie_bin {op : Operator} {m : PV → PV → Option PV} {a b : Expr} {f h : EX} (ho : OpR X (binaryOp op) (OpM X.K X.mg m)) (ha : IE X W a f) (hb : IE X W b h) : IE X W (.BinOp a op b pos) (eBin m f h) :=
  PE.weak (pe_op ho ha hb) fun σ H Q q => RdE.op2 q
theorem ie_cmp {op : CmpOp} {m : PV → PV → Option PV} {a b : Expr} {f h : EX} (ho : OpR X (compareOp op) (OpM X.K X.mg m)) (ha : IE X W a f) (hb : IE X W b h) (hm : behindInMarks op b = false) : IE X W (.Compare a [op] [b] pos) (eBin m f h) :=
  PE.weak (pe_cmpR ho ha hb hm) fun σ H Q q => RdE.op2 q
end
end
end Mr
namespace Mr
noncomputable section
open PySem PySem.Spec PyProof.Rows L2
/-! ### tests -/
def tTru (f : EX) : ET := fun e s => (f e s).bind fun x s => ofO (truth (deref s x)) s
def tCm (m : PV → PV → Option Bool) (f h : EX) : ET := fun e s => (f e s).bind fun x s => (h e s).bind fun y s => ofO (m (deref s x) (deref s y)) s
def eCm (m : PV → PV → Option Bool) (f h : EX) : EX := eBin (fun x y => (m x y).map .bl) f h
def tAnd2 (c d : ET) : ET := fun e s => (c e s).bind fun b s => if b = true then d e s else .ok false s
def tOr2 (c d : ET) : ET := fun e s => (c e s).bind fun b s => if b = true then .ok true s else d e s
def tNt (c : ET) : ET := fun e s => (c e s).bind fun b s => .ok (!b) s
def eAnd2 (f h : EX) : EX := fun e s => (f e s).bind fun x s => (ofO (truth (deref s x)) s).bind fun b s => if b = true then h e s else .ok x s
def eOr2 (f h : EX) : EX := fun e s => (f e s).bind fun x s => (ofO (truth (deref s x)) s).bind fun b s => if b = true then .ok x s else h e s
def eNt (f : EX) : EX := fun e s => (f e s).bind fun x s => (ofO (truth (deref s x)) s).bind fun b s => .ok (.bl (!b)) s
def eIf (c : ET) (f h : EX) : EX := fun e s => (c e s).bind fun b s => if b = true then f e s else h e s
def eChain (m m' : PV → PV → Option Bool) (f h k : EX) : EX := fun e s => (f e s).bind fun x s => (h e s).bind fun y s => (ofO (m (deref s x) (deref s y)) s).bind fun b s =>
  if b = true then (k e s).bind fun z s => (ofO (m' (deref s y) (deref s z)) s).bind fun b s => .ok (.bl b) s else .ok (.bl false) s
def tChain' (m m' : PV → PV → Option Bool) (f h k : EX) : ET := fun e s => (f e s).bind fun x s => (h e s).bind fun y s => (ofO (m (deref s x) (deref s y)) s).bind fun b s =>
  if b = true then (k e s).bind fun z s => ofO (m' (deref s y) (deref s z)) s else .ok false s
section
variable {K : PySem.W.Frag} {mg : MG} {g : G} {X : Cx} {W : WY} {pos : Pos} {a b c : Expr} {rest : List Expr} {f h k : EX} {t u : ET}
theorem strlen (l : List Nat) : (⟨l.toArray⟩ : Str).length = l.length := by simp [Str.length]
theorem truV_of {p : PV} {v : V} {b : Bool} (r : RelD K mg g p v) (h : truth p = some b) : TruV K v g.H b := by
  cases p with
  | non => simp only [RelD, RelP] at r; subst r; simp [truth] at h; subst h; rfl
  | bl c => simp only [RelD, RelP] at r; subst r; simp [truth] at h; subst h; rfl
  | int i => simp only [RelD, RelP] at r; subst r; simp [truth] at h; subst h; rfl
  | str l =>
    simp only [RelD, RelP] at r; subst r
    simp only [truth] at h
    split at h
    · rename_i hl
      cases h
      refine ⟨by rw [strlen]; exact toSz hl, ?_⟩
      rw [strlen]
      cases l with
      | nil => rfl
      | cons x xs => rfl
    · cases h
  | tup l =>
    simp only [RelD, RelP] at r
    obtain ⟨q, vs, rfl, h1, h2⟩ := r
    have h : b = !l.isEmpty := (Option.some.inj h).symm
    subst h
    refine .inr (.inl ⟨vs, SqT.of h1, ?_⟩)
    have := h2.length
    cases l <;> cases vs <;> simp_all
  | lst l =>
    simp only [RelD] at r
    obtain ⟨q, vs, rfl, h1, h2⟩ := r
    have h : b = !l.isEmpty := (Option.some.inj h).symm
    subst h
    refine .inl ⟨vs, SqL.of h1, ?_⟩
    have := h2.length
    cases l <;> cases vs <;> simp_all
  | _ => simp [truth] at h
/-- a value in its test -/
theorem RdT.tru {σ : L2.St} {H : Hp} {Q : Bool → Hp → Prop} (q : RdT K mg W (tTru f) σ H Q) : RdE K mg W f σ H fun x H' => ∃ k, TruV K x H' k ∧ Q k H' := by
  have q1 := RdA.seq (R := fun g p v => RelP K mg g p v) (f := f) (k := fun x e s => ofO (truth (deref s x)) s) q
  obtain ⟨g, env, e, ok, re, q1⟩ := q1
  refine ⟨g, env, e, ok, re, ?_⟩
  revert q1
  cases f env g.s with
  | exc c p s' => exact id
  | stuck => exact id
  | ok x s1 =>
    intro q1 g' v x' ok' es r
    obtain ⟨px, g2, env2, e2, ok2, re2, r2, q2⟩ := q1 g' v x' ok' es r
    cases ho : truth (deref g2.s px) with
    | none => rw [ho] at q2; exact q2.elim
    | some z =>
      rw [ho] at q2
      refine ⟨z, e2 ▸ truV_of (r2.deref ok2) ho, e2 ▸ OutA.ok ok2 q2 rfl⟩
theorem it_tru (ha : IE X W a f) (he : ∀ whole, isTrue a X.env whole = (do let v ← whole; standAt a.pos; holding [v] (truthy v)) := by intro _; rfl) : IT X W a (tTru f) :=
  PT.weak (pt_truth ha he) fun σ H Q q => RdT.tru q
theorem it_cm {op : CmpOp} {m : PV → PV → Option Bool} (ho : OpR X (compareOp op) (OpM X.K X.mg fun x y => (m x y).map .bl)) (ha : IE X W a f) (hb : IE X W b h) (hm : behindInMarks op b = false) : IT X W (.Compare a [op] [b] pos) (tCm m f h) :=
  PT.weak (pt_cmpR ho ha hb hm) fun σ H Q q => by
    unfold tTest
    have q' : RdE X.K X.mg W (eCm m f h) σ H (fun x H' => ∃ k, x = .bl k ∧ Q k H') := by
      obtain ⟨g, env, e, ok, re, q⟩ := q
      refine ⟨g, env, e, ok, re, ?_⟩
      revert q
      unfold tCm eCm eBin
      cases f env g.s with
      | exc c p s' => exact id
      | stuck => exact id
      | ok x s1 =>
        simp only [bind_ok]
        cases h env s1 with
        | exc c p s' => exact id
        | stuck => exact id
        | ok y s2 =>
          simp only [bind_ok]
          cases m (deref s2 x) (deref s2 y) with
          | none => exact id
          | some k =>
            intro q g' v x' ok' es r
            have r' : RelP X.K X.mg g' (.bl k) v := r
            simp only [RelP] at r'
            exact ⟨k, r', q g' k x' ok' es rfl⟩
    exact RdE.op2 q'
theorem ie_cm {op : CmpOp} {m : PV → PV → Option Bool} (ho : OpR X (compareOp op) (OpM X.K X.mg fun x y => (m x y).map .bl)) (ha : IE X W a f) (hb : IE X W b h) (hm : behindInMarks op b = false) : IE X W (.Compare a [op] [b] pos) (eCm m f h) :=
  ie_cmp ho ha hb hm
theorem RdT.two {γ δ : Type} {R' : G → γ → δ → Prop} {σ : L2.St} {H : Hp} {Q : δ → Hp → Prop} {d : Bool → Env → MS → Res γ} (q : RdA K mg R' W (fun e s => (t e s).bind fun b s => d b e s) σ H Q) :
    RdT K mg W t σ H fun b H1 => RdA K mg R' W (d b) σ H1 Q := by
  obtain ⟨g, env, e, ok, re, q1⟩ := RdA.seq (R := fun _ (b : Bool) c => b = c) (f := t) (k := fun b e s => d b e s) q
  refine ⟨g, env, e, ok, re, ?_⟩
  revert q1
  cases t env g.s with
  | exc c p s' => exact id
  | stuck => exact id
  | ok x s1 =>
    intro q1 g' v x' ok' es r
    obtain ⟨px, g2, env2, e2, ok2, re2, r2, q2⟩ := q1 g' v x' ok' es r
    subst r2
    exact ⟨g2, env2, e2, ok2, re2, q2⟩
theorem RdA.pure {α β : Type} {R : G → α → β → Prop} {σ : L2.St} {H : Hp} {Q : β → Hp → Prop} {p : α} {v : β} (r : ∀ g, R g p v) (q : RdA K mg R W (fun _ s => .ok p s) σ H Q) : Q v H := by
  obtain ⟨g, env, e, ok, re, q1⟩ := q
  exact e ▸ OutA.ok ok q1 (r g)
theorem iw_and1 (ha : IT X W a t) : IW X W (.BoolOp .And [a] pos) t := pw_and1 ha
theorem iw_or1 (ha : IT X W a t) : IW X W (.BoolOp .Or [a] pos) t := pw_or1 ha
theorem iw_and (ha : IT X W a t) (hb : IW X W (.BoolOp .And (b :: rest) pos) u) : IW X W (.BoolOp .And (a :: b :: rest) pos) (tAnd2 t u) :=
  PW.weak (pw_and ha hb) fun σ H Q q => by
    have q := RdT.two (d := fun b e s => if b = true then u e s else .ok false s) q
    unfold L2.tAnd
    obtain ⟨g, env, e, ok, re, q⟩ := q
    refine ⟨g, env, e, ok, re, ?_⟩
    revert q
    cases t env g.s with
    | exc c p s' => exact id
    | stuck => exact id
    | ok x s1 =>
      intro q g' v x' ok' es r
      have q := q g' v x' ok' es r
      cases v with
      | true => exact q
      | false => exact RdA.pure (fun _ => rfl) q
theorem iw_or (ha : IT X W a t) (hb : IW X W (.BoolOp .Or (b :: rest) pos) u) : IW X W (.BoolOp .Or (a :: b :: rest) pos) (tOr2 t u) :=
  PW.weak (pw_or ha hb) fun σ H Q q => by
    have q := RdT.two (d := fun b e s => if b = true then .ok true s else u e s) q
    unfold L2.tOr
    obtain ⟨g, env, e, ok, re, q⟩ := q
    refine ⟨g, env, e, ok, re, ?_⟩
    revert q
    cases t env g.s with
    | exc c p s' => exact id
    | stuck => exact id
    | ok x s1 =>
      intro q g' v x' ok' es r
      have q := q g' v x' ok' es r
      cases v with
      | false => exact q
      | true => exact RdA.pure (fun _ => rfl) q
theorem it_w (h : IW X W a t) : IT X W a t := PW.pt h
theorem it_not (ha : IT X W a t) : IT X W (.UnaryOp .Not a pos) (tNt t) :=
  PT.weak (pt_not ha) fun σ H Q q => by
    have q := RdT.two (d := fun b e s => .ok (!b) s) q
    unfold L2.tNot
    obtain ⟨g, env, e, ok, re, q⟩ := q
    refine ⟨g, env, e, ok, re, ?_⟩
    revert q
    cases t env g.s with
    | exc c p s' => exact id
    | stuck => exact id
    | ok x s1 =>
      intro q g' v x' ok' es r
      exact RdA.pure (fun _ => rfl) (q g' v x' ok' es r)
/-- the value's truth, then on -/
theorem RdE.truThen {γ δ : Type} {R' : G → γ → δ → Prop} {σ : L2.St} {H : Hp} {Q : δ → Hp → Prop} {d : PV → Bool → Env → MS → Res γ}
    (q : RdA K mg R' W (fun e s => (f e s).bind fun x s => (ofO (truth (deref s x)) s).bind fun b s => d x b e s) σ H Q) :
    RdE K mg W f σ H fun v H1 => ∃ k, TruV K v H1 k ∧ ∃ p g env, g.H = H1 ∧ g.Ok K mg ∧ RelEnv K mg W.b g env σ ∧ RelP K mg g p v ∧ OutA K mg R' g σ W (d p k env g.s) Q := by
  obtain ⟨g, env, e, ok, re, q1⟩ := RdA.seq (R := fun g p v => RelP K mg g p v) (f := f) (k := fun x e s => (ofO (truth (deref s x)) s).bind fun b s => d x b e s) q
  refine ⟨g, env, e, ok, re, ?_⟩
  revert q1
  cases f env g.s with
  | exc c p s' => exact id
  | stuck => exact id
  | ok x s1 =>
    intro q1 g' v x' ok' es r
    obtain ⟨px, g2, env2, e2, ok2, re2, r2, q2⟩ := q1 g' v x' ok' es r
    cases ho : truth (deref g2.s px) with
    | none => rw [ho] at q2; exact q2.elim
    | some z =>
      rw [ho] at q2
      exact ⟨z, e2 ▸ truV_of (r2.deref ok2) ho, px, g2, env2, e2, ok2, re2, r2, q2⟩
theorem RdA.imp {α β : Type} {R : G → α → β → Prop} {σ : L2.St} {H : Hp} {Q Q' : β → Hp → Prop} {m : Env → MS → Res α} (q : RdA K mg R W m σ H Q) (h : ∀ v H, Q v H → Q' v H) : RdA K mg R W m σ H Q' := by
  obtain ⟨g, env, e, ok, re, q⟩ := q
  refine ⟨g, env, e, ok, re, ?_⟩
  revert q
  cases m env g.s with
  | exc c p s' => exact id
  | stuck => exact id
  | ok x s1 => exact fun q g' v x' ok' es r => h _ _ (q g' v x' ok' es r)
theorem ie_one {op : BoolOp} (ha : IE X W a f) : IE X W (.BoolOp op [a] pos) f := pe_one ha
theorem ie_and (ha : IE X W a f) (hb : IE X W (.BoolOp .And (b :: rest) pos) h) : IE X W (.BoolOp .And (a :: b :: rest) pos) (eAnd2 f h) :=
  PE.weak (pe_andT ha hb) fun σ H Q q => by
    refine (RdE.truThen (d := fun x b e s => if b = true then h e s else .ok x s) q).imp fun v H1 ⟨k, tr, p, g, env, e, ok, re, r, q⟩ => ⟨k, tr, ?_⟩
    cases k with
    | true => exact ⟨g, env, e, ok, re, q⟩
    | false => exact e ▸ OutA.ok ok q r
theorem ie_or (ha : IE X W a f) (hb : IE X W (.BoolOp .Or (b :: rest) pos) h) : IE X W (.BoolOp .Or (a :: b :: rest) pos) (eOr2 f h) :=
  PE.weak (pe_orT ha hb) fun σ H Q q => by
    refine (RdE.truThen (d := fun x b e s => if b = true then .ok x s else h e s) q).imp fun v H1 ⟨k, tr, p, g, env, e, ok, re, r, q⟩ => ⟨k, tr, ?_⟩
    cases k with
    | false => exact ⟨g, env, e, ok, re, q⟩
    | true => exact e ▸ OutA.ok ok q r
theorem ie_not (ha : IE X W a f) : IE X W (.UnaryOp .Not a pos) (eNt f) :=
  PE.weak (pe_notT ha) fun σ H Q q => by
    refine (RdE.truThen (d := fun x b e s => Res.ok (PV.bl (!b)) s) (R' := fun g p v => RelP X.K X.mg g p v) q).imp fun v H1 ⟨k, tr, p, g, env, e, ok, re, r, q⟩ => ⟨k, tr, ?_⟩
    exact e ▸ OutA.ok ok q (by simp only [RelP])
theorem ie_if (hc : IT X W c t) (ha : IE X W a f) (hb : IE X W b h) : IE X W (.IfExp c a b pos) (eIf t f h) :=
  PE.weak (pe_ifExp hc ha hb) fun σ H Q q => by
    unfold tIf
    refine (RdT.two (d := fun b e s => if b = true then f e s else h e s) q).imp fun v H1 q => ?_
    cases v with
    | true => exact q
    | false => exact q
end
end
end Mr
namespace Mr
noncomputable section
open PySem PySem.Spec PyProof.Rows L2
/-! ### argument lists, displays, calls -/
def eList : List EX → Env → MS → Res (List PV)
  | [], _, s => .ok [] s
  | f :: fs, e, s => (f e s).bind fun x s => (eList fs e s).bind fun xs s => .ok (x :: xs) s
def eTup (fs : List EX) : EX := fun e s => (eList fs e s).bind fun xs s => if xs.length ≤ LIM then .ok (.tup xs) s else .stuck
/-- a list that nobody changes -/
def eLst (fs : List EX) : EX := fun e s => (eList fs e s).bind fun xs s => if xs.length ≤ LIM then .ok (.lst xs) s else .stuck
def MS.put (s : MS) (i : Nat) (o : PO) : MS := ⟨s.n, fun j => if j = i then some o else s.m j⟩
def MS.del (s : MS) (i : Nat) : MS := ⟨s.n, fun j => if j = i then none else s.m j⟩
def MS.new (s : MS) (o : PO) : MS := ⟨s.n + 1, fun j => if j = s.n then some o else s.m j⟩
/-- a list that will be changed -/
def eLstM (fs : List EX) : EX := fun e s => (eList fs e s).bind fun xs s => if xs.length ≤ LIM then .ok (.obj s.n) (s.new (.lst xs)) else .stuck
def eCall (F : FN) (fs : List EX) : EX := fun e s => (eList fs e s).bind fun xs s => F xs s
def eCallK (F : FN) (order : List Nat) (fs : List EX) : EX := fun e s => (eList fs e s).bind fun xs s => F (order.map fun j => xs.getD j .non) s
section
variable {K : PySem.W.Frag} {mg : MG} {g : G} {X : Cx} {W : WY} {pos : Pos} {a b c : Expr} {es : List Expr} {f h k : EX} {fs : List EX}
theorem RdA.val {α β : Type} {R : G → α → β → Prop} {σ : L2.St} {H : Hp} {Q : β → Hp → Prop} {m : Env → MS → Res α} (q : RdA K mg R W m σ H Q) : RdA K mg R W m σ H (fun v H1 => ∃ p g env, g.H = H1 ∧ g.Ok K mg ∧ RelEnv K mg W.b g env σ ∧ R g p v ∧ ∀ g' w, Ext g g' → g'.Ok K mg → g'.s = g.s → R g' p w → Q w g'.H) := by
  obtain ⟨g, env, e, ok, re, q⟩ := q
  refine ⟨g, env, e, ok, re, ?_⟩
  revert q
  cases m env g.s with
  | exc c p s' => exact id
  | stuck => exact id
  | ok x s1 => exact fun q g' v x' ok' es r => ⟨x, g', env, rfl, ok', re.ext ok x', r, fun g2 w x2 ok2 es2 r2 => q g2 w (x'.trans ok ok' x2) ok2 (es2.trans es) r2⟩
theorem ia_nil : IA X W [] (eList []) := PA.weak pa_nil fun σ H Q q => RdA.pure (fun g => RelPs.nil) q
theorem ia_cons (ha : IE X W a f) (hr : IA X W es (eList fs)) (hs : starEach (a :: es) X.env = (false, eval a X.env) :: starEach es X.env := by rfl) : IA X W (a :: es) (eList (f :: fs)) :=
  PA.weak (pa_cons ha hr hs) fun σ H Q q => by
    unfold tCons
    refine (RdA.seq (R := fun g p v => RelP X.K X.mg g p v) (f := f) (k := fun x e s => (eList fs e s).bind fun xs s => .ok (x :: xs) s) q).imp fun v H1 q => ?_
    obtain ⟨p, g, env, e, ok, re, r, q⟩ := q
    refine ⟨g, env, e, ok, re, ?_⟩
    revert q
    cases eList fs env g.s with
    | exc c p s' => exact id
    | stuck => exact id
    | ok xs s2 => exact fun q g' v x' ok' es r2 => q g' _ x' ok' es (RelPs.cons (r.ext ok x') r2)
theorem ie_tup {x1 : Nat} (ha : IA X W es (eList fs)) : IE X W (.Tuple es x1 pos) (eTup fs) :=
  PE.weak (pe_tup ha) fun σ H Q q => by
    unfold tTup
    refine (RdA.seq (R := fun g p v => RelPs X.K X.mg g p v) (f := eList fs) (k := fun xs e s => if xs.length ≤ LIM then Res.ok (PV.tup xs) s else Res.stuck) q).imp fun v H1 q => ?_
    obtain ⟨p, g, env, rfl, ok, re, r, q⟩ := q
    by_cases hl : p.length ≤ LIM
    · simp only [hl, if_true] at q
      refine ⟨by rw [← r.length]; exact toSz hl, fun a ha => ?_⟩
      exact q (g.new a (.tup v)) _ (G.new_ext ha) (G.new_ok ok ha) rfl (G.new_tup ok ha r)
    · simp only [hl, if_false] at q
      exact q.elim
theorem ie_lst (ha : IA X W es (eList fs)) : IE X W (.List es pos) (eLst fs) :=
  PE.weak (pe_lst ha) fun σ H Q q => by
    unfold tLst
    refine (RdA.seq (R := fun g p v => RelPs X.K X.mg g p v) (f := eList fs) (k := fun xs e s => if xs.length ≤ LIM then Res.ok (PV.lst xs) s else Res.stuck) q).imp fun v H1 q => ?_
    obtain ⟨p, g, env, rfl, ok, re, r, q⟩ := q
    by_cases hl : p.length ≤ LIM
    · simp only [hl, if_true] at q
      refine ⟨by rw [← r.length]; exact toSz hl, fun a ha => ?_⟩
      exact q (g.newZ a (.lst v)) _ (G.newZ_ext ha) (G.newZ_ok ok ha) rfl (G.newZ_lst ok ha r)
    · simp only [hl, if_false] at q
      exact q.elim
/-- a new changing thing -/
abbrev G.newM (g : G) (a : Addr) (u : HO) (o : PO) : G := { H := upd g.H a u, Z := g.Z, ρ := fun i => if i = g.s.n then a else g.ρ i, s := g.s.new o }
theorem newM_ext {a : Addr} {u : HO} {o : PO} (hp : g.H a = none) : Ext g (g.newM a u o) where
  n := Nat.le_succ _
  ρ := fun i h => by
    show (if i = g.s.n then a else g.ρ i) = g.ρ i
    rw [if_neg (Nat.ne_of_lt h)]
  Z := fun _ h => h
  H := fun b o h _ => by
    show upd g.H a u b = some o
    rw [upd_ne (ne_of_none h hp)]; exact h
  dom := fun b h => by
    show upd g.H a u b ≠ none
    rcases Classical.em (b = a) with q | q
    · rw [q, upd_same]; simp
    · rw [upd_ne q]; exact h
  zNew := fun b h => .inl h
  mNew := fun i h => by
    by_cases e : i = g.s.n
    · refine .inr ⟨Nat.le_of_eq e.symm, ?_⟩
      show g.H (if i = g.s.n then a else g.ρ i) = none
      rw [if_pos e]; exact hp
    · refine .inl fun q => h ?_
      show (if i = g.s.n then some o else g.s.m i) = none
      rw [if_neg e]; exact q
theorem newM_ok {a : Addr} {u : HO} {o : PO} (ok : g.Ok K mg) (hp : g.H a = none) (hn : RelO K mg (g.newM a u o) o a) : (g.newM a u o).Ok K mg := by
  have old : ∀ i, (g.newM a u o).s.m i ≠ none → i ≠ g.s.n → g.s.m i ≠ none := fun i h e q => h (by
    show (if i = g.s.n then some o else g.s.m i) = none
    rw [if_neg e]; exact q)
  have ρo : ∀ i, i ≠ g.s.n → (g.newM a u o).ρ i = g.ρ i := fun i e => if_neg e
  have ρn : (g.newM a u o).ρ g.s.n = a := if_pos rfl
  refine ⟨fun i h => ?_, fun i j hi hj e => ?_, fun i hi z => ?_, fun b h => ?_, fun i o' h => ?_⟩
  · show (if i = g.s.n then some o else g.s.m i) = none
    have h' : g.s.n + 1 ≤ i := h
    rw [if_neg (by omega)]
    exact ok.wf i (by omega)
  · by_cases ei : i = g.s.n
    · by_cases ej : j = g.s.n
      · omega
      · rw [ei, ρn, ρo j ej] at e
        obtain ⟨w, q, _⟩ := ok.kind ⟨j, old j hj ej, e.symm⟩
        rw [hp] at q; cases q
    · by_cases ej : j = g.s.n
      · rw [ej, ρn, ρo i ei] at e
        obtain ⟨w, q, _⟩ := ok.kind ⟨i, old i hi ei, e⟩
        rw [hp] at q; cases q
      · rw [ρo i ei, ρo j ej] at e
        exact ok.inj i j (old i hi ei) (old j hj ej) e
  · by_cases ei : i = g.s.n
    · rw [ei, ρn] at z; exact ok.zd a z hp
    · rw [ρo i ei] at z; exact ok.out i (old i hi ei) z
  · exact (newM_ext (o := o) hp).dom b (ok.zd b h)
  · by_cases ei : i = g.s.n
    · have h' : (if i = g.s.n then some o else g.s.m i) = some o' := h
      rw [if_pos ei] at h'
      cases h'
      rw [ei, ρn]; exact hn
    · have h' : (if i = g.s.n then some o else g.s.m i) = some o' := h
      rw [if_neg ei] at h'
      rw [ρo i ei]
      exact RelO.ext ok (newM_ext hp) (fun w q => by
        show upd g.H a u _ = some w
        rw [upd_ne (ne_of_none q hp)]; exact q) (ok.obj i o' h')
end
end
end Mr
namespace Mr
noncomputable section
open PySem PySem.Spec PyProof.Rows L2
section
variable {K : PySem.W.Frag} {mg : MG} {g : G} {X : Cx} {W : WY} {pos : Pos} {a b c : Expr} {es : List Expr} {f h k : EX} {fs : List EX}
theorem ie_lstM (ha : IA X W es (eList fs)) : IE X W (.List es pos) (eLstM fs) :=
  PE.weak (pe_lst ha) fun σ H Q q => by
    unfold tLst
    refine (RdA.seq (R := fun g p v => RelPs X.K X.mg g p v) (f := eList fs) (k := fun xs e s => if xs.length ≤ LIM then Res.ok (PV.obj s.n) (s.new (.lst xs)) else Res.stuck) q).imp fun v H1 q => ?_
    obtain ⟨p, g, env, rfl, ok, re, r, q⟩ := q
    by_cases hl : p.length ≤ LIM
    · simp only [hl, if_true] at q
      refine ⟨by rw [← r.length]; exact toSz hl, fun a ha => ?_⟩
      have x := newM_ext (g := g) (u := .lst v) (o := .lst p) ha
      exact q (g.newM a (.lst v) (.lst p)) _ x (newM_ok ok ha ⟨v, upd_same, r.ext ok x⟩) rfl (by
        simp only [RelP]
        exact ⟨Nat.lt_succ_self _, by simp⟩)
    · simp only [hl, if_false] at q
      exact q.elim
/-- what a def promises: it computes F -/
def SpM (K : PySem.W.Frag) (mg : MG) (ps : List Str) (F : FN) : Sp := fun vs H Q E => vs.length = ps.length ∧ ∃ g args, g.H = H ∧ g.Ok K mg ∧ RelPs K mg g args vs ∧
  match F args g.s with
  | .ok p s' => ∀ g' v, Ext g g' → g'.Ok K mg → g'.s = s' → RelP K mg g' p v → Q v g'.H
  | .exc c p s' => ∀ g' cls d, Ext g g' → g'.Ok K mg → g'.s = s' → ExcR K mg c p g' cls d → E cls d g'.H
  | .stuck => False
/-- the def x stands, and computes F -/
structure Def (P : Program) (w : World) (K : PySem.W.Frag) (mg : MG) (base : Heap) (k : Nat) (x : Str) (st : Stmt) (ps : List Str) (F : FN) : Prop where
  ex : ∃ (nm : Str) (f : Addr) (fd : FuncData), mg x = some (.ref f) ∧ PySem.W.keepIn K (.ref f) = true ∧ Fun K nm nm st f fd ∧ Binds K fd ps [] ∧ FnOk P w K mg base (L2.CX P w) k f fd ps (SpM K mg ps F)
theorem SpM.of {ps : List Str} {F : FN} {xs : List PV} {vs : List V} {H : Hp} {Q : VK} {σ : L2.St} (hl : vs.length = ps.length) (e : g.H = H) (ok : g.Ok K mg) (r : RelPs K mg g xs vs)
    (q : OutA K mg (fun g p v => RelP K mg g p v) g σ W (F xs g.s) Q) : SpM K mg ps F vs H Q (WE W.w σ) := by
  refine ⟨hl, g, xs, e, ok, r, ?_⟩
  revert q
  cases F xs g.s with
  | exc c p s' => exact id
  | stuck => exact id
  | ok x s1 => exact id
theorem ia_len {σ : L2.St} {H : Hp} {Q : List V → Hp → Prop} : ∀ {fs : List EX} {n : Nat}, fs.length = n → RdL K mg W (eList fs) σ H Q → RdL K mg W (eList fs) σ H (fun vs H => vs.length = n ∧ Q vs H) := by
  intro fs n hn q
  have len : ∀ (fs : List EX) (env : Env) (s : MS) (xs : List PV) (s' : MS), eList fs env s = .ok xs s' → xs.length = fs.length := by
    intro fs
    induction fs with
    | nil => intro env s xs s' h; simp only [eList] at h; cases h; rfl
    | cons f fs ih =>
      intro env s xs s' h
      simp only [eList] at h
      cases hf : f env s with
      | exc c p s' => rw [hf] at h; cases h
      | stuck => rw [hf] at h; cases h
      | ok x s1 =>
        rw [hf] at h
        simp only [bind_ok] at h
        cases hr : eList fs env s1 with
        | exc c p s' => rw [hr] at h; cases h
        | stuck => rw [hr] at h; cases h
        | ok ys s2 =>
          rw [hr] at h
          simp only [bind_ok] at h
          cases h
          simp [ih env s1 ys _ hr]
  obtain ⟨g, env, e, ok, re, q⟩ := q
  refine ⟨g, env, e, ok, re, ?_⟩
  revert q
  cases hf : eList fs env g.s with
  | exc c p s' => exact id
  | stuck => exact id
  | ok xs s1 => exact fun q g' v x' ok' es r => ⟨by rw [← r.length, len fs env g.s xs s1 hf, hn], q g' v x' ok' es r⟩
/-- f(..) of a def of the program -/
theorem ie_call {lv : Nat} {x : Str} {st : Stmt} {ps : List Str} {F : FN} {p : Pos} (D : Def X.prog X.w X.K X.mg X.base lv x st ps F) (hr : Room lv X.A) (hg : Gl X x) (tk : Takes X W.w) (ha : IA X W (a :: es) (eList fs)) (hn : fs.length = ps.length := by rfl)
    (hdb : (x == ("__debug__" : Str)) = false := by decide) (he : starEach (a :: es) X.env = (false, eval a X.env) :: starEach es X.env := by rfl) (hpl : (backTo pos (starEach es X.env)).any (·.1) = false := by rfl) :
    IE X W (.Call (.Name x p) (a :: es) [] pos) (eCall F fs) := by
  obtain ⟨_, fa, fd, hm, hk, _, hb, D⟩ := D.ex
  refine PE.weak (pe_callS D hr hg hm hk hb (fun σ => passAt tk σ) ha hdb he hpl) fun σ H Q q => ?_
  unfold tCallS
  have q1 := RdA.seq (R := fun g p v => RelPs X.K X.mg g p v) (f := eList fs) (k := fun xs e s => F xs s) q
  refine (ia_len hn q1).imp fun v H1 ⟨hl, q⟩ => ?_
  obtain ⟨xs, g, env, e, ok, re, r, q⟩ := q
  exact SpM.of hl e ok r q
/-- f() -/
theorem ie_call0 {lv : Nat} {x : Str} {st : Stmt} {F : FN} {p : Pos} (D : Def X.prog X.w X.K X.mg X.base lv x st [] F) (hr : Room lv X.A) (hg : Gl X x) (tk : Takes X W.w)
    (hdb : (x == ("__debug__" : Str)) = false := by decide) : IE X W (.Call (.Name x p) [] [] pos) (eCall F []) := by
  obtain ⟨_, fa, fd, hm, hk, _, hb, D⟩ := D.ex
  refine ⟨fun pins s σ H Q I q => ?_⟩
  refine wpAny_Call_Name_kw (ld_glob I hg hm ?_ hdb)
  obtain ⟨g, env, e, ok, re, q⟩ := q
  exact PySem.W.callWith_K0 I.kIn hk (run_fnS (us := []) (E := WE W.w) D hr hb (passAt tk σ) I .nil (SpM.of (xs := []) rfl e ok RelPs.nil q))
/-! keywords -/
abbrev IK (X : Cx) (W : WY) (kws : List Keyword) (f : Env → MS → Res (List PV)) : Prop := PK X kws (RdL X.K X.mg W f)
theorem PK.weak {kws : List Keyword} {t t' : TA} (h : PK X kws t) (w : ∀ σ H Q, t' σ H Q → t σ H Q) : PK X kws t' := ⟨fun pos pins s σ H Q I q => h.run pos pins s σ H Q I (w σ H Q q)⟩
theorem ik_nil : IK X W [] (eList []) := PK.weak pk_nil fun σ H Q q => RdA.pure (fun g => RelPs.nil) q
theorem ik_cons {nm : Option Str} {kpos : Pos} {kws : List Keyword} (ha : IE X W a f) (hr : IK X W kws (eList fs)) : IK X W (⟨nm, a, kpos⟩ :: kws) (eList (f :: fs)) :=
  PK.weak (pk_cons ha hr) fun σ H Q q => by
    unfold tCons
    refine (RdA.seq (R := fun g p v => RelP X.K X.mg g p v) (f := f) (k := fun x e s => (eList fs e s).bind fun xs s => .ok (x :: xs) s) q).imp fun v H1 q => ?_
    obtain ⟨p, g, env, e, ok, re, r, q⟩ := q
    refine ⟨g, env, e, ok, re, ?_⟩
    revert q
    cases eList fs env g.s with
    | exc c p s' => exact id
    | stuck => exact id
    | ok xs s2 => exact fun q g' v x' ok' es r2 => q g' _ x' ok' es (RelPs.cons (r.ext ok x') r2)
/-- the arguments in the parameters' order -/
def kwG {α : Type} (n m : Nat) (order : List Nat) (d : α) (us ws : List α) : List α := if us.length = n ∧ ws.length = m then order.map (fun j => (us ++ ws).getD j d) else []
def eCallKw (F : FN) (order : List Nat) (fs hs : List EX) : EX := fun e s => (eList fs e s).bind fun xs s => (eList hs e s).bind fun ys s => F (order.map fun j => (xs ++ ys).getD j .non) s
theorem vals_getD {us : List V} {ws : List Value} (r : Vals us ws) (j : Nat) : RelV (us.getD j .non) (ws.getD j .none) := by
  cases e : us[j]? with
  | none =>
    have e2 := r.none_of e
    rw [List.getD_eq_getElem?_getD, List.getD_eq_getElem?_getD, e, e2]; rfl
  | some v =>
    obtain ⟨u, e2, q⟩ := r.get e
    rw [List.getD_eq_getElem?_getD, List.getD_eq_getElem?_getD, e, e2]; exact q
theorem vals_map {us : List V} {ws : List Value} (r : Vals us ws) : ∀ order : List Nat, Vals (order.map fun j => us.getD j .non) (order.map fun j => ws.getD j .none)
  | [] => .nil
  | j :: js => .cons (vals_getD r j) (vals_map r js)
theorem kb_of {K : PySem.W.Frag} {x qual : Str} {st : Stmt} {f : Addr} {fd : FuncData} {ps ks : List Str} {n m : Nat} {order : List Nat} (F : Fun K x qual st f fd) (hp : ps ≠ [])
    (h : ∀ (kV doc pm : Value) (an : Option Addr) (cdv ct : Value) (us ws : List Value), us.length = n → ws.length = m →
      bindArgs (PySem.W.fnOf x qual (defArgs st) (defBody st) (defScope st) .none kV doc pm an cdv ct) ⟨us, ks.zip ws⟩ = pure (ps.zip (order.map fun j => (us ++ ws).getD j .none))) :
    KBinds K fd ps ks (kwG n m order .none) (kwG n m order .non) := by
  obtain ⟨oc, od, kV, doc, pm, an, cdv, ct, osl, rfl, lk, cd⟩ := F.ex
  refine ⟨fun s us ws hk hl => ?_, fun {vs us zs ws} r1 r2 => ?_⟩
  · unfold kwG at hl ⊢
    by_cases c : us.length = n ∧ ws.length = m
    · rw [if_pos c]
      exact BindsTo.of_eq (h kV doc pm an cdv ct us ws c.1 c.2)
    · rw [if_neg c] at hl
      cases ps with
      | nil => exact absurd rfl hp
      | cons _ _ => simp at hl
  · unfold kwG
    rw [← r1.length, ← r2.length]
    by_cases c : vs.length = n ∧ zs.length = m
    · rw [if_pos c, if_pos c]
      exact vals_map (Vals.append r1 r2) order
    · rw [if_neg c, if_neg c]
      exact .nil
theorem RelPs.getD {l : List PV} {vs : List V} (r : RelPs K mg g l vs) (j : Nat) : RelP K mg g (l.getD j .non) (vs.getD j .non) := by
  cases e : l[j]? with
  | none =>
    have e2 : vs[j]? = none := by
      rw [List.getElem?_eq_none_iff] at e ⊢
      rw [← r.length]; exact e
    rw [List.getD_eq_getElem?_getD, List.getD_eq_getElem?_getD, e, e2]; simp only [Option.getD, RelP]
  | some v =>
    obtain ⟨u, e2, q⟩ := r.get' e
    rw [List.getD_eq_getElem?_getD, List.getD_eq_getElem?_getD, e, e2]; exact q
theorem RelPs.order {l : List PV} {vs : List V} (r : RelPs K mg g l vs) : ∀ order : List Nat, RelPs K mg g (order.map fun j => l.getD j .non) (order.map fun j => vs.getD j .non)
  | [] => RelPs.nil
  | j :: js => RelPs.cons (r.getD j) (RelPs.order r js)
theorem run_fnkS {CX : CXT} {k : Nat} {f : Addr} {fd : FuncData} {ps ks : List Str} {sp : Sp} {E : L2.St → XK} {gl : List Value → List Value → List Value} {gV : List V → List V → List V} {pins : List (Addr × Obj)} {σ : L2.St} {H : Hp} {s : Shared} {Q : VK} {us ws : List Value} {vs zs : List V}
    (F : FnOk X.prog X.w X.K X.mg X.base CX k f fd ps sp) (hr : Room k X.A) (hb : KBinds X.K fd ps ks gl gV) (hx : PassesAt CX X σ (E σ))
    (I : Inv X pins σ H s) (r : Vals vs us) (rz : Vals zs ws) (h : sp (gV vs zs) H Q (E σ)) : wpAny (model X.prog X.w) X.A (call (.ref f) us (ks.zip ws)) (EP X pins σ Q) X.xe s := by
  have r2 := hb.rel r rz
  have hl : (gl us ws).length = ps.length := by rw [← r2.length]; exact F.len _ _ _ _ h
  refine wpAny_call (codeAny_mono (F.run X.A X.stack s H ⟨us, ks.zip ws⟩ (gl us ws) (gV vs zs) Q (E σ) hr I.env0 (hb.to s us ws I.kIn hl) r2 h) fun r s' hq => ?_)
  cases r with
  | error e => exact hx pins H s e s' I hq
  | ok fl =>
    cases fl with
    | ret u => exact I.after hq
    | next => exact False.elim hq
    | brk => exact False.elim hq
    | cont => exact False.elim hq
section
variable {lv : Nat} {x : Str} {st : Stmt} {ps ks : List Str} {F : FN} {p : Pos} {kws : List Keyword} {hs : List EX} {order : List Nat} {n m : Nat}
theorem kw_end {σ : L2.St} {H : Hp} {Q : VK} (hn : fs.length = n) (hm : hs.length = m) (ho : order.length = ps.length)
    (q : RdE K mg W (eCallKw F order fs hs) σ H Q) : RdL K mg W (eList fs) σ H fun vs H1 => RdL K mg W (eList hs) σ H1 fun zs H2 => SpM K mg ps F (kwG n m order .non vs zs) H2 Q (WE W.w σ) := by
  have q1 := RdA.seq (R := fun g p v => RelPs K mg g p v) (f := eList fs) (k := fun xs e s => (eList hs e s).bind fun ys s => F (order.map fun j => (xs ++ ys).getD j .non) s) q
  refine (ia_len hn q1).imp fun vs H1 ⟨hl, q⟩ => ?_
  obtain ⟨xs, g, env, e, ok, re, r, q⟩ := q
  have q2 : RdL K mg W (eList hs) σ H1 (fun zs H2 => ∃ ys g, g.H = H2 ∧ g.Ok K mg ∧ RelPs K mg g xs vs ∧ RelPs K mg g ys zs ∧ OutA K mg (fun g p v => RelP K mg g p v) g σ W (F (order.map fun j => (xs ++ ys).getD j .non) g.s) Q) := by
    refine ⟨g, env, e, ok, re, ?_⟩
    revert q
    cases eList hs env g.s with
    | exc c p s' => exact id
    | stuck => exact id
    | ok ys s2 =>
      intro q g' v x' ok' es r2
      refine ⟨ys, g', rfl, ok', r.ext ok x', r2, ?_⟩
      rw [es]
      exact OutA.back ok ok' x' q
  refine (ia_len hm q2).imp fun zs H2 ⟨hl2, q⟩ => ?_
  obtain ⟨ys, g2, e2, ok2, r1, r2, q⟩ := q
  have ek : kwG n m order V.non vs zs = order.map fun j => (vs ++ zs).getD j .non := by
    unfold kwG
    rw [if_pos ⟨hl, hl2⟩]
  rw [ek]
  exact SpM.of (by rw [List.length_map, ho]) e2 ok2 ((r1.append r2).order order) q
/-- f(.., k = ..) -/
theorem ie_callK (D : Def X.prog X.w X.K X.mg X.base lv x st ps F) (hr : Room lv X.A) (hg : Gl X x) (tk : Takes X W.w) (ha : IA X W (a :: es) (eList fs)) (hkw : IK X W kws (eList hs)) (hp : ps ≠ [])
    (hb : ∀ (nm : Str) (kV doc pm : Value) (an : Option Addr) (cdv ct : Value) (us ws : List Value), us.length = fs.length → ws.length = hs.length →
      bindArgs (PySem.W.fnOf nm nm (defArgs st) (defBody st) (defScope st) .none kV doc pm an cdv ct) ⟨us, ks.zip ws⟩ = pure (ps.zip (order.map fun j => (us ++ ws).getD j .none))) (ho : order.length = ps.length := by rfl)
    (hall : (backToKw pos (keywordEach kws X.env)).all (·.1.isSome) = true := by rfl) (hks : (backToKw pos (keywordEach kws X.env)).filterMap (·.1) = ks := by rfl)
    (hdb : (x == ("__debug__" : Str)) = false := by decide) (he : starEach (a :: es) X.env = (false, eval a X.env) :: starEach es X.env := by rfl)
    (hpl : ((backTo pos (starEach (a :: es) X.env)).any (·.1) || (backToKw pos (keywordEach kws X.env)).any (·.1.isNone)) = false := by rfl) :
    IE X W (.Call (.Name x p) (a :: es) kws pos) (eCallKw F order fs hs) := by
  obtain ⟨nm, fa, fd, hm, hk, F0, _, D⟩ := D.ex
  refine ⟨fun pins s σ H Q I q => ?_⟩
  have q := kw_end (ps := ps) rfl rfl ho q
  refine wpAny_Call_Name_kw (ld_glob I hg hm ?_ hdb)
  refine PySem.W.callWith_KW (h₀ := X.base) I.ok.mod.kin hk hall (thn (ha.run pos pins s σ H _ I q) fun us s1 ⟨vs, H1, I1, r, q⟩ => ?_) hpl he
  refine thn (hkw.run pos pins s1 σ H1 _ I1 q) fun ws s2 ⟨zs, H2, I2, rz, q2⟩ => ⟨I2.kIn, ?_⟩
  rw [hks]
  exact run_fnkS (E := WE W.w) D hr (kb_of F0 hp (hb nm)) (passAt tk σ) I2 r rz q2
/-- f(k = ..) -/
theorem ie_callK0 (D : Def X.prog X.w X.K X.mg X.base lv x st ps F) (hr : Room lv X.A) (hg : Gl X x) (tk : Takes X W.w) (hkw : IK X W kws (eList hs)) (hp : ps ≠ [])
    (hb : ∀ (nm : Str) (kV doc pm : Value) (an : Option Addr) (cdv ct : Value) (us ws : List Value), us.length = 0 → ws.length = hs.length →
      bindArgs (PySem.W.fnOf nm nm (defArgs st) (defBody st) (defScope st) .none kV doc pm an cdv ct) ⟨us, ks.zip ws⟩ = pure (ps.zip (order.map fun j => (us ++ ws).getD j .none))) (ho : order.length = ps.length := by rfl)
    (hall : (backToKw pos (keywordEach kws X.env)).all (·.1.isSome) = true := by rfl) (hks : (backToKw pos (keywordEach kws X.env)).filterMap (·.1) = ks := by rfl)
    (hdb : (x == ("__debug__" : Str)) = false := by decide)
    (hpl : ((backTo pos (starEach [] X.env)).any (·.1) || (backToKw pos (keywordEach kws X.env)).any (·.1.isNone)) = false := by rfl) :
    IE X W (.Call (.Name x p) [] kws pos) (eCallKw F order [] hs) := by
  obtain ⟨nm, fa, fd, hm, hk, F0, _, D⟩ := D.ex
  refine ⟨fun pins s σ H Q I q => ?_⟩
  have q := kw_end (ps := ps) (n := 0) rfl rfl ho q
  have q : RdL X.K X.mg W (eList hs) σ H fun zs H2 => SpM X.K X.mg ps F (kwG 0 hs.length order .non [] zs) H2 Q (WE W.w σ) := RdA.pure (fun _ => RelPs.nil) q
  refine wpAny_Call_Name_kw (ld_glob I hg hm ?_ hdb)
  refine PySem.W.callWith_KW0 (h₀ := X.base) I.ok.mod.kin hk hall (thn (hkw.run pos pins s σ H _ I q) fun ws s2 ⟨zs, H2, I2, rz, q2⟩ => ⟨I2.kIn, ?_⟩) hpl
  rw [hks]
  exact run_fnkS (E := WE W.w) (us := []) (vs := []) D hr (kb_of F0 hp (hb nm)) (passAt tk σ) I2 .nil rz q2
end
end
end
end Mr
namespace Mr
noncomputable section
open PySem PySem.Spec PyProof.Rows L2
/-! ### what is walked -/
section
variable (K : PySem.W.Frag) (mg : MG)
def ItRel (g : G) (xs : List PV) (J : It) : Prop := ∀ g1, Keeps g g1 → g1.Ok K mg → ∀ i : Nat,
  (∀ p, xs[i]? = some p → J.go i g1.H ∧ ∀ v H', J.yld i g1.H v H' → ∃ g2, g2.H = H' ∧ Ext g1 g2 ∧ g2.Ok K mg ∧ g2.s = g1.s ∧ RelP K mg g2 p v) ∧ (xs.length ≤ i → J.stop i g1.H)
end
abbrev II (X : Cx) (W : WY) (tg e : Expr) (f : Env → MS → Res (List PV)) : Prop := PI X tg e (RdA X.K X.mg (ItRel X.K X.mg) W f)
abbrev AS := PV → Env → MS → Option (Env × MS)
section
variable (K : PySem.W.Frag) (mg : MG)
def RdG (B : Option (Nat × Addr × Addr × String × PV)) (ts : List Nat) (as : AS) : TG := fun v σ H Q => ∃ g p env env' s', g.H = H ∧ g.Ok K mg ∧ RelP K mg g p v ∧ RelEnv K mg B g env σ ∧ as p env g.s = some (env', s') ∧
  ∀ g' σ', Ext g g' → g'.Ok K mg → g'.s = s' → RelEnv K mg B g' env' σ' → (∀ i : Nat, i ∉ ts → σ'[i]? = σ[i]?) → σ'.length = σ.length → Q σ' g'.H
def RdGs (B : Option (Nat × Addr × Addr × String × PV)) (ts : List Nat) (as : List PV → Env → MS → Option (Env × MS)) : TGs := fun vs σ H Q => ∃ g ps env env' s', g.H = H ∧ g.Ok K mg ∧ RelPs K mg g ps vs ∧ RelEnv K mg B g env σ ∧ as ps env g.s = some (env', s') ∧
  ∀ g' σ', Ext g g' → g'.Ok K mg → g'.s = s' → RelEnv K mg B g' env' σ' → (∀ i : Nat, i ∉ ts → σ'[i]? = σ[i]?) → σ'.length = σ.length → Q σ' g'.H
end
abbrev IG (X : Cx) (B : Option (Nat × Addr × Addr × String × PV)) (tg : Expr) (ts : List Nat) (as : AS) : Prop := PG X tg (RdG X.K X.mg B ts as)
abbrev IGs (X : Cx) (B : Option (Nat × Addr × Addr × String × PV)) (tgs : List Expr) (ts : List Nat) (as : List PV → Env → MS → Option (Env × MS)) : Prop := PGs X tgs (RdGs X.K X.mg B ts as)
def aName (i : Nat) : AS := fun p e s => some (e.set i (some p), s)
def aAll : List AS → List PV → Env → MS → Option (Env × MS)
  | [], [], e, s => some (e, s)
  | a :: as, p :: ps, e, s => match a p e s with
    | some (e', s') => aAll as ps e' s'
    | none => none
  | _, _, _, _ => none
def aTup (as : List AS) : AS := fun p e s => match p with
  | .tup ps => aAll as ps e s
  | _ => none
def aLst (as : List AS) : AS := fun p e s => match deref s p with
  | .lst ps => aAll as ps e s
  | _ => none
section
variable {K : PySem.W.Frag} {mg : MG} {g : G} {X : Cx} {W : WY} {B : Option (Nat × Addr × Addr × String × PV)} {pos : Pos}
theorem PG.weak {tg : Expr} {t t' : TG} (h : PG X tg t) (w : ∀ v σ H Q, t' v σ H Q → t v σ H Q) : PG X tg t' := ⟨fun pins s σ H v u Q I r q => h.run pins s σ H v u Q I r (w v σ H Q q)⟩
theorem PGs.weak {tg : List Expr} {t t' : TGs} (h : PGs X tg t) (w : ∀ v σ H Q, t' v σ H Q → t v σ H Q) : PGs X tg t' := ⟨fun pins s σ H v u Q I r q => h.run pins s σ H v u Q I r (w v σ H Q q)⟩
theorem RelEnv.set {env : Env} {σ : L2.St} (h : RelEnv K mg B g env σ) (i : Nat) {p : PV} {v : V} (r : RelP K mg g p v) (hB : ∀ b, B = some b → b.1 ≠ i) : RelEnv K mg B g (env.set i (some p)) (σ.set i (some v)) := by
  refine ⟨by simp [h.len], fun i' a dd c p e => ?_, fun j q e => ?_⟩
  · obtain ⟨e1, e2⟩ := h.er i' a dd c p e
    exact ⟨by rw [List.getElem?_set_ne (Ne.symm (hB _ e))]; exact e1, e2⟩
  by_cases hj : j = i
  · subst hj
    have hlt : j < env.length := by
      rcases Nat.lt_or_ge j env.length with z | z
      · exact z
      · rw [List.getElem?_eq_none_iff.mpr (by simpa using z)] at e; cases e
    rw [List.getElem?_set_self hlt] at e
    cases e
    exact ⟨v, List.getElem?_set_self (h.len ▸ hlt), r⟩
  · rw [List.getElem?_set_ne (Ne.symm hj)] at e
    obtain ⟨u, a, b⟩ := h.at_ j q e
    exact ⟨u, by rw [List.getElem?_set_ne (Ne.symm hj)]; exact a, b⟩
theorem ig_name (i : Nat) {x : Str} (hN : X.N.Nodup) (hi : X.N[i]? = some x) (hx : Loc X.env.scope x) (hf : X.fn x = true ∨ X.env.scope.names.lookup x = some .local := by first | exact .inl rfl | exact .inr rfl | assumption) (hB : ∀ b, B = some b → b.1 ≠ i := by intro b h; cases h <;> (dsimp only; decide)) : IG X B (.Name x pos) [i] (aName i) :=
  PG.weak (pg_name hN hi hx hf) fun v σ H Q q => by
    obtain ⟨g, p, env, env', s', e, ok, r, re, ha, q⟩ := q
    have ha' : some (env.set i (some p), g.s) = some (env', s') := ha
    cases ha'
    have h := q g (σ.set i (some v)) (Ext.refl g) ok rfl (re.set i r hB) (fun j hj => List.getElem?_set_ne (fun z => hj (by simp [z]))) (by simp)
    exact e ▸ h
theorem igs_nil : IGs X B [] [] (aAll []) := PGs.weak pgs_nil fun vs σ H Q q => by
  obtain ⟨g, ps, env, env', s', e, ok, r, re, ha, q⟩ := q
  cases ps with
  | nil =>
    have hv := r.length
    have ha' : some (env, g.s) = some (env', s') := ha
    cases ha'
    refine ⟨List.length_eq_zero_iff.mp (by simpa using hv.symm), ?_⟩
    exact e ▸ q g σ (Ext.refl g) ok rfl re (fun _ _ => rfl) rfl
  | cons _ _ => exact nomatch ha
theorem igs_cons {a : Expr} {es : List Expr} {t u : List Nat} {as : AS} {bs : List AS} (h1 : IG X B a t as) (h2 : IGs X B es u (aAll bs))
    (hs : (assignEach (a :: es) X.env).map (·.2) = assign a X.env :: (assignEach es X.env).map (·.2) := by rfl) : IGs X B (a :: es) (t ++ u) (aAll (as :: bs)) :=
  PGs.weak (pgs_cons h1 h2 hs) fun vs σ H Q q => by
    obtain ⟨g, ps, env, env', s', e, ok, r, re, ha, q⟩ := q
    cases ps with
    | nil => exact nomatch ha
    | cons p ps =>
      simp only [RelPs] at r
      obtain ⟨v, rs, rfl, r1, r2⟩ := r
      simp only [aAll] at ha
      cases hp : as p env g.s with
      | none => rw [hp] at ha; exact nomatch ha
      | some es1 =>
        obtain ⟨env1, s1⟩ := es1
        rw [hp] at ha
        refine ⟨v, rs, rfl, g, p, env, env1, s1, e, ok, r1, re, hp, fun g1 σ1 x1 ok1 e1 re1 k1 l1 => ?_⟩
        refine ⟨g1, ps, env1, env', s', rfl, ok1, r2.ext ok x1, re1, by rw [e1]; exact ha, fun g2 σ2 x2 ok2 e2 re2 k2 l2 => ?_⟩
        exact q g2 σ2 (x1.trans ok ok1 x2) ok2 e2 re2 (fun i hi => (k2 i (fun z => hi (List.mem_append_right _ z))).trans (k1 i fun z => hi (List.mem_append_left _ z))) (l2.trans l1)
theorem ig_tup {es : List Expr} {k : Nat} {ts : List Nat} {as : List AS} (hc : X.calm = true) (h : IGs X B es ts (aAll as)) (hl : as.length = es.length := by rfl)
    (hn : (assignEach es X.env).length = es.length := by rfl) (hst : (assignEach es X.env).findIdx? (·.1) = none := by rfl) : IG X B (.Tuple es k pos) ts (aTup as) :=
  PG.weak (pg_tup hc h hn hst) fun v σ H Q q => by
    obtain ⟨g, p, env, env', s', e, ok, r, re, ha, q⟩ := q
    cases p with
    | tup ps =>
      simp only [RelP] at r
      obtain ⟨a, vs, rfl, h1, h2⟩ := r
      have len : ∀ (as : List AS) (ps : List PV) (e : Env) (s : MS) (z : Env × MS), aAll as ps e s = some z → ps.length = as.length := by
        intro as
        induction as with
        | nil => intro ps e s z h; cases ps with
          | nil => rfl
          | cons _ _ => exact nomatch h
        | cons a as ih => intro ps e s z h; cases ps with
          | nil => exact nomatch h
          | cons p ps =>
            simp only [aAll] at h
            cases hp : a p e s with
            | none => rw [hp] at h; exact nomatch h
            | some es => rw [hp] at h; simp [ih _ _ _ _ h]
      exact ⟨a, vs, rfl, e ▸ SqT.of h1, by rw [← h2.length, len as ps env g.s _ ha, hl], g, ps, env, env', s', e, ok, h2, re, ha, q⟩
    | _ => exact nomatch ha
end
/-! ### list comprehensions -/
def compM (as : AS) (tt : ET) (te : EX) (env : Env) : List PV → MS → Res (List PV)
  | [], s => .ok [] s
  | x :: xs, s => match as x env s with
    | none => .stuck
    | some (e, s) => (tt e s).bind fun b s => if b = true then (te e s).bind fun y s => (compM as tt te env xs s).bind fun ys s => .ok (y :: ys) s else compM as tt te env xs s
/-- nothing is raised -/
def Res.calm {α : Type} : Res α → Res α
  | .ok a s => .ok a s
  | _ => .stuck
def wipeE (env : Env) : List Nat → Env
  | [] => env
  | v :: vs => (wipeE env vs).set v none
def tYs : ET := fun _ s => .ok true s
def eComp (vs : List Nat) (fi : Env → MS → Res (List PV)) (as : AS) (tt : ET) (te : EX) : EX := fun e s => (fi e s).bind fun xs s => if xs.length ≤ LIM then (compM as tt te (wipeE e vs) xs s).calm.bind fun ys s => .ok (.lst ys) s else .stuck
abbrev W0 : WY := ⟨fun _ _ _ _ => False, none⟩
section
variable {K : PySem.W.Frag} {mg : MG} {g g' : G}
/-- a list that is being made: nobody knows it -/
structure Hid (g : G) (D : Addr) (l : List V) : Prop where
  at_ : g.H D = some (.lst l)
  z : ¬ g.Z D
  live : ¬ Live g D
theorem Hid.ext {D : Addr} {l : List V} (ok : g.Ok K mg) (x : Ext g g') (h : Hid g D l) : Hid g' D l := by
  refine ⟨x.H D _ h.at_ h.live, fun z => ?_, fun ⟨i, hi, e⟩ => ?_⟩
  · rcases x.zNew D z with q | q | q
    · exact h.z q
    · rw [h.at_] at q; cases q
    · exact h.live q
  · rcases x.mNew i hi with q | ⟨_, q⟩
    · exact h.live ⟨i, q, (x.ρ i (ok.lt q)).symm.trans e⟩
    · rw [e, h.at_] at q; cases q
abbrev G.re (g : G) (D : Addr) (l : List V) : G := { g with H := upd g.H D (.lst l) }
section
variable {D : Addr} {l l' : List V}
theorem Hid.keeps (h : Hid g D l) : Keeps g (g.re D l') where
  n := Nat.le_refl _
  ρ := fun _ _ => rfl
  tup := fun a vs t => by
    show upd g.H D _ a = _
    rw [upd_ne (fun z => by rw [z, h.at_] at t; cases t)]; exact t
  frz := fun a o u t => by
    show upd g.H D _ a = _
    rw [upd_ne (fun z => by rw [z, h.at_] at t; cases t)]; exact t
  rng := fun a i j t => by
    show upd g.H D _ a = _
    rw [upd_ne (fun z => by rw [z, h.at_] at t; cases t)]; exact t
  lst := fun a vs t z => ⟨by
    show upd g.H D _ a = _
    rw [upd_ne (fun q => h.z (by rw [← q]; exact z))]; exact t, z⟩
theorem Hid.re (h : Hid g D l) : Hid (g.re D l') D l' := ⟨upd_same, h.z, h.live⟩
theorem Hid.ok (ok : g.Ok K mg) (h : Hid g D l) : (g.re D l').Ok K mg where
  wf := ok.wf
  inj := ok.inj
  out := ok.out
  zd := fun a z => by
    show upd g.H D _ a ≠ none
    rw [upd_ne (fun q => h.z (by rw [← q]; exact z))]; exact ok.zd a z
  obj := fun i o e => RelO.keep h.keeps (fun u q => by
    show upd g.H D _ _ = _
    rw [upd_ne (fun z => h.live ⟨i, by
      have e' : g.s.m i = some o := e
      rw [e']; simp, z⟩)]; exact q) (ok.obj i o e)
theorem Hid.extRe {g0 : G} (x : Ext g0 g) (h0 : g0.H D = none) : Ext g0 (g.re D l') where
  n := x.n
  ρ := x.ρ
  Z := x.Z
  H := fun a o e nl => by
    show upd g.H D _ a = _
    rw [upd_ne (ne_of_none e h0)]; exact x.H a o e nl
  dom := fun a e => by
    show upd g.H D _ a ≠ none
    by_cases q : a = D
    · rw [q, upd_same]; simp
    · rw [upd_ne q]; exact x.dom a e
  zNew := x.zNew
  mNew := x.mNew
/-- the list is done: it stands as it is -/
abbrev G.seal (g : G) (D : Addr) : G := { g with Z := fun b => g.Z b ∨ b = D }
theorem seal_keeps : Keeps g (g.seal D) := ⟨Nat.le_refl _, fun _ _ => rfl, fun _ _ q => q, fun _ _ _ q => q, fun _ _ _ q => q, fun _ _ q z => ⟨q, .inl z⟩⟩
theorem Hid.seal_ok (ok : g.Ok K mg) (h : Hid g D l) : (g.seal D).Ok K mg where
  wf := ok.wf
  inj := ok.inj
  out := fun i hi z => by
    rcases z with z | z
    · exact ok.out i hi z
    · exact h.live ⟨i, hi, z⟩
  zd := fun a z => by
    rcases z with z | z
    · exact ok.zd a z
    · rw [z]; show g.H D ≠ none; rw [h.at_]; simp
  obj := fun i o e => RelO.keep seal_keeps (fun _ q => q) (ok.obj i o e)
theorem seal_ext {g0 : G} (x : Ext g0 g) (h0 : g0.H D = none) : Ext g0 (g.seal D) where
  n := x.n
  ρ := x.ρ
  Z := fun a z => .inl (x.Z a z)
  H := x.H
  dom := x.dom
  zNew := fun a z => by
    rcases z with z | z
    · exact x.zNew a z
    · exact .inr (.inl (z ▸ h0))
  mNew := x.mNew
end
end
section
variable {X : Cx} {W : WY} {elt tg iter : Expr} {ifs : List Expr} {scope : Scope} {own : List (Str × Nat)} {pos : Pos} {fi : Env → MS → Res (List PV)} {as : AS} {tt : ET} {te : EX} {ts : List Nat}
theorem wipeE_length (e : Env) : ∀ vs : List Nat, (wipeE e vs).length = e.length
  | [] => rfl
  | v :: vs => by simp [wipeE, wipeE_length e vs]
theorem RelEnv.wipe {K : PySem.W.Frag} {mg : MG} {g : G} {B : Option (Nat × Addr × Addr × String × PV)} {env : Env} {σ : L2.St} (h : RelEnv K mg B g env σ) : ∀ vs : List Nat, RelEnv K mg none g (wipeE env vs) (L2.wipe σ vs)
  | [] => ⟨h.len, fun _ _ _ _ _ e => (nomatch e), h.at_⟩
  | v :: vs => by
    have ih := RelEnv.wipe h vs
    refine ⟨by simp [wipeE, L2.wipe, ih.len], fun _ _ _ _ _ e => (nomatch e), fun i p e => ?_⟩
    simp only [wipeE] at e
    by_cases hi : i = v
    · subst hi
      rw [List.getElem?_set] at e
      simp at e
    · rw [List.getElem?_set_ne (Ne.symm hi)] at e
      obtain ⟨u, a, b⟩ := ih.at_ i p e
      exact ⟨u, by simp only [L2.wipe]; rw [List.getElem?_set_ne (Ne.symm hi)]; exact a, b⟩
theorem wipe_congr {σ σ' : L2.St} : ∀ {vs : List Nat}, σ'.length = σ.length → (∀ i, i ∉ vs → σ'[i]? = σ[i]?) → L2.wipe σ' vs = L2.wipe σ vs := by
  intro vs hl h
  have key : ∀ (vs : List Nat) (σ : L2.St) (i : Nat), (L2.wipe σ vs)[i]? = if i ∈ vs then (if i < σ.length then some none else none) else σ[i]? := by
    intro vs
    induction vs with
    | nil => intro σ i; simp [L2.wipe]
    | cons v vs ih =>
      intro σ i
      simp only [L2.wipe]
      by_cases hi : i = v
      · subst hi
        rw [List.getElem?_set]
        simp [L2.wipe_length]
      · rw [List.getElem?_set_ne (Ne.symm hi), ih σ i]
        simp [hi]
  apply List.ext_getElem?
  intro i
  rw [key vs σ' i, key vs σ i, hl]
  by_cases hi : i ∈ vs
  · simp [hi]
  · simp [hi, h i hi]
abbrev ITs (X : Cx) (W : WY) (ifs : List Expr) (f : ET) : Prop := PTs X ifs (RdT X.K X.mg W f)
theorem its_nil : ITs X W [] tYs := by
  refine ⟨fun pins s σ H Q I q => pts_nil.run pins s σ H Q I ?_⟩
  exact RdA.pure (fun _ => rfl) q
theorem its_one {c : Expr} {t : ET} (h : IT X W c t) : ITs X W [c] t := pts_one h
/-- [elt for tg in iter if ..]: a list that nobody changes -/
theorem tLc_of {K : PySem.W.Frag} {mg : MG} {σ : L2.St} {H : Hp} {Q : VK} {vs : List Nat} (hts : ∀ i ∈ ts, i ∈ vs) (q : RdE K mg W (eComp vs fi as tt te) σ H Q) :
    tLc (RdA K mg (ItRel K mg) W fi) (RdG K mg none ts as) (RdT K mg W0 tt) (RdE K mg W0 te) vs σ H Q := by
  unfold tLc
  refine (RdA.seq (R := ItRel K mg) (f := fi) (k := fun xs e s => if xs.length ≤ LIM then (compM as tt te (wipeE e vs) xs s).calm.bind fun ys s => Res.ok (PV.lst ys) s else Res.stuck) q).imp fun J H1 q => ?_
  obtain ⟨xs, g, env, rfl, ok, re, J0, q⟩ := q
  intro D hD
  by_cases hl : xs.length ≤ LIM
  · simp only [hl, if_true] at q
    -- the invariant
    let P : Nat → Hp → Prop := fun i H => ∃ g1 acc accV, g1.H = H ∧ g1.Ok K mg ∧ Ext g g1 ∧ Hid g1 D accV ∧ RelPs K mg g1 acc accV ∧ acc.length ≤ i ∧
      match compM as tt te (wipeE env vs) (xs.drop i) g1.s with
      | .ok ys s' => ∀ g' v, Ext g g' → g'.Ok K mg → g'.s = s' → RelP K mg g' (.lst (acc ++ ys)) v → Q v g'.H
      | _ => False
    refine ⟨fun i m H => m = xs.length - i ∧ i ≤ xs.length ∧ P i H, ⟨xs.length, by simp, Nat.zero_le _, ?_⟩, ?_⟩
    · have h0 : Hid (g.new D (.lst [])) D [] := ⟨upd_same, fun z => ok.zd D z hD, fun ⟨i, hi, e⟩ => by
        obtain ⟨o, e2, _⟩ := ok.kind ⟨i, hi, e⟩
        rw [hD] at e2; cases e2⟩
      refine ⟨g.new D (.lst []), [], [], rfl, G.new_ok ok hD, G.new_ext hD, h0, RelPs.nil, Nat.le_refl _, ?_⟩
      rw [List.drop_zero]
      show (match compM as tt te (wipeE env vs) xs g.s with
        | .ok ys s' => _
        | _ => False)
      revert q
      cases compM as tt te (wipeE env vs) xs g.s with
      | exc c p s' => exact id
      | stuck => exact id
      | ok ys s' =>
        intro q g' v x' ok' es r
        exact q g' v x' ok' es (by simpa using r)
    · rintro i m H ⟨rfl, hi, g1, acc, accV, rfl, ok1, x1, hid, ra, hai, fin⟩
      by_cases hlt : i < xs.length
      · obtain ⟨p, hp⟩ : ∃ p, xs[i]? = some p := ⟨xs[i], by simp [hlt]⟩
        have J1 := J0 g1 (x1.keeps ok) ok1 i
        obtain ⟨hgo, hy⟩ := J1.1 p hp
        refine .inr ⟨hgo, P (i + 1), fun H' h => ⟨xs.length - (i + 1), by omega, rfl, hlt, h⟩, fun x H' hyl => ?_⟩
        obtain ⟨g2, rfl, x2, ok2, e2, rp⟩ := hy x H' hyl
        have hdrop : xs.drop i = p :: xs.drop (i + 1) := by
          rw [List.drop_eq_getElem_cons hlt]
          congr 1
          have := (List.getElem?_eq_some_iff.mp hp).2
          exact this
        rw [hdrop] at fin
        simp only [compM] at fin
        cases ha : as p (wipeE env vs) g1.s with
        | none => rw [ha] at fin; exact fin.elim
        | some es =>
          obtain ⟨env', s3⟩ := es
          rw [ha] at fin
          dsimp only at fin
          have x12 := x1.trans ok ok1 x2
          have hid2 := hid.ext ok1 x2
          refine ⟨g2, p, wipeE env vs, env', s3, rfl, ok2, rp, (re.ext ok x12).wipe vs, by rw [e2]; exact ha, fun g3 σ3 x3 ok3 e3 re3 k3 l3 => ?_⟩
          have x13 := x12.trans ok ok2 x3
          have hid3 := hid2.ext ok2 x3
          have l3' : σ3.length = (L2.wipe σ vs).length := l3
          refine ⟨by
            rw [wipe_congr (σ := L2.wipe σ vs) l3' (fun j hj => k3 j fun z => hj (hts j z))]
            exact wipe_congr (L2.wipe_length σ vs) (fun j hj => L2.wipe_out hj), g3, env', rfl, ok3, re3, ?_⟩
          subst e3
          revert fin
          cases tt env' g3.s with
          | exc c p s' => exact fun h => h.elim
          | stuck => exact id
          | ok b s4 =>
            simp only [bind_ok]
            intro fin g4 b' x4 ok4 e4 hb
            subst hb
            have x14 := x13.trans ok ok3 x4
            have hid4 := hid3.ext ok3 x4
            have ra4 := ((ra.ext ok1 x2).ext ok2 x3).ext ok3 x4
            cases b with
            | false =>
              simp only [if_neg Bool.false_ne_true] at fin ⊢
              subst e4
              exact ⟨g4, acc, accV, rfl, ok4, x14, hid4, ra4, by omega, fin⟩
            | true =>
              simp only [if_true] at fin ⊢
              refine ⟨g4, env', rfl, ok4, re3.ext ok3 x4, ?_⟩
              subst e4
              revert fin
              cases te env' g4.s with
              | exc c p s' => exact fun h => h.elim
              | stuck => exact id
              | ok y s5 =>
                simp only [bind_ok]
                intro fin g5 v x5 ok5 e5 r5
                have hid5 := hid4.ext ok4 x5
                have ra5 := ra4.ext ok4 x5
                have x15 := x14.trans ok ok4 x5
                refine ⟨accV, hid5.at_, ?_, ?_⟩
                · rw [← sizeLIM, ← ra.length]
                  omega
                · refine ⟨g5.re D (accV ++ [v]), acc ++ [y], accV ++ [v], rfl, hid5.ok ok5, Hid.extRe x15 hD, hid5.re, (ra5.append (RelPs.cons r5 RelPs.nil)).keep hid5.keeps, by simp; omega, ?_⟩
                  show (match compM as tt te (wipeE env vs) (xs.drop (i + 1)) g5.s with
                    | .ok ys s' => _
                    | _ => False)
                  subst e5
                  revert fin
                  cases compM as tt te (wipeE env vs) (xs.drop (i + 1)) g5.s with
                  | exc c p s' => exact id
                  | stuck => exact id
                  | ok ys s' =>
                    intro fin g' w x' ok' es r
                    exact fin g' w x' ok' es (by simpa using r)
      · have e : i = xs.length := by omega
        subst e
        refine .inl ⟨(J0 g1 (x1.keeps ok) ok1 _).2 (Nat.le_refl _), ?_⟩
        rw [List.drop_length] at fin
        simp only [compM, List.append_nil] at fin
        refine fin (g1.seal D) (.ref D) (seal_ext x1 hD) (hid.seal_ok ok1) rfl ?_
        simp only [RelP]
        exact ⟨D, accV, rfl, ⟨hid.at_, .inr rfl⟩, ra.keep seal_keeps⟩
  · simp only [hl, if_false] at q
    exact q.elim
theorem ie_lc (hc : X.calm = true) (hN : X.N.Nodup) (hi : II X W tg iter fi) (ok : BlkOk X.N X.env.scope scope own)
    (hg : ∀ (s : Shared) (H : Hp) (C : Addr) (cl : List (Str × Addr)) (fp : List Addr), IG (X.blk s H scope (compEnvC scope cl C X.env) fp) none tg ts as) (ht : ∀ (s : Shared) (H : Hp) (C : Addr) (cl : List (Str × Addr)) (fp : List Addr), ITs (X.blk s H scope (compEnvC scope cl C X.env) fp) W0 ifs tt)
    (he : ∀ (s : Shared) (H : Hp) (C : Addr) (cl : List (Str × Addr)) (fp : List Addr), IE (X.blk s H scope (compEnvC scope cl C X.env) fp) W0 elt te) (hts : ∀ i ∈ ts, i ∈ own.map (·.2) := by decide) (hs : ∀ x, foldedSetIterable iter X.env x = pure x := by intro _; rfl) :
    IE X W (.ListComp elt [⟨tg, iter, ifs, 0⟩] scope pos) (eComp (own.map (·.2)) fi as tt te) :=
  PE.weak (pe_lc hc hN hi ok hg ht he hs) fun σ H Q q => tLc_of hts q
end
end
end Mr
namespace Mr
noncomputable section
open PySem PySem.Spec PyProof.Rows L2
/-! ### statements -/
section
variable (K : PySem.W.Frag) (mg : MG)
def OutS (g : G) (W : WY) (D : Ends) (r : SRes) : Prop := match r with
  | .nx e s => ∀ g' σ', Ext g g' → g'.Ok K mg → g'.s = s → RelEnv K mg W.b g' e σ' → D.nx σ' g'.H
  | .rt p s => ∀ g' v, Ext g g' → g'.Ok K mg → g'.s = s → RelP K mg g' p v → D.rt v g'.H
  | .bk e s => ∀ g' σ', Ext g g' → g'.Ok K mg → g'.s = s → RelEnv K mg W.b g' e σ' → D.bk σ' g'.H
  | .ct e s => ∀ g' σ', Ext g g' → g'.Ok K mg → g'.s = s → RelEnv K mg W.b g' e σ' → D.ct σ' g'.H
  | .ex c p e s => ∀ g' cls d σ', Ext g g' → g'.Ok K mg → g'.s = s → RelEnv K mg W.b g' e σ' → ExcR K mg c p g' cls d → W.w cls d σ' g'.H
  | .stuck => False
def RdS (W : WY) (h : SX) : TS := fun D σ H => ∃ g env, g.H = H ∧ g.Ok K mg ∧ RelEnv K mg W.b g env σ ∧ OutS K mg g W D (h env g.s)
end
abbrev IS (X : Cx) (W : WY) (st : Stmt) (h : SX) : Prop := PS X st (RdS X.K X.mg W h)
abbrev ISs (X : Cx) (W : WY) (st : List Stmt) (h : SX) : Prop := PSs X st (RdS X.K X.mg W h)
def sNil : SX := fun e s => .nx e s
def sSeq (h k : SX) : SX := fun e s => match h e s with
  | .nx e s => k e s
  | r => r
def sRet (f : EX) : SX := fun e s => (f e s).sbind e fun x s => .rt x s
def sRetN : SX := fun _ s => .rt .non s
def sDo (f : EX) : SX := fun e s => (f e s).sbind e fun _ s => .nx e s
def sIf (c : ET) (h k : SX) : SX := fun e s => (c e s).sbind e fun b s => if b = true then h e s else k e s
def sSet (f : EX) (as : AS) : SX := fun e s => (f e s).sbind e fun x s => match as x e s with
  | some (e, s) => .nx e s
  | none => .stuck
def forM (as : AS) (body : SX) : List PV → SX
  | [], e, s => .nx e s
  | x :: xs, e, s => match as x e s with
    | none => .stuck
    | some (e, s) => match body e s with
      | .nx e s => forM as body xs e s
      | .ct e s => forM as body xs e s
      | .bk e s => .nx e s
      | r => r
def sFor (fi : Env → MS → Res (List PV)) (as : AS) (body : SX) : SX := fun e s => (fi e s).sbind e fun xs s => forM as body xs e s
def whileM (c : ET) (body : SX) : Nat → SX
  | 0, _, _ => .stuck
  | n + 1, e, s => (c e s).sbind e fun b s => if b = true then (match body e s with
      | .nx e s => whileM c body n e s
      | .ct e s => whileM c body n e s
      | .bk e s => .nx e s
      | r => r) else .nx e s
def sBreak : SX := fun e s => .bk e s
section
variable {K : PySem.W.Frag} {mg : MG} {g g1 : G} {X : Cx} {W : WY} {D : Ends} {pos : Pos} {st : Stmt} {sts body : List Stmt} {a c tg iter : Expr} {h k u : SX} {f : EX} {t : ET}
theorem OutS.back {r : SRes} (ok : g.Ok K mg) (ok1 : g1.Ok K mg) (x : Ext g g1) (h : OutS K mg g W D r) : OutS K mg g1 W D r := by
  cases r with
  | nx e s => exact fun g' σ' x' => h g' σ' (x.trans ok ok1 x')
  | rt p s => exact fun g' v x' => h g' v (x.trans ok ok1 x')
  | bk e s => exact fun g' σ' x' => h g' σ' (x.trans ok ok1 x')
  | ct e s => exact fun g' σ' x' => h g' σ' (x.trans ok ok1 x')
  | ex c p e s => exact fun g' cls d σ' x' => h g' cls d σ' (x.trans ok ok1 x')
  | stuck => exact h
theorem iss_nil : ISs X W [] sNil := PSs.weak pss_nil fun D σ H q => by
  obtain ⟨g, env, e, ok, re, q⟩ := q
  exact e ▸ q g σ (Ext.refl g) ok rfl re
theorem iss_cons (h1 : IS X W st h) (h2 : ISs X W sts k) : ISs X W (st :: sts) (sSeq h k) := PSs.weak (pss_cons h1 h2) fun D σ H q => by
  obtain ⟨g, env, e, ok, re, q⟩ := q
  refine ⟨g, env, e, ok, re, ?_⟩
  revert q
  unfold sSeq
  cases h env g.s with
  | nx e s =>
    intro q g' σ' x ok' es re'
    refine ⟨g', e, rfl, ok', re', ?_⟩
    rw [es]
    exact OutS.back ok ok' x q
  | rt p s => exact id
  | bk e s => exact id
  | ct e s => exact id
  | ex c p e s => exact id
  | stuck => exact id
theorem iss_one (h1 : IS X W st h) : ISs X W [st] h := pss_one h1
/-- an expression, then on -/
theorem RdS.seq {α β : Type} {R : G → α → β → Prop} {m : Env → MS → Res α} {d : α → Env → MS → SRes} {σ : L2.St} {H : Hp} (q : RdS K mg W (fun e s => (m e s).sbind e fun x s => d x e s) D σ H) :
    RdA K mg R W m σ H fun v H1 => ∃ p g env, g.H = H1 ∧ g.Ok K mg ∧ RelEnv K mg W.b g env σ ∧ R g p v ∧ OutS K mg g W D (d p env g.s) := by
  obtain ⟨g, env, e, ok, re, q⟩ := q
  refine ⟨g, env, e, ok, re, ?_⟩
  dsimp only at q
  revert q
  cases m env g.s with
  | ok p s' =>
    intro q g' v x ok' es r
    refine ⟨p, g', env, rfl, ok', re.ext ok x, r, ?_⟩
    rw [es]
    exact OutS.back ok ok' x q
  | exc c p s' =>
    intro q g' cls d x ok' es r
    exact q g' cls d σ x ok' es (re.ext ok x) r
  | stuck => exact id
theorem is_ret (ha : IE X W a f) : IS X W (.Return (some a) pos) (sRet f) := PS.weak (ps_ret ha) fun D σ H q => by
  refine (RdS.seq (R := fun g p v => RelP X.K X.mg g p v) (d := fun x e s => .rt x s) q).imp fun v H1 q => ?_
  obtain ⟨p, g, env, rfl, ok, re, r, q⟩ := q
  exact q g v (Ext.refl g) ok rfl r
theorem is_retN : IS X W (.Return none pos) sRetN := PS.weak ps_retN fun D σ H q => by
  obtain ⟨g, env, rfl, ok, re, q⟩ := q
  exact q g .non (Ext.refl g) ok rfl (by simp only [RelP])
theorem is_do (ha : IE X W a f) (hs : swapsWith a none pos.line X.env = pure false := by rfl) : IS X W (.Expr a pos) (sDo f) := PS.weak (ps_expr ha hs) fun D σ H q => by
  refine (RdS.seq (R := fun g p v => RelP X.K X.mg g p v) (d := fun x e s => .nx e s) q).imp fun v H1 q => ?_
  obtain ⟨p, g, env, rfl, ok, re, r, q⟩ := q
  exact q g σ (Ext.refl g) ok rfl re
theorem is_if {sa sb : List Stmt} (hc : IT X W c t) (ha : ISs X W sa h) (hb : ISs X W sb k) : IS X W (.If c sa sb pos) (sIf t h k) := PS.weak (ps_if hc ha hb) fun D σ H q => by
  unfold tIfS
  refine (RdS.seq (R := fun _ (b : Bool) c => b = c) (d := fun b e s => if b = true then h e s else k e s) q).imp fun v H1 q => ?_
  obtain ⟨p, g, env, e, ok, re, rfl, q⟩ := q
  cases p with
  | true => exact ⟨g, env, e, ok, re, q⟩
  | false => exact ⟨g, env, e, ok, re, q⟩
theorem is_break : IS X W (.Break pos) sBreak := PS.weak ps_break fun D σ H q => by
  obtain ⟨g, env, rfl, ok, re, q⟩ := q
  exact q g σ (Ext.refl g) ok rfl re
theorem is_pass : IS X W (.Pass pos) sNil := PS.weak ps_pass fun D σ H q => by
  obtain ⟨g, env, rfl, ok, re, q⟩ := q
  exact q g σ (Ext.refl g) ok rfl re
/-- target = value -/
theorem asg_of {ts : List Nat} {as : AS} {σ : L2.St} {H : Hp} (q : RdS K mg W (sSet f as) D σ H) : tAsg (RdE K mg W f) (RdG K mg W.b ts as) D σ H := by
  unfold tAsg
  refine (RdS.seq (R := fun g p v => RelP K mg g p v) (d := fun x e s => match as x e s with
    | some (e, s) => .nx e s
    | none => .stuck) q).imp fun v H1 q => ?_
  obtain ⟨p, g, env, e, ok, re, r, q⟩ := q
  cases ha : as p env g.s with
  | none => rw [ha] at q; exact q.elim
  | some es =>
    obtain ⟨env', s'⟩ := es
    rw [ha] at q
    exact ⟨g, p, env, env', s', e, ok, r, re, ha, fun g' σ' x ok' es re' _ _ => q g' σ' x ok' es re'⟩
theorem is_set {ts : List Nat} {as : AS} (he : IE X W a f) (hg : IG X W.b tg ts as) (hs : swapsWithSole [tg] a pos.line X.env = pure false := by rfl) (hw : swappedStores [tg] a X.env = pure none := by rfl)
    (h1 : (assignEach [tg] X.env).map (·.2) = [assign tg X.env] := by rfl) : IS X W (.Assign [tg] a pos) (sSet f as) := PS.weak (ps_asg he hg hs hw h1) fun D σ H q => asg_of q
/-- name = e -/
theorem is_name (i : Nat) {x : Str} {pos' : Pos} (hN : X.N.Nodup) (hi : X.N[i]? = some x) (hx : Loc X.env.scope x) (he : IE X W a f) (hs : swapsWith a (some (.Name x pos')) pos.line X.env = pure false := by rfl) (hf : X.fn x = true ∨ X.env.scope.names.lookup x = some .local := by first | exact .inl rfl | exact .inr rfl | assumption) (hB : ∀ b, W.b = some b → b.1 ≠ i := by intro b h; cases h <;> (dsimp only; decide)) :
    IS X W (.Assign [.Name x pos'] a pos) (sSet f (aName i)) := PS.weak (ps_set hN hi hx he hs hf) fun D σ H q => by
  unfold tAsg
  refine (RdS.seq (R := fun g p v => RelP X.K X.mg g p v) (d := fun x e s => match aName i x e s with
    | some (e, s) => .nx e s
    | none => .stuck) q).imp fun v H1 q => ?_
  obtain ⟨p, g, env, rfl, ok, re, r, q⟩ := q
  exact q g _ (Ext.refl g) ok rfl (re.set i r hB)
/-- name = [..] on one line -/
theorem is_nameLc {i : Nat} {y : Str} {py : Pos} {elt : Expr} {ifs : List Expr} {scope : Scope} {own : List (Str × Nat)} {pos spos : Pos} {fi : Env → MS → Res (List PV)} {as : AS} {tt : ET} {te : EX} {ts : List Nat} (hc : X.calm = true) (hN : X.N.Nodup) (hy : X.N[i]? = some y) (hyl : X.env.scope.names.lookup y = some .local)
    (hsw : swapsWith (.ListComp elt [⟨tg, iter, ifs, 0⟩] scope pos) (some (.Name y py)) spos.line X.env = pure true) (hi : II X W tg iter fi) (ok : BlkOk X.N X.env.scope scope own)
    (hg : ∀ (s : Shared) (H : Hp) (C : Addr) (cl : List (Str × Addr)) (fp : List Addr), IG (X.blk s H scope (compEnvC scope cl C X.env) fp) none tg ts as) (ht : ∀ (s : Shared) (H : Hp) (C : Addr) (cl : List (Str × Addr)) (fp : List Addr), ITs (X.blk s H scope (compEnvC scope cl C X.env) fp) W0 ifs tt)
    (he : ∀ (s : Shared) (H : Hp) (C : Addr) (cl : List (Str × Addr)) (fp : List Addr), IE (X.blk s H scope (compEnvC scope cl C X.env) fp) W0 elt te) (hts : ∀ i ∈ ts, i ∈ own.map (·.2) := by decide) (hs : ∀ x, foldedSetIterable iter X.env x = pure x := by intro _; rfl) (hB : ∀ b, W.b = some b → b.1 ≠ i := by intro b h; cases h <;> (dsimp only; decide)) :
    IS X W (.Assign [.Name y py] (.ListComp elt [⟨tg, iter, ifs, 0⟩] scope pos) spos) (sSet (eComp (own.map (·.2)) fi as tt te) (aName i)) := PS.weak (ps_setLc hc hN hy hyl hsw hi ok hg ht he hs) fun D σ H q => by
  unfold tAsg
  have q1 := RdS.seq (R := fun g p v => RelP X.K X.mg g p v) (d := fun x e s => match aName i x e s with
    | some (e, s) => .nx e s
    | none => .stuck) q
  refine tLc_of hts (q1.imp fun v H1 q => ?_)
  obtain ⟨p, g, env, rfl, ok, re, r, q⟩ := q
  exact q g _ (Ext.refl g) ok rfl (re.set i r hB)
/-- for -/
theorem is_for {fi : Env → MS → Res (List PV)} {as : AS} {ts : List Nat} (hp : PassesOwn (model X.prog X.w) X.A X.env X.xe) (hc : X.calm = true) (hi : II X W tg iter fi) (hg : IG X W.b tg ts as) (hb : ISs X W body h)
    (hs : ∀ x, foldedSetIterable iter X.env x = pure x := by intro _; rfl) : IS X W (.For tg iter body [] pos) (sFor fi as h) := PS.weak (ps_for hp hc hi hg hb hs) fun D σ H q => by
  unfold tFor
  refine (RdS.seq (R := ItRel X.K X.mg) (d := fun xs e s => forM as h xs e s) q).imp fun J H1 q => ?_
  obtain ⟨xs, g, env, rfl, ok, re, J0, q⟩ := q
  refine ⟨fun i m σ H => m = xs.length - i ∧ i ≤ xs.length ∧ ∃ g1 env1, g1.H = H ∧ g1.Ok X.K X.mg ∧ Ext g g1 ∧ RelEnv X.K X.mg W.b g1 env1 σ ∧ OutS X.K X.mg g1 W D (forM as h (xs.drop i) env1 g1.s), ⟨xs.length, by simp, Nat.zero_le _, g, env, rfl, ok, Ext.refl g, re, by rw [List.drop_zero]; exact q⟩, ?_⟩
  rintro i m σ H ⟨rfl, hi, g1, env1, rfl, ok1, x1, re1, fin⟩
  by_cases hlt : i < xs.length
  · obtain ⟨p, hp⟩ : ∃ p, xs[i]? = some p := ⟨xs[i], by simp [hlt]⟩
    obtain ⟨hgo, hy⟩ := (J0 g1 (x1.keeps ok) ok1 i).1 p hp
    refine .inr ⟨hgo, fun σ H => ∃ g1 env1, g1.H = H ∧ g1.Ok X.K X.mg ∧ Ext g g1 ∧ RelEnv X.K X.mg W.b g1 env1 σ ∧ OutS X.K X.mg g1 W D (forM as h (xs.drop (i + 1)) env1 g1.s), fun σ' H' h => ⟨xs.length - (i + 1), by omega, rfl, hlt, h⟩, fun x H' hyl => ?_⟩
    obtain ⟨g2, rfl, x2, ok2, e2, rp⟩ := hy x H' hyl
    have hdrop : xs.drop i = p :: xs.drop (i + 1) := by
      rw [List.drop_eq_getElem_cons hlt]
      congr 1
      exact (List.getElem?_eq_some_iff.mp hp).2
    rw [hdrop] at fin
    simp only [forM] at fin
    cases ha : as p env1 g1.s with
    | none => rw [ha] at fin; exact fin.elim
    | some es =>
      obtain ⟨env', s3⟩ := es
      rw [ha] at fin
      dsimp only at fin
      have fin2 := OutS.back ok1 ok2 x2 fin
      have x12 := x1.trans ok ok1 x2
      refine ⟨g2, p, env1, env', s3, rfl, ok2, rp, re1.ext ok1 x2, by rw [e2]; exact ha, fun g3 σ3 x3 ok3 e3 re3 _ _ => ?_⟩
      have fin3 := OutS.back ok2 ok3 x3 fin2
      have x13 := x12.trans ok ok2 x3
      refine ⟨g3, env', rfl, ok3, re3, ?_⟩
      subst e3
      revert fin3
      cases h env' g3.s with
      | nx e s =>
        intro fin3 g4 σ4 x4 ok4 e4 re4
        refine ⟨g4, e, rfl, ok4, x13.trans ok ok3 x4, re4, ?_⟩
        rw [e4]; exact OutS.back ok3 ok4 x4 fin3
      | ct e s =>
        intro fin3 g4 σ4 x4 ok4 e4 re4
        refine ⟨g4, e, rfl, ok4, x13.trans ok ok3 x4, re4, ?_⟩
        rw [e4]; exact OutS.back ok3 ok4 x4 fin3
      | bk e s => exact id
      | rt p s => exact id
      | ex c p e s => exact id
      | stuck => exact id
  · have e : i = xs.length := by omega
    subst e
    rw [List.drop_length] at fin
    refine .inl ⟨(J0 g1 (x1.keeps ok) ok1 _).2 (Nat.le_refl _), ?_⟩
    exact fin g1 σ (Ext.refl g1) ok1 rfl re1
theorem is_while (n : Nat) (hp : PassesOwn (model X.prog X.w) X.A X.env X.xe) (hc : IT X W c t) (hb : ISs X W body h) : IS X W (.While c body [] pos) (whileM t h n) := PS.weak (ps_while hp hc hb) fun D σ H q => by
  unfold tWhile
  obtain ⟨g, env, e, ok, re, q⟩ := q
  refine ⟨fun m σ H => ∃ g1 env1, g1.H = H ∧ g1.Ok X.K X.mg ∧ RelEnv X.K X.mg W.b g1 env1 σ ∧ OutS X.K X.mg g1 W D (whileM t h m env1 g1.s), ⟨n, g, env, e, ok, re, q⟩, ?_⟩
  rintro m σ H ⟨g1, env1, rfl, ok1, re1, fin⟩
  cases m with
  | zero => exact fin.elim
  | succ m =>
    refine (RdS.seq (R := fun _ (b : Bool) c => b = c) (m := t) (d := fun b e s => if b = true then (match h e s with
      | .nx e s => whileM t h m e s
      | .ct e s => whileM t h m e s
      | .bk e s => .nx e s
      | r => r) else .nx e s) ⟨g1, env1, rfl, ok1, re1, fin⟩).imp fun v H1 q => ?_
    obtain ⟨p, g2, env2, rfl, ok2, re2, rfl, q⟩ := q
    cases p with
    | false => exact q g2 σ (Ext.refl g2) ok2 rfl re2
    | true =>
      simp only [if_true] at q ⊢
      refine ⟨fun σ H => ∃ g1 env1, g1.H = H ∧ g1.Ok X.K X.mg ∧ RelEnv X.K X.mg W.b g1 env1 σ ∧ OutS X.K X.mg g1 W D (whileM t h m env1 g1.s), fun σ' H' h => ⟨m, Nat.lt_succ_self m, h⟩, g2, env2, rfl, ok2, re2, ?_⟩
      revert q
      cases h env2 g2.s with
      | nx e s =>
        intro q g3 σ3 x3 ok3 e3 re3
        refine ⟨g3, e, rfl, ok3, re3, ?_⟩
        rw [e3]; exact OutS.back ok2 ok3 x3 q
      | ct e s =>
        intro q g3 σ3 x3 ok3 e3 re3
        refine ⟨g3, e, rfl, ok3, re3, ?_⟩
        rw [e3]; exact OutS.back ok2 ok3 x3 q
      | bk e s => exact id
      | rt p s => exact id
      | ex c p e s => exact id
      | stuck => exact id
end
/-! ### defs -/
def startE (n : Nat) (args : List PV) : Env := args.map some ++ List.replicate (n - args.length) none
def defF (n : Nat) (h : SX) : FN := fun args s => match h (startE n args) s with
  | .rt v s => .ok v s
  | .nx _ s => .ok .non s
  | .ex c p _ s => .exc c p s
  | _ => .stuck
section
variable {P : Program} {w : World} {K : PySem.W.Frag} {mg : MG} {base : Heap}
theorem relEnv_start {g : G} {N : List Str} : ∀ {args : List PV} {vs : List V}, RelPs K mg g args vs → RelEnv K mg none g (startE N.length args) (L2.start N vs) := by
  intro args vs r
  have hl := r.length
  refine ⟨by simp [startE, L2.start, hl], fun _ _ _ _ _ e => (nomatch e), fun i p e => ?_⟩
  unfold startE at e
  unfold L2.start
  by_cases hi : i < args.length
  · rw [List.getElem?_append_left (by simpa using hi)] at e
    rw [List.getElem?_append_left (by simpa [← hl] using hi)]
    rw [List.getElem?_map] at e
    cases ea : args[i]? with
    | none => rw [ea] at e; cases e
    | some q =>
      rw [ea] at e
      cases e
      obtain ⟨v, ev, rv⟩ := r.get' ea
      exact ⟨v, by rw [List.getElem?_map, ev]; rfl, rv⟩
  · rw [List.getElem?_append_right (by simpa using hi)] at e
    have hm := List.mem_of_getElem? e
    rw [List.mem_replicate] at hm
    exact nomatch hm.2
theorem Def.mk' {x y : Str} {st : Stmt} {f : Addr} {fd : FuncData} {N ps : List Str} {k : Nat} {h : SX} (F : Fun K x x st f fd) (hm : mg y = some (.ref f)) (S : FnScope N ps (defScope st)) (hb : Binds K fd ps [])
    (body : ∀ (cdv : Value) (A : Around) (outer : List PySem.Env) (s : Shared) (H : Hp) (E : XK), Room k (A.deeper (envOfC x (defScope st) s.heap.objs.size f cdv)) →
      ISs (cxOf (L2.CX P w) P w K mg base N x (defScope st) f cdv A outer s H E) ⟨fun cls d _ H => E cls d H, none⟩ (defBody st) h) : Def P w K mg base (k + 1) y st ps (defF N.length h) := by
  refine ⟨x, f, fd, hm, F.kp, F, hb, F.okX S (fun vs H Q E h => h.1) fun cdv A outer s H vs Q E hr q => ?_⟩
  refine ⟨RdS K mg ⟨fun cls d _ H => E cls d H, none⟩ h, body cdv A outer s H E hr, ?_⟩
  obtain ⟨hl, g, args, e, ok, r, q⟩ := q
  refine ⟨g, startE N.length args, e, ok, relEnv_start r, ?_⟩
  unfold defF at q
  revert q
  cases h (startE N.length args) g.s with
  | nx e s => exact fun q g' σ' x ok' es re => q g' .non x ok' es (by simp only [RelP])
  | rt p s => exact id
  | bk e s => exact fun q => q.elim
  | ct e s => exact fun q => q.elim
  | ex c p e s => exact fun q g' cls d σ' x ok' es re r => q g' cls d x ok' es r
  | stuck => exact fun q => q.elim
theorem Def.mono {x : Str} {st : Stmt} {ps : List Str} {j k : Nat} {F : FN} (D : Def P w K mg base j x st ps F) (h : j ≤ k) : Def P w K mg base k x st ps F := by
  obtain ⟨nm, f, fd, a, b, c, d, e⟩ := D.ex
  exact ⟨nm, f, fd, a, b, c, d, e.mono h⟩
end
/-! ### what is made within a call and not told is forgotten -/
mutual
def noObj : PV → Bool
  | .tup l | .lst l | .scr l => noObjs l
  | .dct _ _ vs => noObjs vs
  | .obj _ => false
  | _ => true
def noObjs : List PV → Bool
  | [] => true
  | x :: xs => noObj x && noObjs xs
end
mutual
/-- no thing from n on is told -/
def bObj (n : Nat) : PV → Prop
  | .tup l | .lst l | .scr l => bObjs n l
  | .dct _ _ vs => bObjs n vs
  | .obj i => i < n
  | _ => True
def bObjs (n : Nat) : List PV → Prop
  | [] => True
  | x :: xs => bObj n x ∧ bObjs n xs
end
def Agree (s s' : MS) : Prop := ∀ i, i < s.n → s'.m i = s.m i
open Classical in
def gcF (F : FN) : FN := fun args s => match F args s with
  | .ok v s' => if noObj v = true ∧ Agree s s' then .ok v s else .ok v s'
  | .exc c v s' => if noObj v = true ∧ Agree s s' then .exc c v s else .exc c v s'
  | .stuck => .stuck
section
variable {P : Program} {w : World} {K : PySem.W.Frag} {mg : MG} {base : Heap} {g : G}
mutual
theorem bObj_of (n : Nat) : ∀ v : PV, noObj v = true → bObj n v
  | .tup l, h => bObjs_of n l h
  | .lst l, h => bObjs_of n l h
  | .scr l, h => bObjs_of n l h
  | .dct _ _ vs, h => bObjs_of n vs h
  | .obj _, h => by simp [noObj] at h
  | .non, _ => trivial
  | .bl _, _ => trivial
  | .int _, _ => trivial
  | .str _, _ => trivial
  | .set _, _ => trivial
  | .fn _, _ => trivial
  | .clo _ _, _ => trivial
  | .ty _, _ => trivial
theorem bObjs_of (n : Nat) : ∀ l : List PV, noObjs l = true → bObjs n l
  | [], _ => trivial
  | x :: xs, h => by
    simp only [noObjs, Bool.and_eq_true] at h
    exact ⟨bObj_of n x h.1, bObjs_of n xs h.2⟩
end
abbrev G.at_ (g : G) (s : MS) : G := { g with s := s }
mutual
theorem RelP.at_ {s : MS} : ∀ (p : PV) (v : V), bObj s.n p → RelP K mg g p v → RelP K mg (g.at_ s) p v
  | .non, _, _, h => by simpa only [RelP] using h
  | .bl _, _, _, h => by simpa only [RelP] using h
  | .int _, _, _, h => by simpa only [RelP] using h
  | .str _, _, _, h => by simpa only [RelP] using h
  | .tup l, v, b, h => by
    simp only [RelP] at h ⊢
    obtain ⟨a, vs, e, h1, h2⟩ := h
    exact ⟨a, vs, e, h1, RelPs.at_ l vs b h2⟩
  | .lst l, v, b, h => by
    simp only [RelP] at h ⊢
    obtain ⟨a, vs, e, h1, h2⟩ := h
    exact ⟨a, vs, e, h1, RelPs.at_ l vs b h2⟩
  | .scr l, v, b, h => by
    simp only [RelP] at h ⊢
    obtain ⟨a, vs, e, h1, h2⟩ := h
    exact ⟨a, vs, e, h1, RelPs.at_ l vs b h2⟩
  | .dct t ks vs, v, b, h => by
    simp only [RelP] at h ⊢
    obtain ⟨a, e, h⟩ := h
    exact ⟨a, e, h.mono (fun u q => q) fun l q => RelPs.at_ vs l b q⟩
  | .obj i, v, b, h => by
    simp only [RelP] at h ⊢
    exact ⟨b, h.2⟩
  | .fn n, _, _, h => by simpa only [RelP] using h
  | .ty n, _, _, h => by simpa only [RelP] using h
  | .set l, _, _, h => by simpa only [RelP] using h
  | .clo _ _, _, _, h => by simp only [RelP] at h
theorem RelPs.at_ {s : MS} : ∀ (l : List PV) (vs : List V), bObjs s.n l → RelPs K mg g l vs → RelPs K mg (g.at_ s) l vs
  | [], vs, _, h => by simpa only [RelPs] using h
  | p :: ps, vs, b, h => by
    simp only [RelPs] at h ⊢
    obtain ⟨v, r, e, h1, h2⟩ := h
    exact ⟨v, r, e, RelP.at_ p v b.1 h1, RelPs.at_ ps r b.2 h2⟩
end
mutual
theorem bObj_rel : ∀ (p : PV) (v : V), RelP K mg g p v → bObj g.s.n p
  | .non, _, h => trivial
  | .bl _, _, h => trivial
  | .int _, _, h => trivial
  | .str _, _, h => trivial
  | .tup l, v, h => by
    simp only [RelP] at h
    obtain ⟨a, vs, e, h1, h2⟩ := h
    exact bObjs_rel l vs h2
  | .lst l, v, h => by
    simp only [RelP] at h
    obtain ⟨a, vs, e, h1, h2⟩ := h
    exact bObjs_rel l vs h2
  | .scr l, v, h => by
    simp only [RelP] at h
    obtain ⟨a, vs, e, h1, h2⟩ := h
    exact bObjs_rel l vs h2
  | .dct t ks vs, v, h => by
    simp only [RelP] at h
    obtain ⟨a, e, h⟩ := h
    rcases h with ⟨_, kvs, _, _, q⟩ | ⟨_, kvs, _, _, q⟩
    · exact bObjs_rel vs _ q
    · exact bObjs_rel vs _ q
  | .obj i, v, h => by
    simp only [RelP] at h
    exact h.1
  | .fn n, _, h => trivial
  | .ty n, _, h => trivial
  | .set _, _, h => trivial
  | .clo _ _, _, h => trivial
theorem bObjs_rel : ∀ (l : List PV) (vs : List V), RelPs K mg g l vs → bObjs g.s.n l
  | [], vs, _ => trivial
  | p :: ps, vs, h => by
    simp only [RelPs] at h
    obtain ⟨v, r, e, h1, h2⟩ := h
    exact ⟨bObj_rel p v h1, bObjs_rel ps r h2⟩
end
theorem RelO.at_ {g0 : G} {o : PO} {a b : Addr} (h0 : RelO K mg g0 o b) (h : RelO K mg g o a) : RelO K mg (g.at_ g0.s) o a := by
  cases o with
  | lst l =>
    obtain ⟨vs0, _, r0⟩ := h0
    obtain ⟨vs, h1, h2⟩ := h
    exact ⟨vs, h1, RelPs.at_ l vs (bObjs_rel l vs0 r0) h2⟩
  | dct t ks vs =>
    have b0 : bObjs g0.s.n vs := by
      rcases h0 with ⟨_, kvs, _, _, q⟩ | ⟨_, kvs, _, _, q⟩
      · exact bObjs_rel vs _ q
      · exact bObjs_rel vs _ q
    have h' : DkF (fun u => g.H a = some u) (RelPs K mg g vs) t ks := h
    exact DkF.mono h' (fun u q => q) fun l q => RelPs.at_ vs l b0 q
  | ins c fs =>
    obtain ⟨_, _, fv0, _, _, _, r0⟩ := h0
    obtain ⟨C, dx, fv, h1, h2, h3, h4⟩ := h
    exact ⟨C, dx, fv, h1, h2, h3, RelPs.at_ _ _ (bObjs_rel _ _ r0) h4⟩
theorem gc_ok {g g' : G} (ok : g.Ok K mg) (ok' : g'.Ok K mg) (x : Ext g g') (ha : Agree g.s g'.s) : (g'.at_ g.s).Ok K mg where
  zd := ok'.zd
  wf := ok.wf
  inj := fun i j hi hj e => ok'.inj i j (by rw [ha i (ok.lt hi)]; exact hi) (by rw [ha j (ok.lt hj)]; exact hj) e
  out := fun i hi => ok'.out i (by rw [ha i (ok.lt hi)]; exact hi)
  obj := fun i o hi => by
    have hi' : g.s.m i = some o := hi
    have hl := ok.lt (i := i) (by rw [hi']; simp)
    exact RelO.at_ (ok.obj i o hi') (ok'.obj i o (by rw [ha i hl]; exact hi'))
theorem gc_ext {g g' : G} (ok : g.Ok K mg) (x : Ext g g') (ha : Agree g.s g'.s) : Ext g (g'.at_ g.s) where
  n := Nat.le_refl _
  ρ := x.ρ
  Z := x.Z
  H := x.H
  dom := x.dom
  zNew := x.zNew
  mNew := fun i h => .inl h
theorem SpM.gc {ps : List Str} {F : FN} {vs : List V} {H : Hp} {Q : VK} {E : XK} (h : SpM K mg ps (gcF F) vs H Q E) : SpM K mg ps F vs H Q E := by
  obtain ⟨hl, g, args, e, ok, r, q⟩ := h
  refine ⟨hl, g, args, e, ok, r, ?_⟩
  revert q
  unfold gcF
  cases hF : F args g.s with
  | stuck => exact id
  | ok v s' =>
    dsimp only
    by_cases c : noObj v = true ∧ Agree g.s s'
    · rw [if_pos c]
      intro q g' u x ok' es ru
      have ha : Agree g.s g'.s := by rw [es]; exact c.2
      exact q (g'.at_ g.s) u (gc_ext ok x ha) (gc_ok ok ok' x ha) rfl (RelP.at_ v u (bObj_of _ v c.1) ru)
    · rw [if_neg c]; exact id
  | exc c v s' =>
    dsimp only
    by_cases cc : noObj v = true ∧ Agree g.s s'
    · rw [if_pos cc]
      intro q g' cls d x ok' es ru
      have ha : Agree g.s g'.s := by rw [es]; exact cc.2
      obtain ⟨C, dd, u, e1, e2, e3, e4, e5⟩ := ru
      exact q (g'.at_ g.s) cls d (gc_ext ok x ha) (gc_ok ok ok' x ha) rfl ⟨C, dd, u, e1, e2, e3, e4, RelP.at_ v u (bObj_of _ v cc.1) e5⟩
    · rw [if_neg cc]; exact id
theorem Def.gc {k : Nat} {x : Str} {st : Stmt} {ps : List Str} {F : FN} (D : Def P w K mg base k x st ps F) : Def P w K mg base k x st ps (gcF F) := by
  obtain ⟨nm, f, fd, a, b, c, d, e⟩ := D.ex
  exact ⟨nm, f, fd, a, b, c, d, e.imp fun vs H Q E h => SpM.gc h⟩
end
end
end Mr
namespace Mr
noncomputable section
open PySem PySem.Spec PyProof.Rows L2
/-! ### a new list told: from here on nobody changes it -/
open Classical in
def tellL (v : PV) (s s' : MS) : Res PV := if noObj v = true ∧ Agree s s' then .ok v s else match v with
  | .obj i => match s'.m i with
    | some (.lst l) => if noObjs l = true ∧ Agree s s' ∧ s.n ≤ i then .ok (.lst l) s else .ok (.obj i) s'
    | _ => .ok (.obj i) s'
  | v => .ok v s'
open Classical in
def gcL (F : FN) : FN := fun args s => match F args s with
  | .ok v s' => tellL v s s'
  | .exc c v s' => if noObj v = true ∧ Agree s s' then .exc c v s else .exc c v s'
  | .stuck => .stuck
section
variable {P : Program} {w : World} {K : PySem.W.Frag} {mg : MG} {base : Heap} {g : G}
abbrev G.fz (g : G) (a0 : Addr) : G := { g with Z := fun a => g.Z a ∨ a = a0 }
mutual
theorem RelP.fz {a0 : Addr} : ∀ (p : PV) (v : V), RelP K mg g p v → RelP K mg (g.fz a0) p v
  | .non, _, h => by simpa only [RelP] using h
  | .bl _, _, h => by simpa only [RelP] using h
  | .int _, _, h => by simpa only [RelP] using h
  | .str _, _, h => by simpa only [RelP] using h
  | .tup l, v, h => by
    simp only [RelP] at h ⊢
    obtain ⟨a, vs, e, h1, h2⟩ := h
    exact ⟨a, vs, e, h1, RelPs.fz l vs h2⟩
  | .lst l, v, h => by
    simp only [RelP] at h ⊢
    obtain ⟨a, vs, e, h1, h2⟩ := h
    exact ⟨a, vs, e, ⟨h1.1, .inl h1.2⟩, RelPs.fz l vs h2⟩
  | .scr l, v, h => by
    simp only [RelP] at h ⊢
    obtain ⟨a, vs, e, h1, h2⟩ := h
    exact ⟨a, vs, e, h1, RelPs.fz l vs h2⟩
  | .dct t ks vs, v, h => by
    simp only [RelP] at h ⊢
    obtain ⟨a, e, h⟩ := h
    exact ⟨a, e, h.mono (fun u q => q) fun l q => RelPs.fz vs l q⟩
  | .obj i, v, h => by
    simp only [RelP] at h ⊢
    exact h
  | .fn n, _, h => by simpa only [RelP] using h
  | .ty n, _, h => by simpa only [RelP] using h
  | .set l, _, h => by simpa only [RelP] using h
  | .clo _ _, _, h => by simp only [RelP] at h
theorem RelPs.fz {a0 : Addr} : ∀ (l : List PV) (vs : List V), RelPs K mg g l vs → RelPs K mg (g.fz a0) l vs
  | [], vs, h => by simpa only [RelPs] using h
  | p :: ps, vs, h => by
    simp only [RelPs] at h ⊢
    obtain ⟨v, r, e, h1, h2⟩ := h
    exact ⟨v, r, e, RelP.fz p v h1, RelPs.fz ps r h2⟩
end
theorem RelO.fz {a0 : Addr} {o : PO} {a : Addr} (h : RelO K mg g o a) : RelO K mg (g.fz a0) o a := by
  cases o with
  | lst l =>
    obtain ⟨vs, h1, h2⟩ := h
    exact ⟨vs, h1, RelPs.fz l vs h2⟩
  | dct t ks vs =>
    have h' : DkF (fun u => g.H a = some u) (RelPs K mg g vs) t ks := h
    exact DkF.mono h' (fun u q => q) fun l q => RelPs.fz vs l q
  | ins c fs =>
    obtain ⟨C, dx, fv, h1, h2, h3, h4⟩ := h
    exact ⟨C, dx, fv, h1, h2, h3, RelPs.fz _ _ h4⟩
theorem SpM.gcL {ps : List Str} {F : FN} {vs : List V} {H : Hp} {Q : VK} {E : XK} (h : SpM K mg ps (gcL F) vs H Q E) : SpM K mg ps F vs H Q E := by
  obtain ⟨hl, g, args, e, ok, r, q⟩ := h
  refine ⟨hl, g, args, e, ok, r, ?_⟩
  revert q
  unfold Mr.gcL
  cases hF : F args g.s with
  | stuck => exact id
  | ok v s' =>
    dsimp only
    unfold tellL
    by_cases c0 : noObj v = true ∧ Agree g.s s'
    · rw [if_pos c0]
      intro q g' u x ok' es ru
      have ha : Agree g.s g'.s := by rw [es]; exact c0.2
      exact q (g'.at_ g.s) u (gc_ext ok x ha) (gc_ok ok ok' x ha) rfl (RelP.at_ v u (bObj_of _ v c0.1) ru)
    · rw [if_neg c0]
      cases v with
      | obj i =>
        dsimp only
        cases hm : s'.m i with
        | none => exact id
        | some o =>
          cases o with
          | dct => exact id
          | ins => exact id
          | lst l =>
            dsimp only
            by_cases c : noObjs l = true ∧ Agree g.s s' ∧ g.s.n ≤ i
            · rw [if_pos c]
              intro q g' u x ok' es ru
              have ha : Agree g.s g'.s := by rw [es]; exact c.2.1
              have hmi : g'.s.m i = some (.lst l) := by rw [es]; exact hm
              obtain ⟨hi, rfl⟩ : i < g'.s.n ∧ u = .ref (g'.ρ i) := by simpa only [RelP] using ru
              obtain ⟨vs, h1, h2⟩ := ok'.obj i _ hmi
              have hnew : g.H (g'.ρ i) = none := by
                rcases x.mNew i (by rw [hmi]; simp) with h | h
                · have := ok.lt h; omega
                · exact h.2
              have ok1 := gc_ok ok ok' x ha
              have x1 := gc_ext ok x ha
              have ok2 : ((g'.at_ g.s).fz (g'.ρ i)).Ok K mg :=
                { zd := fun a h => by
                    rcases h with h | rfl
                    · exact ok1.zd a h
                    · show g'.H (g'.ρ i) ≠ none
                      rw [h1]; simp
                  wf := ok1.wf
                  inj := ok1.inj
                  out := fun j hj h => by
                    rcases h with h | h
                    · exact ok1.out j hj h
                    · have hj' : j < g.s.n := ok.lt hj
                      have := ok'.inj j i (by rw [ha j hj']; exact hj) (by rw [hmi]; simp) h
                      omega
                  obj := fun j o hj => RelO.fz (ok1.obj j o hj) }
              have x2 : Ext g ((g'.at_ g.s).fz (g'.ρ i)) :=
                { n := x1.n, ρ := x1.ρ, Z := fun a h => .inl (x1.Z a h), H := x1.H, dom := x1.dom
                  zNew := fun a h => by
                    rcases h with h | rfl
                    · exact x1.zNew a h
                    · exact .inr (.inl hnew)
                  mNew := x1.mNew }
              refine q ((g'.at_ g.s).fz (g'.ρ i)) _ x2 ok2 rfl ?_
              simp only [RelP]
              exact ⟨g'.ρ i, vs, rfl, ⟨h1, .inr rfl⟩, RelPs.fz l vs (RelPs.at_ l vs (bObjs_of _ l c.1) h2)⟩
            · rw [if_neg c]; exact id
      | _ => exact id
  | exc c v s' =>
    dsimp only
    by_cases cc : noObj v = true ∧ Agree g.s s'
    · rw [if_pos cc]
      intro q g' cls d x ok' es ru
      have ha : Agree g.s g'.s := by rw [es]; exact cc.2
      obtain ⟨C, dd, u, e1, e2, e3, e4, e5⟩ := ru
      exact q (g'.at_ g.s) cls d (gc_ext ok x ha) (gc_ok ok ok' x ha) rfl ⟨C, dd, u, e1, e2, e3, e4, RelP.at_ v u (bObj_of _ v cc.1) e5⟩
    · rw [if_neg cc]; exact id
theorem Def.gcL {k : Nat} {x : Str} {st : Stmt} {ps : List Str} {F : FN} (D : Def P w K mg base k x st ps F) : Def P w K mg base k x st ps (gcL F) := by
  obtain ⟨nm, f, fd, a, b, c, d, e⟩ := D.ex
  exact ⟨nm, f, fd, a, b, c, d, e.imp fun vs H Q E h => SpM.gcL h⟩
/-- from here on nobody changes the list that a name tells -/
def gFrz (i : Nat) : SX := fun e s => match e[i]? with
  | some (some (.obj j)) => match s.m j with
    | some (.lst l) => .nx (e.set i (some (.lst l))) (s.del j)
    | _ => .stuck
  | _ => .nx e s
theorem frz_all {g : G} {j : Nat} {l : List PV} (ok : g.Ok K mg) (hm : g.s.m j = some (.lst l)) : ∃ g', g'.H = g.H ∧ g'.s = g.s.del j ∧ g'.Ok K mg ∧ Ext g g' ∧ RelP K mg g' (.lst l) (.ref (g.ρ j)) := by
  obtain ⟨vs, h1, h2⟩ := ok.obj j _ hm
  have hlive : Live g (g.ρ j) := ⟨j, by rw [hm]; simp, rfl⟩
  have hd : ∀ i, (g.s.del j).m i ≠ none → i ≠ j ∧ g.s.m i ≠ none := fun i h => by
    by_cases e : i = j
    · exact absurd (by show (if i = j then none else g.s.m i) = none; rw [if_pos e]) h
    · refine ⟨e, fun q => h ?_⟩
      show (if i = j then none else g.s.m i) = none
      rw [if_neg e]; exact q
  have hd2 : ∀ i o, (g.s.del j).m i = some o → i ≠ j ∧ g.s.m i = some o := fun i o h => by
    have q := hd i (by rw [h]; simp)
    refine ⟨q.1, ?_⟩
    have : (g.s.del j).m i = g.s.m i := by show (if i = j then none else g.s.m i) = _; rw [if_neg q.1]
    rw [← this]; exact h
  refine ⟨⟨g.H, fun a => g.Z a ∨ a = g.ρ j, g.ρ, g.s.del j⟩, rfl, rfl, ?_, ?_, ?_⟩
  · have tr : ∀ (p : List PV) (v : List V), RelPs K mg g p v → RelPs K mg (G.mk g.H (fun a => g.Z a ∨ a = g.ρ j) g.ρ (g.s.del j)) p v := fun p v r => RelPs.at_ (g := g.fz (g.ρ j)) (s := g.s.del j) p v (bObjs_rel p v r) (RelPs.fz p v r)
    exact
    { zd := fun a h => by
        rcases h with h | rfl
        · exact ok.zd a h
        · show g.H (g.ρ j) ≠ none
          rw [h1]; simp
      wf := fun i h => by
        have h : g.s.n ≤ i := h
        have hj := ok.lt (i := j) (by rw [hm]; simp)
        show (if i = j then none else g.s.m i) = none
        rw [if_neg (by omega)]; exact ok.wf i h
      inj := fun a b ha hb e => ok.inj a b (hd a ha).2 (hd b hb).2 e
      out := fun i hi h => by
        rcases h with h | h
        · exact ok.out i (hd i hi).2 h
        · exact (hd i hi).1 (ok.inj i j (hd i hi).2 (by rw [hm]; simp) h)
      obj := fun i o hi => by
        have q := ok.obj i o (hd2 i o hi).2
        cases o with
        | lst l => obtain ⟨vs, q1, q2⟩ := q; exact ⟨vs, q1, tr _ _ q2⟩
        | dct t ks vs =>
          have h' : DkF (fun u => g.H (g.ρ i) = some u) (RelPs K mg g vs) t ks := q
          exact DkF.mono h' (fun u q => q) fun l q => tr _ _ q
        | ins c fs => obtain ⟨C, dx, fv, q1, q2, q3, q4⟩ := q; exact ⟨C, dx, fv, q1, q2, q3, tr _ _ q4⟩ }
  · exact
    { n := Nat.le_refl _, ρ := fun _ _ => rfl, Z := fun a h => .inl h, H := fun a o h _ => h, dom := fun a h => h
      zNew := fun a h => by
        rcases h with h | rfl
        · exact .inl h
        · exact .inr (.inr hlive)
      mNew := fun i h => .inl (hd i h).2 }
  · simp only [RelP]
    exact ⟨g.ρ j, vs, rfl, ⟨h1, .inr rfl⟩, RelPs.at_ (g := g.fz (g.ρ j)) (s := g.s.del j) _ _ (bObjs_rel _ _ h2) (RelPs.fz _ _ h2)⟩
variable {X : Cx} {W : WY} {st : Stmt} {h : SX}
theorem is_frz (i : Nat) (hi : IS X W st h) : IS X W st (sSeq (gFrz i) h) := PS.weak hi fun D σ H q => by
  obtain ⟨g, env, rfl, ok, re, q⟩ := q
  revert q
  unfold sSeq gFrz
  cases he : env[i]? with
  | none => exact fun q => ⟨g, env, rfl, ok, re, q⟩
  | some o =>
    cases o with
    | none => exact fun q => ⟨g, env, rfl, ok, re, q⟩
    | some p =>
      cases p with
      | obj j =>
        dsimp only
        cases hm : g.s.m j with
        | none => exact fun q => q.elim
        | some o =>
          cases o with
          | dct => exact fun q => q.elim
          | ins => exact fun q => q.elim
          | lst l =>
            dsimp only
            intro q
            obtain ⟨g', eH, eS, ok', x, r⟩ := frz_all ok hm
            obtain ⟨v, hv, rv⟩ := re.at_ i _ he
            obtain ⟨hj, rfl⟩ : j < g.s.n ∧ v = .ref (g.ρ j) := by simpa only [RelP] using rv
            have re1 := re.ext ok x
            have re2 : RelEnv X.K X.mg W.b g' (env.set i (some (.lst l))) σ := ⟨by simp [re.len], fun i' a dd c p hb => re1.er i' a dd c p hb, fun k p hk => by
              by_cases e : k = i
              · subst e
                rw [List.getElem?_set_self (by have := List.getElem?_eq_some_iff.mp he; exact this.1)] at hk
                cases hk
                exact ⟨_, hv, r⟩
              · rw [List.getElem?_set_ne (Ne.symm e)] at hk
                exact re1.at_ k p hk⟩
            refine ⟨g', _, eH, ok', re2, ?_⟩
            rw [eS]
            exact OutS.back ok ok' x q
      | _ => exact fun q => ⟨g, env, rfl, ok, re, q⟩
end
end
end Mr
namespace Mr
noncomputable section
open PySem PySem.Spec PyProof.Rows L2
/-! ### what the operations do is what the machine does -/
section
variable {K : PySem.W.Frag} {mg : MG} {g : G} {X : Cx}
theorem strApp (a b : List Nat) : ((⟨a.toArray⟩ : Str) ++ (⟨b.toArray⟩ : Str)) = ⟨(a ++ b).toArray⟩ := TL.ext_tl (by rw [TL.tl_append, TL.tl_mk, TL.tl_mk, TL.tl_mk])
theorem strEq (a b : List Nat) : decide ((⟨a.toArray⟩ : Str) = ⟨b.toArray⟩) = (a == b) := by
  by_cases h : a = b
  · subst h; simp
  · have : ¬ (⟨a.toArray⟩ : Str) = ⟨b.toArray⟩ := fun q => h (by
      have := congrArg TL.tl q
      rwa [TL.tl_mk, TL.tl_mk] at this)
    simp [h, this]
theorem fin_int {z : Int} {Q : VK} (ok : g.Ok K mg) (q : ∀ g' v, Ext g g' → g'.Ok K mg → g'.s = g.s → RelP K mg g' (.int z) v → Q v g'.H) : Q (.int z) g.H := q g _ (Ext.refl g) ok rfl (by simp only [RelP])
theorem fin_bl {z : Bool} {Q : VK} (ok : g.Ok K mg) (q : ∀ g' v, Ext g g' → g'.Ok K mg → g'.s = g.s → RelP K mg g' (.bl z) v → Q v g'.H) : Q (.bl z) g.H := q g _ (Ext.refl g) ok rfl (by simp only [RelP])
theorem fin_str {z : List Nat} {Q : VK} (ok : g.Ok K mg) (q : ∀ g' v, Ext g g' → g'.Ok K mg → g'.s = g.s → RelP K mg g' (.str z) v → Q v g'.H) : Q (.str ⟨z.toArray⟩) g.H := q g _ (Ext.refl g) ok rfl (by simp only [RelP])
theorem fin_tup {l : List PV} {vs : List V} {Q : VK} (ok : g.Ok K mg) (r : RelPs K mg g l vs) (q : ∀ g' v, Ext g g' → g'.Ok K mg → g'.s = g.s → RelP K mg g' (.tup l) v → Q v g'.H) (p : Addr) (hp : g.H p = none) : Q (.ref p) (upd g.H p (.tup vs)) :=
  q (g.new p (.tup vs)) _ (G.new_ext hp) (G.new_ok ok hp) rfl (G.new_tup ok hp r)
theorem fin_lst {l : List PV} {vs : List V} {Q : VK} (ok : g.Ok K mg) (r : RelPs K mg g l vs) (q : ∀ g' v, Ext g g' → g'.Ok K mg → g'.s = g.s → RelP K mg g' (.lst l) v → Q v g'.H) (p : Addr) (hp : g.H p = none) : Q (.ref p) (upd g.H p (.lst vs)) :=
  q (g.newZ p (.lst vs)) _ (G.newZ_ext hp) (G.newZ_ok ok hp) rfl (G.newZ_lst ok hp r)
theorem relT {l : List PV} {v : V} (r : RelD K mg g (.tup l) v) : ∃ a vs, v = .ref a ∧ g.H a = some (.tup vs) ∧ RelPs K mg g l vs := by
  simpa only [RelD, RelP] using r
theorem relL {l : List PV} {v : V} (r : RelD K mg g (.lst l) v) : ∃ a vs, v = .ref a ∧ g.H a = some (.lst vs) ∧ RelPs K mg g l vs := by
  simpa only [RelD] using r
theorem relS {l : List Nat} {v : V} (r : RelD K mg g (.str l) v) : v = .str ⟨l.toArray⟩ := by simpa only [RelD, RelP] using r
theorem relI {i : Int} {v : V} (r : RelD K mg g (.int i) v) : v = .int i := by simpa only [RelD, RelP] using r
theorem relB {i : Bool} {v : V} (r : RelD K mg g (.bl i) v) : v = .bl i := by simpa only [RelD, RelP] using r
theorem relN {v : V} (r : RelD K mg g .non v) : v = .non := by simpa only [RelD, RelP] using r
theorem relX {l : List PV} {v : V} (r : RelD K mg g (.scr l) v) : ∃ a vs, v = .ref a ∧ SqL K g.H a vs ∧ RelPs K mg g l vs := by
  simp only [RelD, RelP] at r
  obtain ⟨a, vs, e, h, r⟩ := r
  exact ⟨a, vs, e, h.sq, r⟩
theorem o_add : OpR X (binaryOp .Add) (OpM X.K X.mg pAdd) := by
  intro pins s σ H x y v u Q I rx ry ⟨g, px, py, z, eH, ok, r1, r2, hz, q⟩
  subst eH
  unfold pAdd at hz
  split at hz
  · cases hz
    obtain rfl := relI r1
    obtain rfl := relI r2
    exact op_add pins s σ g.H _ _ v u Q I rx ry ⟨_, _, rfl, rfl, fin_int ok q⟩
  · split at hz
    · rename_i hl
      cases hz
      obtain rfl := relS r1
      obtain rfl := relS r2
      exact op_add_str pins s σ g.H _ _ v u Q I rx ry ⟨_, _, rfl, rfl, by rw [strlen, strlen]; exact toSz hl, by rw [strApp]; exact fin_str ok q⟩
    · cases hz
  · split at hz
    · rename_i hl
      cases hz
      obtain ⟨a, xs, rfl, ha, ra⟩ := relT r1
      obtain ⟨b, ys, rfl, hb, rb⟩ := relT r2
      refine op_catA pins s σ g.H _ _ v u Q I rx ry ⟨a, b, xs, ys, rfl, rfl, SqT.of ha, SqT.of hb, by rw [← ra.length, ← rb.length]; exact toSz hl, fun e => ?_, fun _ e => ?_, fun _ _ p hp => fin_tup ok (ra.append rb) q p hp⟩
      · subst e
        have e0 := ra.length
        refine q g _ (Ext.refl g) ok rfl ?_
        simp only [RelP]
        exact ⟨b, ys, rfl, hb, by rw [List.length_eq_zero_iff.mp e0]; exact rb⟩
      · subst e
        have e0 := rb.length
        refine q g _ (Ext.refl g) ok rfl ?_
        simp only [RelP]
        exact ⟨a, xs, rfl, ha, by rw [List.length_eq_zero_iff.mp e0, List.append_nil]; exact ra⟩
    · cases hz
  · split at hz
    · rename_i hl
      cases hz
      obtain ⟨a, xs, rfl, ha, ra⟩ := relL r1
      obtain ⟨b, ys, rfl, hb, rb⟩ := relL r2
      exact op_cat pins s σ g.H _ _ v u Q I rx ry ⟨a, b, xs, ys, rfl, rfl, ha, hb, by rw [← ra.length, ← rb.length]; exact toSz hl, fun p hp => fin_lst ok (ra.append rb) q p hp⟩
    · cases hz
  · cases hz
theorem o_sub : OpR X (binaryOp .Sub) (OpM X.K X.mg pSub) := by
  intro pins s σ H x y v u Q I rx ry ⟨g, px, py, z, eH, ok, r1, r2, hz, q⟩
  subst eH
  unfold pSub at hz
  split at hz
  · cases hz
    obtain rfl := relI r1
    obtain rfl := relI r2
    exact op_sub pins s σ g.H _ _ v u Q I rx ry ⟨_, _, rfl, rfl, fin_int ok q⟩
  · cases hz
theorem o_fdiv : OpR X (binaryOp .FloorDiv) (OpM X.K X.mg pFdiv) := by
  intro pins s σ H x y v u Q I rx ry ⟨g, px, py, z, eH, ok, r1, r2, hz, q⟩
  subst eH
  unfold pFdiv at hz
  split at hz
  · split at hz
    · rename_i hl
      cases hz
      obtain rfl := relI r1
      obtain rfl := relI r2
      exact op_fdiv pins s σ g.H _ _ v u Q I rx ry ⟨_, _, rfl, rfl, ⟨hl.1, by have := (fits_iff.mp hl.2).2; omega⟩, fin_int ok q⟩
    · cases hz
  · cases hz
theorem o_mod : OpR X (binaryOp .Mod) (OpM X.K X.mg pMod) := by
  intro pins s σ H x y v u Q I rx ry ⟨g, px, py, z, eH, ok, r1, r2, hz, q⟩
  subst eH
  unfold pMod at hz
  split at hz
  · split at hz
    · rename_i hl
      cases hz
      obtain rfl := relI r1
      obtain rfl := relI r2
      exact op_mod pins s σ g.H _ _ v u Q I rx ry ⟨_, _, rfl, rfl, hl, fin_int ok q⟩
    · cases hz
  · cases hz
theorem o_pow : OpR X (binaryOp .Pow) (OpM X.K X.mg pPow) := by
  intro pins s σ H x y v u Q I rx ry ⟨g, px, py, z, eH, ok, r1, r2, hz, q⟩
  subst eH
  unfold pPow at hz
  split at hz
  · split at hz
    · rename_i hl
      cases hz
      obtain rfl := relI r1
      obtain rfl := relI r2
      exact op_pow pins s σ g.H _ _ v u Q I rx ry ⟨_, _, rfl, rfl, ⟨hl.1, by have := (fits_iff.mp hl.2.1).2; omega, by have := fits_iff.mp hl.2.2; omega⟩, fin_int ok q⟩
    · cases hz
  · cases hz
end
end
end Mr
namespace Mr
noncomputable section
open PySem PySem.Spec PyProof.Rows L2
section
variable {K : PySem.W.Frag} {mg : MG} {g : G} {X : Cx}
theorem arr_rep (l : List Nat) : ∀ (k : Nat) (acc : List Nat), (List.replicate k l.toArray).foldl (· ++ ·) acc.toArray = (acc ++ (List.replicate k l).flatten).toArray
  | 0, acc => by simp
  | k + 1, acc => by
    rw [List.replicate_succ, List.foldl_cons, List.replicate_succ]
    have e : acc.toArray ++ l.toArray = (acc ++ l).toArray := by simp
    rw [e, arr_rep l k (acc ++ l)]
    simp
theorem flat_one (l : List Nat) : (List.replicate 1 l).flatten = l := by simp
theorem txt_mul (l : List Nat) (n : Int) : Txt.mul ⟨l.toArray⟩ n = ⟨((List.replicate n.toNat l).flatten).toArray⟩ := by
  unfold Txt.mul
  by_cases h1 : n < 1
  · rw [if_pos h1]
    have e : n.toNat = 0 := by omega
    rw [e]; rfl
  · rw [if_neg h1]
    by_cases h2 : (n == 1 || (⟨l.toArray⟩ : Str).length == 0) = true
    · rw [if_pos h2]
      rw [Bool.or_eq_true] at h2
      rcases h2 with h2 | h2
      · have : n = 1 := by simpa using h2
        subst this
        rw [show (1 : Int).toNat = 1 from rfl, flat_one]
      · have : l = [] := by simpa [strlen] using h2
        subst this
        have : ∀ k : Nat, (List.replicate k ([] : List Nat)).flatten = [] := by
          intro k; induction k with
          | zero => rfl
          | succ k ih => rw [List.replicate_succ, List.flatten_cons, ih]; rfl
        rw [this]
    · rw [if_neg h2]
      have := arr_rep l n.toNat []
      simp only [List.nil_append] at this
      exact congrArg Str.mk this
theorem flat_len (l : List Nat) : ∀ k : Nat, (List.replicate k l).flatten.length = k * l.length
  | 0 => by simp
  | k + 1 => by rw [List.replicate_succ, List.flatten_cons, List.length_append, flat_len l k]; rw [Nat.add_mul]; omega
theorem o_mul : OpR X (binaryOp .Mult) (OpM X.K X.mg pMul) := by
  intro pins s σ H x y v u Q I rx ry ⟨g, px, py, z, eH, ok, r1, r2, hz, q⟩
  subst eH
  unfold pMul at hz
  split at hz
  · rename_i i j
    split at hz
    · rename_i hl
      cases hz
      obtain rfl := relI r1
      obtain rfl := relI r2
      refine L2.op_mul pins s σ g.H _ _ v u Q I rx ry ⟨_, _, rfl, rfl, ?_, fin_int ok q⟩
      unfold small at hl
      simp only [Bool.or_eq_true, fits_iff] at hl
      exact hl
    · cases hz
  · rename_i a k
    split at hz
    · rename_i hl
      obtain ⟨h0, h12⟩ := hl
      obtain ⟨h1, h2⟩ := fits_iff.mp h12
      cases hz
      obtain rfl := relS r1
      obtain rfl := relI r2
      obtain ⟨t, rfl⟩ := rx
      obtain ⟨t', rfl⟩ := ry
      have hL : (LIM : Nat) = 16777216 := LIM_eq
      have hmul : 1 ≤ k → a.length ≤ 16777216 := fun hk => by
        have : 1 ≤ k.toNat := by omega
        have := Nat.le_trans (Nat.le_mul_of_pos_right a.length this) h0
        omega
      refine SB.mul ⟨?_, ?_, ?_⟩ fun t' kk => ?_
      · have e1 : ¬ k < -(2 ^ 63 : Int) := by omega
        have e2 : ¬ k ≥ 2 ^ 63 := by omega
        rw [decide_eq_false e1, decide_eq_false e2]; rfl
      · intro hk _
        rw [strlen]
        have h5 : ((a.length : Nat) : Int) * k ≤ 16777216 := by
          have : ((a.length * k.toNat : Nat) : Int) ≤ 16777216 := by omega
          rw [Int.natCast_mul, Int.toNat_of_nonneg (by omega)] at this
          exact this
        have : (a.length : Int) ≤ (2 ^ 63 - 1) / k := by
          rw [Int.le_ediv_iff_mul_le (by omega)]
          omega
        omega
      · intro hk _
        rw [strlen]
        unfold Builtin.Str.tooLong
        simp only [decide_eq_false_iff_not]
        have hs : (sizeLine : Nat) = 16777216 := by rw [sizeLine_eq]
        omega
      · refine ⟨.str _, g.H, I.tok _, ⟨_, rfl⟩, ?_⟩
        rw [txt_mul]
        exact fin_str ok q
    · cases hz
  · rename_i a k
    split at hz
    · rename_i hl
      obtain ⟨h0, h12⟩ := hl
      obtain ⟨h1, h2⟩ := fits_iff.mp h12
      cases hz
      obtain ⟨p, xs, rfl, ha, ra⟩ := relL r1
      obtain rfl := relI r2
      have rep : ∀ n : Nat, RelPs X.K X.mg g (List.replicate n a).flatten (List.replicate n xs).flatten := by
        intro n
        induction n with
        | zero => exact RelPs.nil
        | succ n ih => rw [List.replicate_succ, List.replicate_succ, List.flatten_cons, List.flatten_cons]; exact ra.append ih
      exact op_rep pins s σ g.H _ _ v u Q I rx ry ⟨p, k, xs, rfl, rfl, ha, by omega, by omega, by rw [← ra.length, ← sizeLIM]; exact h0, fun p hp => fin_lst ok (rep _) q p hp⟩
    · cases hz
  · cases hz
def eUn (op : PV → Option PV) (f : EX) : EX := fun e s => (f e s).bind fun x s => ofO (op (deref s x)) s
theorem ie_neg {W : WY} {pos : Pos} {a : Expr} {f : EX} (ha : IE X W a f) : IE X W (.UnaryOp .USub a pos) (eUn pNeg f) :=
  PE.weak (pe_un un_neg ha) fun σ H Q q => by
    unfold tUn
    refine (RdA.seq (R := fun g p v => RelP X.K X.mg g p v) (f := f) (k := fun x e s => ofO (pNeg (deref s x)) s) q).imp fun v H1 q => ?_
    obtain ⟨p, g, env, rfl, ok, re, r, q⟩ := q
    have rd := r.deref ok
    cases hd : deref g.s p with
    | int i =>
      rw [hd] at rd q
      obtain rfl := relI rd
      exact ⟨i, rfl, OutA.ok ok q (by simp only [RelP])⟩
    | _ => rw [hd] at q; exact q.elim
end
end
end Mr
namespace Mr
noncomputable section
open PySem PySem.Spec PyProof.Rows L2
mutual
def toD : PV → PyData
  | .bl b => .bool b
  | .int i => .int i
  | .str l => .str ⟨l.toArray⟩
  | .tup l => .tuple (toDs l)
  | .lst l => .list (toDs l)
  | _ => .none
def toDs : List PV → List PyData
  | [] => []
  | x :: xs => toD x :: toDs xs
end
mutual
theorem toD_plain : ∀ p : PV, (toD p).plain = true
  | .non => by simp [toD, PyData.plain]
  | .bl _ => by simp [toD, PyData.plain]
  | .int _ => by simp [toD, PyData.plain]
  | .str _ => by simp [toD, PyData.plain]
  | .tup l => by simp only [toD, PyData.plain]; exact toDs_plain l
  | .lst l => by simp only [toD, PyData.plain]; exact toDs_plain l
  | .dct _ _ _ => by simp [toD, PyData.plain]
  | .set _ => by simp [toD, PyData.plain]
  | .scr _ => by simp [toD, PyData.plain]
  | .obj _ => by simp [toD, PyData.plain]
  | .fn _ => by simp [toD, PyData.plain]
  | .clo _ _ => by simp [toD, PyData.plain]
  | .ty _ => by simp [toD, PyData.plain]
theorem toDs_plain : ∀ l : List PV, PyData.plainAll (toDs l) = true
  | [] => by simp [toDs, PyData.plainAll]
  | x :: xs => by simp [toDs, PyData.plainAll, toD_plain x, toDs_plain xs]
end
mutual
theorem toD_dep : ∀ p : PV, (toD p).depth = dep p
  | .non => by simp [toD, PyData.depth, dep]
  | .bl _ => by simp [toD, PyData.depth, dep]
  | .int _ => by simp [toD, PyData.depth, dep]
  | .str _ => by simp [toD, PyData.depth, dep]
  | .tup l => by simp only [toD, PyData.depth, dep, toDs_dep l]
  | .lst l => by simp only [toD, PyData.depth, dep, toDs_dep l]
  | .dct _ _ _ => by simp [toD, PyData.depth, dep]
  | .set _ => by simp [toD, PyData.depth, dep]
  | .scr _ => by simp [toD, PyData.depth, dep]
  | .obj _ => by simp [toD, PyData.depth, dep]
  | .fn _ => by simp [toD, PyData.depth, dep]
  | .clo _ _ => by simp [toD, PyData.depth, dep]
  | .ty _ => by simp [toD, PyData.depth, dep]
theorem toDs_dep : ∀ l : List PV, PyData.depthAll (toDs l) = deps l
  | [] => by simp [toDs, PyData.depthAll, deps]
  | x :: xs => by simp [toDs, PyData.depthAll, deps, toD_dep x, toDs_dep xs]
end
theorem strBeq (a b : List Nat) : ((⟨a.toArray⟩ : Str) == ⟨b.toArray⟩) = (a == b) := by
  have h := strEq a b
  rw [← h]
  by_cases e : (⟨a.toArray⟩ : Str) = ⟨b.toArray⟩
  · rw [decide_eq_true e, beq_iff_eq]; exact e
  · rw [decide_eq_false e, beq_eq_false_iff_ne]; exact e
mutual
theorem toD_eqv : ∀ p q : PV, isD p = true → isD q = true → PyData.eqv (toD p) (toD q) = eqB p q
  | .non, q, _, hq => by cases q <;> simp_all [toD, PyData.eqv, eqB, isD]
  | .bl _, q, _, hq => by cases q <;> simp_all [toD, PyData.eqv, eqB, isD]
  | .int _, q, _, hq => by cases q <;> simp_all [toD, PyData.eqv, eqB, isD]
  | .str a, q, _, hq => by
    cases q with
    | str b => simp only [toD, PyData.eqv, eqB]; exact strBeq a b
    | _ => simp_all [toD, PyData.eqv, eqB, isD]
  | .tup l, q, hp, hq => by
    cases q with
    | tup m => simp only [toD, PyData.eqv, eqB]; exact toDs_eqv l m (by simpa [isD] using hp) (by simpa [isD] using hq)
    | _ => simp_all [toD, PyData.eqv, eqB, isD]
  | .lst l, q, hp, hq => by
    cases q with
    | lst m => simp only [toD, PyData.eqv, eqB]; exact toDs_eqv l m (by simpa [isD] using hp) (by simpa [isD] using hq)
    | _ => simp_all [toD, PyData.eqv, eqB, isD]
  | .dct _ _ _, _, hp, _ => by simp [isD] at hp
  | .set _, _, hp, _ => by simp [isD] at hp
  | .scr _, _, hp, _ => by simp [isD] at hp
  | .obj _, _, hp, _ => by simp [isD] at hp
  | .fn _, _, hp, _ => by simp [isD] at hp
  | .clo _ _, _, hp, _ => by simp [isD] at hp
  | .ty _, _, hp, _ => by simp [isD] at hp
theorem toDs_eqv : ∀ l m : List PV, isDs l = true → isDs m = true → PyData.eqvAll (toDs l) (toDs m) = eqBs l m
  | [], [], _, _ => by simp [toDs, PyData.eqvAll, eqBs]
  | [], _ :: _, _, _ => by simp [toDs, PyData.eqvAll, eqBs]
  | _ :: _, [], _, _ => by simp [toDs, PyData.eqvAll, eqBs]
  | x :: xs, y :: ys, h1, h2 => by
    simp only [isDs, Bool.and_eq_true] at h1 h2
    simp only [toDs, PyData.eqvAll, eqBs, toD_eqv x y h1.1 h2.1, toDs_eqv xs ys h1.2 h2.2]
end
section
variable {K : PySem.W.Frag} {mg : MG} {g : G} {X : Cx}
mutual
theorem RelP.dp : ∀ (p : PV) (v : V), isD p = true → RelP K mg g p v → Dp K g.H v (toD p)
  | .non, v, _, h => by simp only [RelP] at h; subst h; exact .non
  | .bl b, v, _, h => by simp only [RelP] at h; subst h; exact .bl b
  | .int i, v, _, h => by simp only [RelP] at h; subst h; exact .int i
  | .str l, v, _, h => by simp only [RelP] at h; subst h; exact .str _
  | .tup l, v, hd, h => by
    simp only [RelP] at h
    obtain ⟨a, vs, rfl, h1, h2⟩ := h
    exact .tup (SqT.of h1) (RelPs.dp l vs (by simpa [isD] using hd) h2)
  | .lst l, v, hd, h => by
    simp only [RelP] at h
    obtain ⟨a, vs, rfl, h1, h2⟩ := h
    exact .lst (SqL.of h1.1) (RelPs.dp l vs (by simpa [isD] using hd) h2)
  | .dct _ _ _, _, hp, _ => by simp [isD] at hp
  | .set _, _, hp, _ => by simp [isD] at hp
  | .scr _, _, hp, _ => by simp [isD] at hp
  | .obj _, _, hp, _ => by simp [isD] at hp
  | .fn _, _, hp, _ => by simp [isD] at hp
  | .clo _ _, _, hp, _ => by simp [isD] at hp
  | .ty _, _, hp, _ => by simp [isD] at hp
theorem RelPs.dp : ∀ (l : List PV) (vs : List V), isDs l = true → RelPs K mg g l vs → DpAll K g.H vs (toDs l)
  | [], vs, _, h => by simp only [RelPs] at h; subst h; exact .nil
  | p :: ps, vs, hd, h => by
    simp only [isDs, Bool.and_eq_true] at hd
    simp only [RelPs] at h
    obtain ⟨v, r, rfl, h1, h2⟩ := h
    exact .cons (RelP.dp p v hd.1 h1) (RelPs.dp ps r hd.2 h2)
end
theorem RelD.dp {p : PV} {v : V} (hd : isD p = true) (h : RelD K mg g p v) : Dp K g.H v (toD p) := by
  cases p with
  | lst l =>
    obtain ⟨a, vs, rfl, h1, h2⟩ := relL h
    exact .lst (SqL.of h1) (RelPs.dp l vs (by simpa [isD] using hd) h2)
  | dct t ks vs => simp [isD] at hd
  | _ => exact RelP.dp (mg := mg) _ v hd h
theorem cm_of {op : CmpOp} {m : PV → PV → Option Bool} (h : ∀ (pins : List (Addr × Obj)) (s : Shared) (σ : L2.St) (x y : V) (v u : Value) (Q : VK) (g : G) (px py : PV) (b : Bool), g.Ok X.K X.mg → L2.Inv X pins σ g.H s → L2.RelV x v → L2.RelV y u →
    RelD X.K X.mg g px x → RelD X.K X.mg g py y → m px py = some b → Q (.bl b) g.H → wpAny (model X.prog X.w) X.A (compareOp op v u) (EP X pins σ Q) X.xe s) : OpR X (compareOp op) (OpM X.K X.mg fun x y => (m x y).map .bl) := by
  intro pins s σ H x y v u Q I rx ry ⟨g, px, py, z, eH, ok, r1, r2, hz, q⟩
  subst eH
  dsimp only at hz
  cases hm : m px py with
  | none => rw [hm] at hz; cases hz
  | some b =>
    rw [hm] at hz
    have hz : some (PV.bl b) = some z := hz
    cases hz
    exact h pins s σ x y v u Q g px py b ok I rx ry r1 r2 hm (fin_bl ok q)
theorem pEq_some {x y : PV} {b : Bool} (h : pEq x y = some b) : isD x = true ∧ isD y = true ∧ min (dep x) (dep y) ≤ 64 ∧ b = eqB x y := by
  unfold pEq at h
  split at h
  · rename_i hl
    simp only [Bool.and_eq_true, decide_eq_true_eq] at hl
    cases h
    exact ⟨hl.1.1, hl.1.2, hl.2, rfl⟩
  · cases h
theorem o_eq (hu : X.A.units + 64 < cLine) : OpR X (compareOp .Eq) (OpM X.K X.mg fun x y => (pEq x y).map .bl) := cm_of fun pins s σ x y v u Q g px py b ok I rx ry r1 r2 hm q => by
  obtain ⟨h1, h2, h3, rfl⟩ := pEq_some hm
  obtain ⟨as, q1⟩ := Dp.reads I _ x v (r1.dp h1) rx
  obtain ⟨bs, q2⟩ := Dp.reads I _ y u (r2.dp h2) ry
  refine SeqAt.eq_plain q1 q2 (toD_plain px) (toD_plain py) (by rw [toD_dep, toD_dep]; omega) ?_
  rw [toD_eqv px py h1 h2]
  exact ⟨.bl _, g.H, I, rfl, q⟩
theorem o_ne (hu : X.A.units + 64 < cLine) : OpR X (compareOp .NotEq) (OpM X.K X.mg fun x y => (pNe x y).map .bl) := cm_of fun pins s σ x y v u Q g px py b ok I rx ry r1 r2 hm q => by
  obtain ⟨c, hm2, rfl⟩ := Option.map_eq_some_iff.mp hm
  obtain ⟨h1, h2, h3, rfl⟩ := pEq_some hm2
  obtain ⟨as, q1⟩ := Dp.reads I _ x v (r1.dp h1) rx
  obtain ⟨bs, q2⟩ := Dp.reads I _ y u (r2.dp h2) ry
  refine SeqAt.ne_plain q1 q2 (toD_plain px) (toD_plain py) (by rw [toD_dep, toD_dep]; omega) ?_
  rw [toD_eqv px py h1 h2]
  exact ⟨.bl _, g.H, I, rfl, q⟩
theorem pLt_some {x y : PV} {b : Bool} (h : pLt x y = some b) : (∃ i j, x = .int i ∧ y = .int j ∧ b = decide (i < j)) ∨ (∃ i j, x = .str i ∧ y = .str j ∧ b = decide (i < j)) ∨
    ∃ l m, x = .tup l ∧ y = .tup m ∧ isDs l = true ∧ isDs m = true ∧ alikeBs l m = true ∧ min (deps l) (deps m) ≤ 60 ∧ b = ltBs l m := by
  unfold pLt at h
  split at h
  · cases h; exact .inl ⟨_, _, rfl, rfl, rfl⟩
  · cases h; exact .inr (.inl ⟨_, _, rfl, rfl, rfl⟩)
  · split at h
    · rename_i hl
      simp only [Bool.and_eq_true, decide_eq_true_eq] at hl
      cases h
      exact .inr (.inr ⟨_, _, rfl, rfl, hl.1.1.1, hl.1.1.2, hl.1.2, hl.2, rfl⟩)
    · cases h
  · cases h
theorem qLt_some {x y : PV} {b : Bool} (h : qLt x y = some b) : (∃ i j, x = .int i ∧ y = .int j ∧ b = decide (i < j)) ∨ ∃ i j, x = .str i ∧ y = .str j ∧ b = decide (i < j) := by
  unfold qLt at h
  split at h
  · cases h; exact .inl ⟨_, _, rfl, rfl, rfl⟩
  · cases h; exact .inr ⟨_, _, rfl, rfl, rfl⟩
  · cases h
mutual
theorem toD_alike : ∀ p q : PV, isD p = true → isD q = true → PySem.W.alike (toD p) (toD q) = alikeB p q
  | .non, q, _, hq => by cases q <;> simp_all [toD, PySem.W.alike, alikeB, isD]
  | .bl _, q, _, hq => by cases q <;> simp_all [toD, PySem.W.alike, alikeB, isD]
  | .int _, q, _, hq => by cases q <;> simp_all [toD, PySem.W.alike, alikeB, isD]
  | .str _, q, _, hq => by cases q <;> simp_all [toD, PySem.W.alike, alikeB, isD]
  | .tup l, q, hp, hq => by
    cases q with
    | tup m => simp only [toD, PySem.W.alike, alikeB]; exact toDs_alike l m (by simpa [isD] using hp) (by simpa [isD] using hq)
    | _ => simp_all [toD, PySem.W.alike, alikeB, isD]
  | .lst l, q, hp, hq => by
    cases q with
    | lst m => simp only [toD, PySem.W.alike, alikeB]; exact toDs_alike l m (by simpa [isD] using hp) (by simpa [isD] using hq)
    | _ => simp_all [toD, PySem.W.alike, alikeB, isD]
  | .dct _ _ _, _, hp, _ => by simp [isD] at hp
  | .set _, _, hp, _ => by simp [isD] at hp
  | .scr _, _, hp, _ => by simp [isD] at hp
  | .obj _, _, hp, _ => by simp [isD] at hp
  | .fn _, _, hp, _ => by simp [isD] at hp
  | .clo _ _, _, hp, _ => by simp [isD] at hp
  | .ty _, _, hp, _ => by simp [isD] at hp
theorem toDs_alike : ∀ l m : List PV, isDs l = true → isDs m = true → PySem.W.alikeAll (toDs l) (toDs m) = alikeBs l m
  | [], m, _, _ => by cases m <;> simp [toDs, PySem.W.alikeAll, alikeBs]
  | _ :: _, [], _, _ => by simp [toDs, PySem.W.alikeAll, alikeBs]
  | x :: xs, y :: ys, h1, h2 => by
    simp only [isDs, Bool.and_eq_true] at h1 h2
    simp only [toDs, PySem.W.alikeAll, alikeBs, toD_alike x y h1.1 h2.1, toDs_alike xs ys h1.2 h2.2]
end
theorem lex_nn : PyProof.Rows.lexLt PyProof.Rows.itemOrd (PySem.W.keyToksAll []) (PySem.W.keyToksAll []) = false := by decide +kernel
mutual
theorem toD_lt : ∀ p q : PV, isD p = true → isD q = true → alikeB p q = true → PySem.W.dataLt (toD p) (toD q) = ltB p q
  | .non, q, _, hq, ha => by
    cases q <;> simp_all [alikeB]
    decide +kernel
  | .bl a, q, _, hq, ha => by
    cases q <;> simp_all [alikeB]
    rename_i b
    simp only [toD, ltB]
    cases a <;> cases b <;> decide +kernel
  | .int a, q, _, hq, ha => by
    cases q <;> simp_all [alikeB]
    simp only [toD, ltB, PySem.W.dataLt_int]
  | .str a, q, _, hq, ha => by
    cases q <;> simp_all [alikeB]
    simp only [toD, ltB, PySem.W.dataLt_str]
  | .tup l, q, hp, hq, ha => by
    cases q <;> simp_all [alikeB]
    simp only [toD, ltB, PySem.W.dataLt_tuple]
    exact toDs_lt l _ (by simpa [isD] using hp) (by simpa [isD] using hq) ha
  | .lst l, q, hp, hq, ha => by
    cases q <;> simp_all [alikeB]
    simp only [toD, ltB, PySem.W.dataLt_list]
    exact toDs_lt l _ (by simpa [isD] using hp) (by simpa [isD] using hq) ha
  | .dct _ _ _, _, hp, _, _ => by simp [isD] at hp
  | .set _, _, hp, _, _ => by simp [isD] at hp
  | .scr _, _, hp, _, _ => by simp [isD] at hp
  | .obj _, _, hp, _, _ => by simp [isD] at hp
  | .fn _, _, hp, _, _ => by simp [isD] at hp
  | .clo _ _, _, hp, _, _ => by simp [isD] at hp
  | .ty _, _, hp, _, _ => by simp [isD] at hp
theorem toDs_lt : ∀ l m : List PV, isDs l = true → isDs m = true → alikeBs l m = true → PyProof.Rows.lexLt PyProof.Rows.itemOrd (PySem.W.keyToksAll (toDs l)) (PySem.W.keyToksAll (toDs m)) = ltBs l m
  | [], [], _, _, _ => by simp only [toDs, ltBs]; exact lex_nn
  | [], y :: ys, _, _, _ => by
    simp only [toDs, ltBs, PySem.W.keyToksAll]
    rfl
  | x :: xs, [], _, _, _ => by
    simp only [toDs, ltBs, PySem.W.keyToksAll]
    rfl
  | x :: xs, y :: ys, h1, h2, ha => by
    simp only [isDs, Bool.and_eq_true] at h1 h2
    simp only [alikeBs, Bool.and_eq_true] at ha
    simp only [toDs, ltBs]
    rw [PySem.W.dataLt_cons (by rw [toD_alike x y h1.1 h2.1]; exact ha.1), toD_eqv x y h1.1 h2.1, toDs_lt xs ys h1.2 h2.2 ha.2, toD_lt x y h1.1 h2.1 ha.1]
end
theorem int_le (a b : Int) : decide (a ≤ b) = !decide (b < a) := by
  by_cases h : a ≤ b
  · rw [decide_eq_true h, decide_eq_false (by omega)]; rfl
  · rw [decide_eq_false h, decide_eq_true (by omega)]; rfl
theorem o_lt (hu : X.A.units + 64 < cLine) : OpR X (compareOp .Lt) (OpM X.K X.mg fun x y => (pLt x y).map .bl) := cm_of fun pins s σ x y v u Q g px py b ok I rx ry r1 r2 hm q => by
  rcases pLt_some hm with ⟨i, j, rfl, rfl, rfl⟩ | ⟨i, j, rfl, rfl, rfl⟩ | ⟨l, m, rfl, rfl, d1, d2, al, dp, rfl⟩
  · obtain rfl := relI r1
    obtain rfl := relI r2
    exact op_lt pins s σ g.H _ _ v u Q I rx ry ⟨_, _, rfl, rfl, q⟩
  · obtain rfl := relS r1
    obtain rfl := relS r2
    exact op_lt_str pins s σ g.H _ _ v u Q I rx ry ⟨_, _, rfl, rfl, q⟩
  · have hd1 : isD (.tup l) = true := by simpa [isD] using d1
    have hd2 : isD (.tup m) = true := by simpa [isD] using d2
    have ha : alikeB (.tup l) (.tup m) = true := by simpa [alikeB] using al
    obtain ⟨as, q1⟩ := Dp.reads I _ x v (r1.dp hd1) rx
    obtain ⟨bs, q2⟩ := Dp.reads I _ y u (r2.dp hd2) ry
    have z := PySem.W.rcLt_alike _ _ X.A s v u as bs q1 q2 (by rw [toD_alike _ _ hd1 hd2]; exact ha) (by simp [toD]) (by rw [toD_dep, toD_dep]; simp only [dep]; omega)
    rw [toD_lt _ _ hd1 hd2 ha] at z
    exact z _ _ _ _ ⟨.bl _, g.H, I, rfl, by simpa only [ltB] using q⟩
theorem o_gt : OpR X (compareOp .Gt) (OpM X.K X.mg fun x y => (pGt x y).map .bl) := cm_of fun pins s σ x y v u Q g px py b ok I rx ry r1 r2 hm q => by
  rcases qLt_some hm with ⟨i, j, rfl, rfl, rfl⟩ | ⟨i, j, rfl, rfl, rfl⟩
  · obtain rfl := relI r1
    obtain rfl := relI r2
    exact op_gt pins s σ g.H _ _ v u Q I rx ry ⟨_, _, rfl, rfl, q⟩
  · obtain rfl := relS r1
    obtain rfl := relS r2
    exact op_gt_str pins s σ g.H _ _ v u Q I rx ry ⟨_, _, rfl, rfl, q⟩
theorem o_le : OpR X (compareOp .LtE) (OpM X.K X.mg fun x y => (pLe x y).map .bl) := cm_of fun pins s σ x y v u Q g px py b ok I rx ry r1 r2 hm q => by
  obtain ⟨c, hm2, rfl⟩ := Option.map_eq_some_iff.mp hm
  rcases qLt_some hm2 with ⟨i, j, rfl, rfl, rfl⟩ | ⟨i, j, rfl, rfl, rfl⟩
  · obtain rfl := relI r1
    obtain rfl := relI r2
    exact op_le pins s σ g.H _ _ v u Q I rx ry ⟨_, _, rfl, rfl, by dsimp only; rw [int_le]; exact q⟩
  · obtain rfl := relS r1
    obtain rfl := relS r2
    exact op_le_str pins s σ g.H _ _ v u Q I rx ry ⟨_, _, rfl, rfl, q⟩
theorem o_ge : OpR X (compareOp .GtE) (OpM X.K X.mg fun x y => (pGe x y).map .bl) := cm_of fun pins s σ x y v u Q g px py b ok I rx ry r1 r2 hm q => by
  obtain ⟨c, hm2, rfl⟩ := Option.map_eq_some_iff.mp hm
  rcases qLt_some hm2 with ⟨i, j, rfl, rfl, rfl⟩ | ⟨i, j, rfl, rfl, rfl⟩
  · obtain rfl := relI r1
    obtain rfl := relI r2
    exact op_ge pins s σ g.H _ _ v u Q I rx ry ⟨_, _, rfl, rfl, by dsimp only; rw [int_le]; exact q⟩
  · obtain rfl := relS r1
    obtain rfl := relS r2
    exact op_ge_str pins s σ g.H _ _ v u Q I rx ry ⟨_, _, rfl, rfl, q⟩
/-! is -/
theorem vNon {p : PV} {v : V} (r : RelD K mg g p v) : decide (v = .non) = isNon p := by
  cases p with
  | non => obtain rfl := relN r; rfl
  | bl b => obtain rfl := relB r; rfl
  | int b => obtain rfl := relI r; rfl
  | str b => obtain rfl := relS r; rfl
  | tup l => obtain ⟨a, vs, rfl, _⟩ := relT r; rfl
  | lst l => obtain ⟨a, vs, rfl, _⟩ := relL r; rfl
  | scr l => obtain ⟨a, vs, rfl, _⟩ := relX r; rfl
  | dct t ks vs => simp only [RelD] at r; obtain ⟨a, rfl, _⟩ := r; rfl
  | obj i => simp only [RelD, RelP] at r; obtain ⟨_, rfl⟩ := r; rfl
  | fn n => simp only [RelD, RelP] at r; obtain ⟨f, rfl, _⟩ := r; rfl
  | ty n => simp only [RelD, RelP] at r; subst r; rfl
  | set l => simp only [RelD, RelP] at r; obtain ⟨_, _, a, rfl, rfl, _⟩ := r; rfl
  | clo n l => simp only [RelD, RelP] at r
/-- what a value is beside a bool -/
theorem vBl {p : PV} {v : V} {u : Value} {c : Bool} (r : RelD K mg g p v) (rv : L2.RelV v u) : (u == Value.bool c) = isBl c p := by
  cases p with
  | non => obtain rfl := relN r; cases rv; rfl
  | bl b => obtain rfl := relB r; cases rv; cases b <;> cases c <;> rfl
  | int b => obtain rfl := relI r; obtain ⟨t, rfl⟩ := rv; rfl
  | str b => obtain rfl := relS r; obtain ⟨t, rfl⟩ := rv; rfl
  | tup l => obtain ⟨a, vs, rfl, _⟩ := relT r; cases rv; rfl
  | lst l => obtain ⟨a, vs, rfl, _⟩ := relL r; cases rv; rfl
  | scr l => obtain ⟨a, vs, rfl, _⟩ := relX r; cases rv; rfl
  | dct t ks vs => simp only [RelD] at r; obtain ⟨a, rfl, _⟩ := r; cases rv; rfl
  | obj i => simp only [RelD, RelP] at r; obtain ⟨_, rfl⟩ := r; cases rv; rfl
  | fn n => simp only [RelD, RelP] at r; obtain ⟨f, rfl, _⟩ := r; cases rv; rfl
  | ty n => simp only [RelD, RelP] at r; subst r; cases rv; rfl
  | set l => simp only [RelD, RelP] at r; obtain ⟨_, _, a, rfl, rfl, _⟩ := r; cases rv; rfl
  | clo n l => simp only [RelD, RelP] at r
theorem plain_bl {v : V} {u : Value} (rv : L2.RelV v u) (c : Bool) : plainIs u (.bool c) = true := by
  cases v with
  | non => cases rv; rfl
  | bl _ => cases rv; rfl
  | int _ => obtain ⟨t, rfl⟩ := rv; rfl
  | str _ => obtain ⟨t, rfl⟩ := rv; rfl
  | byt _ => obtain ⟨t, rfl⟩ := rv; rfl
  | flt _ => obtain ⟨t, rfl⟩ := rv; rfl
  | ref _ => cases rv; rfl
  | ty _ => cases rv; rfl
theorem pIs_some {x y : PV} {b : Bool} (h : pIs x y = some b) : (y = .non ∧ b = isNon x) ∨ ∃ c, y = .bl c ∧ b = isBl c x := by
  cases y with
  | non => left; exact ⟨rfl, (Option.some.inj h).symm⟩
  | bl c => right; exact ⟨c, rfl, (Option.some.inj h).symm⟩
  | _ => simp [pIs] at h
theorem o_is : OpR X (compareOp .Is) (OpM X.K X.mg fun x y => (pIs x y).map .bl) := cm_of fun pins s σ x y v u Q g px py b ok I rx ry r1 r2 hm q => by
  rcases pIs_some hm with ⟨rfl, rfl⟩ | ⟨c, rfl, rfl⟩
  · obtain rfl := relN r2
    refine op_isN pins s σ g.H _ _ v u Q I rx ry ⟨rfl, ?_⟩
    rw [vNon r1]; exact q
  · obtain rfl := relB r2
    cases ry
    refine wpAny_is_plain (plain_bl rx c) ⟨.bl _, g.H, I, rfl, ?_⟩
    rw [vBl r1 rx]; exact q
theorem o_isN : OpR X (compareOp .IsNot) (OpM X.K X.mg fun x y => (pIsN x y).map .bl) := cm_of fun pins s σ x y v u Q g px py b ok I rx ry r1 r2 hm q => by
  obtain ⟨c, hm2, rfl⟩ := Option.map_eq_some_iff.mp hm
  rcases pIs_some hm2 with ⟨rfl, rfl⟩ | ⟨c, rfl, rfl⟩
  · obtain rfl := relN r2
    refine op_notN pins s σ g.H _ _ v u Q I rx ry ⟨rfl, ?_⟩
    rw [vNon r1]; exact q
  · obtain rfl := relB r2
    cases ry
    refine wpAny_isNot_plain (plain_bl rx c) ⟨.bl _, g.H, I, rfl, ?_⟩
    rw [vBl r1 rx]; exact q
/-! in -/
theorem isIn_iff (a : List Nat) : ∀ l : List Nat, isIn a l = true ↔ ∃ i, i + a.length ≤ l.length ∧ (l.drop i).take a.length = a
  | [] => by
    simp only [isIn]
    constructor
    · intro h
      have : a = [] := by simpa using h
      subst this
      exact ⟨0, by simp, by simp⟩
    · rintro ⟨i, h1, h2⟩
      have : a.length = 0 := by
        have e0 : ([] : List Nat).length = 0 := rfl
        omega
      have : a = [] := List.length_eq_zero_iff.mp this
      subst this; rfl
  | x :: xs => by
    simp only [isIn, Bool.or_eq_true, isIn_iff a xs, List.isPrefixOf_iff_prefix]
    constructor
    · rintro (⟨t, ht⟩ | ⟨i, h1, h2⟩)
      · refine ⟨0, ?_, ?_⟩
        · have := congrArg List.length ht
          simp at this ⊢; omega
        · rw [List.drop_zero, ← ht, List.take_left']
          rfl
      · exact ⟨i + 1, by simp; omega, by simpa using h2⟩
    · rintro ⟨i, h1, h2⟩
      cases i with
      | zero => left; refine ⟨(x :: xs).drop a.length, ?_⟩; rw [List.drop_zero] at h2; conv => lhs; lhs; rw [← h2]
                exact List.take_append_drop _ _
      | succ i => right; exact ⟨i, by simp at h1; omega, by simpa using h2⟩
theorem toDs_any (d : PV) (hd : isD d = true) : ∀ l : List PV, isDs l = true → (toDs l).any (fun y => PyData.eqv y (toD d)) = l.any fun y => eqB y d
  | [], _ => rfl
  | x :: xs, h => by
    simp only [isDs, Bool.and_eq_true] at h
    simp only [toDs, List.any_cons, toD_eqv x d h.1 hd, toDs_any d hd xs h.2]
theorem occ_in (a b : List Nat) : (!(Builtin.Str.occurrences ⟨b.toArray⟩ ⟨a.toArray⟩ 0 (⟨b.toArray⟩ : Str).length 1).isEmpty) = isIn a b := by
  rw [Bool.eq_iff_iff, StrLaws.found_iff, isIn_iff]
  have key : ∀ i, Builtin.Str.subAt ⟨b.toArray⟩ ⟨a.toArray⟩ i = true ↔ (b.drop i).take a.length = a := fun i => by
    rw [StrLaws.subAt_eq, strlen, beq_iff_eq]
  simp only [strlen, key]
theorem pIn_some {x y : PV} {b : Bool} (h : pIn x y = some b) : (∃ a l, x = .str a ∧ y = .str l ∧ b = isIn a l) ∨
    (∃ l, (y = .tup l ∨ y = .lst l) ∧ isD x = true ∧ isDs l = true ∧ min (deps l) (dep x) ≤ 64 ∧ b = l.any fun y => eqB y x) := by
  have one : ∀ (c : Nat) (l : List Nat), l.contains c = isIn [c] l := fun c l => by
    rw [Bool.eq_iff_iff, isIn_iff, List.contains_iff_mem]
    constructor
    · intro hm
      obtain ⟨i, hi, he⟩ := List.getElem_of_mem hm
      refine ⟨i, by simp; omega, ?_⟩
      rw [List.drop_eq_getElem_cons hi, he]; rfl
    · rintro ⟨i, h1, h2⟩
      have : c ∈ (l.drop i).take ([c] : List Nat).length := by rw [h2]; simp
      exact List.mem_of_mem_drop (List.mem_of_mem_take this)
  cases y with
  | str l =>
    left
    cases x with
    | str a =>
      match a, h with
      | [c], h => exact ⟨[c], l, rfl, rfl, by rw [← one]; exact (Option.some.inj h).symm⟩
      | [], h => exact ⟨_, _, rfl, rfl, (Option.some.inj h).symm⟩
      | _ :: _ :: _, h => exact ⟨_, _, rfl, rfl, (Option.some.inj h).symm⟩
    | _ => simp [pIn] at h
  | tup l =>
    right
    unfold pIn at h
    dsimp only at h
    split at h
    · rename_i hl
      simp only [Bool.and_eq_true, decide_eq_true_eq] at hl
      exact ⟨l, .inl rfl, hl.1.1, hl.1.2, hl.2, (Option.some.inj h).symm⟩
    · cases h
  | lst l =>
    right
    unfold pIn at h
    dsimp only at h
    split at h
    · rename_i hl
      simp only [Bool.and_eq_true, decide_eq_true_eq] at hl
      exact ⟨l, .inr rfl, hl.1.1, hl.1.2, hl.2, (Option.some.inj h).symm⟩
    · cases h
  | _ => simp [pIn] at h
theorem o_in (hu : X.A.units + 66 < cLine) : OpR X (compareOp .In) (OpM X.K X.mg fun x y => (pIn x y).map .bl) := cm_of fun pins s σ x y v u Q g px py b ok I rx ry r1 r2 hm q => by
  rcases pIn_some hm with ⟨a, l, rfl, rfl, rfl⟩ | ⟨l, hl, hd, hds, hdep, rfl⟩
  · obtain rfl := relS r1
    obtain rfl := relS r2
    exact op_in_str pins s σ g.H _ _ v u Q I rx ry ⟨_, _, rfl, rfl, by rw [occ_in]; exact q⟩
  · obtain ⟨as, q1⟩ := Dp.reads I _ x v (r1.dp hd) rx
    have hy : isD py = true := by rcases hl with rfl | rfl <;> simpa [isD] using hds
    obtain ⟨bs, q2⟩ := Dp.reads I _ y u (r2.dp hy) ry
    have fin : EP X pins σ Q (.bool ((toDs l).any fun y => PyData.eqv y (toD px))) s := ⟨.bl _, g.H, I, rfl, by rw [toDs_any px hd l hds]; exact q⟩
    have hroom : X.A.units + 1 + min (PyData.depthAll (toDs l)) (toD px).depth < cLine := by rw [toD_dep, toDs_dep]; omega
    rcases hl with rfl | rfl
    · exact SeqAt.in_tuple_data (by simpa only [toD] using q2) q1 (toDs_plain l) (toD_plain px) hroom fin
    · exact SeqAt.in_list_data (by simpa only [toD] using q2) q1 (toDs_plain l) (toD_plain px) hroom fin
theorem o_notIn (hu : X.A.units + 66 < cLine) : OpR X (compareOp .NotIn) (OpM X.K X.mg fun x y => (pNin x y).map .bl) := cm_of fun pins s σ x y v u Q g px py b ok I rx ry r1 r2 hm q => by
  obtain ⟨c, hm2, rfl⟩ := Option.map_eq_some_iff.mp hm
  rcases pIn_some hm2 with ⟨a, l, rfl, rfl, rfl⟩ | ⟨l, hl, hd, hds, hdep, rfl⟩
  · obtain rfl := relS r1
    obtain rfl := relS r2
    exact op_notIn_str pins s σ g.H _ _ v u Q I rx ry ⟨_, _, rfl, rfl, by rw [occ_in]; exact q⟩
  · obtain ⟨as, q1⟩ := Dp.reads I _ x v (r1.dp hd) rx
    have hy : isD py = true := by rcases hl with rfl | rfl <;> simpa [isD] using hds
    obtain ⟨bs, q2⟩ := Dp.reads I _ y u (r2.dp hy) ry
    have fin : EP X pins σ Q (.bool (!(toDs l).any fun y => PyData.eqv y (toD px))) s := ⟨.bl _, g.H, I, rfl, by rw [toDs_any px hd l hds]; exact q⟩
    have hroom : X.A.units + 1 + min (PyData.depthAll (toDs l)) (toD px).depth < cLine := by rw [toD_dep, toDs_dep]; omega
    rcases hl with rfl | rfl
    · exact SeqAt.notIn_tuple_data (by simpa only [toD] using q2) q1 (toDs_plain l) (toD_plain px) hroom fin
    · exact SeqAt.notIn_list_data (by simpa only [toD] using q2) q1 (toDs_plain l) (toD_plain px) hroom fin
end
end
end Mr
/-! tuple * int, any number -/
namespace Mr
noncomputable section
open PySem PySem.Spec PyProof.Rows L2
theorem tup_mul_same (l : Addr) (items : Array Value) (n : Nat) (dd : Option Addr) (sl : Array (Option Value)) (x : Int) (u : Tok) (c0 : (decide (x < -(2 ^ 63)) || decide (x ≥ 2 ^ 63)) = false) (c1 : (items.isEmpty || x == 1) = true) :
    Meets (Builtin.«tuple.__mul__» ⟨[.ref l, .int x u], []⟩) (fun _ R s => s.heap.get? l = some { cls := .type "tuple", dict := dd, data := .seq items n, slots := sl } ∧ R (.ok (.ret (Value.ref l))) s) :=
  .of_wp fun prog w A R s h => by
    obtain ⟨hp, g, d, tk, os⟩ := s
    obtain ⟨hl, h⟩ := h
    have f1 := AutoSeq1.idx_int
    wp_walk using wpAny_loadPart' hl
    repeat (first
      | (refine wpAny_ite_false (decide_eq_false (by rw [c0]; exact Bool.false_ne_true)) ?_; wp_walk using wpAny_loadPart' hl)
      | (refine wpAny_ite_true (decide_eq_true c1) ?_; wp_walk using wpAny_loadPart' hl))
    exact ⟨_, rfl, h⟩
theorem tup_mul_none (l : Addr) (items : Array Value) (n : Nat) (dd : Option Addr) (sl : Array (Option Value)) (x : Int) (u : Tok) (c0 : (decide (x < -(2 ^ 63)) || decide (x ≥ 2 ^ 63)) = false) (c1 : (items.isEmpty || x == 1) = false) (c2 : (decide (x ≤ 0) || items.isEmpty) = true) :
    Meets (Builtin.«tuple.__mul__» ⟨[.ref l, .int x u], []⟩) (fun _ R s => s.heap.get? l = some { cls := .type "tuple", dict := dd, data := .seq items n, slots := sl } ∧ R (.ok (.ret (Value.ref s.heap.objs.size))) { s with heap := s.heap.push { cls := Value.type "tuple", data := Data.seq #[] }, toks := s.toks }) :=
  .of_wp fun prog w A R s h => by
    obtain ⟨hp, g, d, tk, os⟩ := s
    obtain ⟨hl, h⟩ := h
    have f1 := AutoSeq1.idx_int
    wp_walk using wpAny_loadPart' hl
    repeat (first
      | (refine wpAny_ite_false (decide_eq_false (by rw [c0]; exact Bool.false_ne_true)) ?_; wp_walk using wpAny_loadPart' hl)
      | (refine wpAny_ite_false (decide_eq_false (by rw [c1]; exact Bool.false_ne_true)) ?_; wp_walk using wpAny_loadPart' hl)
      | (refine wpAny_ite_true (decide_eq_true c2) ?_; wp_walk using wpAny_loadPart' hl))
    exact ⟨_, rfl, h⟩
section
variable {X : Cx}
theorem op_repS : OpR X (binaryOp .Mult) (fun x y H Q => ∃ l k xs, x = .ref l ∧ y = .int k ∧ SqT X.K H l xs ∧ (xs = [] ∨ k = 1) ∧ -(2 ^ 62) ≤ k ∧ k < 2 ^ 62 ∧ Q (.ref l) H) := by
  intro pins s σ H x y v u Q I rx ry h
  obtain ⟨l, k, xs, rfl, rfl, hT, hs, h1, h2, q⟩ := h
  cases rx
  obtain ⟨t, rfl⟩ := ry
  obtain ⟨its, r, ⟨⟨cls, dd, data, sl⟩, ho, hc, n, hd⟩, hsz⟩ := I.tuple hT
  simp only at hc hd
  subst hc hd
  have hle : its.length = xs.length := r.length.symm
  have c0 : (decide (k < -(2 ^ 63)) || decide (k ≥ 2 ^ 63)) = false := by
    rw [decide_eq_false (by omega), decide_eq_false (by omega)] <;> rfl
  have c1 : (its.toArray.isEmpty || k == 1) = true := by
    rcases hs with hs | hs
    · rw [hs] at hle
      have : its = [] := List.eq_nil_of_length_eq_zero hle
      rw [this]; rfl
    · rw [hs]; simp
  refine wpAny_binaryOp_repeat_ref (T := "tuple") (U := "int") (by decide) ⟨_, ho, rfl⟩ (fun s' => typeIs_int s' k t) noFill_tuple_mul F.fills_int_mul F.slot_int_rmul repeat_tuple F.slot_int_index.lookup
    (call_meets F.slot_int_rmul (typeIs_int s k t) F.entry_int_rmul (F.args_int_rmul_2 _ _) (int_rmul_tuple k t l its.toArray n dd sl)
      ⟨ho, rfl, ⟨_, ho, rfl⟩, call_meets F.slot_tuple_mul ⟨_, ho, rfl⟩ F.entry_tuple_mul (F.args_tuple_mul_2 _ _) (tup_mul_same l its.toArray n dd sl k t c0 c1) ⟨ho, ?_⟩⟩)
  exact ⟨.ref l, H, I, rfl, q⟩
theorem op_repN : OpR X (binaryOp .Mult) (fun x y H Q => ∃ l k xs, x = .ref l ∧ y = .int k ∧ SqT X.K H l xs ∧ xs ≠ [] ∧ -(2 ^ 62) ≤ k ∧ k ≤ 0 ∧ ∀ p, H p = none → Q (.ref p) (upd H p (.tup []))) := by
  intro pins s σ H x y v u Q I rx ry h
  obtain ⟨l, k, xs, rfl, rfl, hT, hne, h1, h2, q⟩ := h
  cases rx
  obtain ⟨t, rfl⟩ := ry
  obtain ⟨its, r, ⟨⟨cls, dd, data, sl⟩, ho, hc, n, hd⟩, hsz⟩ := I.tuple hT
  simp only at hc hd
  subst hc hd
  have hle : its.length = xs.length := r.length.symm
  have hn : its ≠ [] := fun e => hne (by
    rw [e] at hle
    exact List.eq_nil_of_length_eq_zero hle.symm)
  have hi : its.toArray.isEmpty = false := by
    cases its with
    | nil => exact absurd rfl hn
    | cons a b => rfl
  have c0 : (decide (k < -(2 ^ 63)) || decide (k ≥ 2 ^ 63)) = false := by
    rw [decide_eq_false (by omega), decide_eq_false (by omega)] <;> rfl
  have c1 : (its.toArray.isEmpty || k == 1) = false := by
    rw [hi, Bool.false_or]
    exact beq_eq_false_iff_ne.mpr (by omega)
  have c2 : (decide (k ≤ 0) || its.toArray.isEmpty) = true := by rw [decide_eq_true h2]; rfl
  refine wpAny_binaryOp_repeat_ref (T := "tuple") (U := "int") (by decide) ⟨_, ho, rfl⟩ (fun s' => typeIs_int s' k t) noFill_tuple_mul F.fills_int_mul F.slot_int_rmul repeat_tuple F.slot_int_index.lookup
    (call_meets F.slot_int_rmul (typeIs_int s k t) F.entry_int_rmul (F.args_int_rmul_2 _ _) (int_rmul_tuple k t l its.toArray n dd sl)
      ⟨ho, rfl, ⟨_, ho, rfl⟩, call_meets F.slot_tuple_mul ⟨_, ho, rfl⟩ F.entry_tuple_mul (F.args_tuple_mul_2 _ _) (tup_mul_none l its.toArray n dd sl k t c0 c1 c2) ⟨ho, ?_⟩⟩)
  refine ⟨.ref s.heap.objs.size, _, I.laid (t' := s.toks) (o := .tup []) (fun b ob q => Heap.get?_push_of_some _ q) (Nat.le_refl _) ?_, rfl, q _ (I.hok.fresh (Nat.le_refl _))⟩
  exact ⟨Nat.zero_le _, [], .nil, IsTup.new _ _⟩
end
/-- a * b, tuples, too -/
def pMulT : PV → PV → Option PV
  | .tup a, .int k => if a.length ≤ 1000 ∧ -1000 ≤ k ∧ k ≤ 1000 then some (.tup (List.replicate k.toNat a).flatten) else none
  | x, y => pMul x y
section
variable {K : PySem.W.Frag} {mg : MG} {g : G} {X : Cx}
theorem RelPs.rep {l : List PV} {vs : List V} (h : RelPs K mg g l vs) : ∀ n : Nat, RelPs K mg g (List.replicate n l).flatten (List.replicate n vs).flatten
  | 0 => RelPs.nil
  | n + 1 => by
    rw [List.replicate_succ, List.replicate_succ, List.flatten_cons, List.flatten_cons]
    exact RelPs.append h (RelPs.rep h n)
theorem o_mulT : OpR X (binaryOp .Mult) (OpM X.K X.mg pMulT) := by
  intro pins s σ H x y v u Q I rx ry ⟨g, px, py, z, eH, ok, r1, r2, hz, q⟩
  unfold pMulT at hz
  split at hz
  · subst eH
    split at hz
    · rename_i a k hl
      cases hz
      obtain ⟨l, vs, rfl, h1, h2⟩ := relT r1
      obtain rfl := relI r2
      have hle := h2.length
      by_cases c : vs = [] ∨ k = 1
      · refine op_repS pins s σ g.H _ _ v u Q I rx ry ⟨l, k, vs, rfl, rfl, SqT.of h1, c, by omega, by omega, ?_⟩
        refine q g _ (Ext.refl g) ok rfl ?_
        have e : (List.replicate k.toNat a).flatten = a := by
          rcases c with c | c
          · have : a = [] := List.eq_nil_of_length_eq_zero (by rw [hle, c]; rfl)
            subst this
            simp
          · subst c; simp
        rw [e]
        simp only [RelP]
        exact ⟨l, vs, rfl, h1, h2⟩
      · have c1 : vs ≠ [] := fun e => c (.inl e)
        have c2 : k ≠ 1 := fun e => c (.inr e)
        by_cases c3 : k ≤ 0
        · refine op_repN pins s σ g.H _ _ v u Q I rx ry ⟨l, k, vs, rfl, rfl, SqT.of h1, c1, by omega, c3, fun p hp => ?_⟩
          refine q (g.new p (.tup [])) _ (G.new_ext hp) (G.new_ok ok hp) rfl ?_
          rw [show k.toNat = 0 by omega]
          simp only [List.replicate_zero, List.flatten_nil]
          exact G.new_tup ok hp RelPs.nil
        · refine op_repT pins s σ g.H _ _ v u Q I rx ry ⟨l, k, vs, rfl, rfl, SqT.of h1, c1, by omega, by omega, by omega, fun p hp => ?_⟩
          exact q (g.new p _) _ (G.new_ext hp) (G.new_ok ok hp) rfl (G.new_tup ok hp (h2.rep _))
    · cases hz
  · exact o_mul pins s σ H x y v u Q I rx ry ⟨g, px, py, z, eH, ok, r1, r2, hz, q⟩
end
end
end Mr
namespace Mr
noncomputable section
open PySem PySem.Spec PyProof.Rows L2
section
variable {K : PySem.W.Frag} {mg : MG} {g : G} {X : Cx}
/-! ### dicts -/
theorem pvKey_at (k : Key) : isAt (pvKey k) = true := by cases k <;> rfl
theorem aeq_key (k j : Key) : aeq (pvKey k) (pvKey j) = decide (k = j) := by
  cases k with
  | inl i => cases j with
    | inl j => simp only [pvKey, aeq, key_ll]
    | inr y => simp [pvKey, aeq, key_lr]
  | inr x => cases j with
    | inl j => simp [pvKey, aeq, key_rl]
    | inr y =>
      simp only [pvKey, aeq, key_rr]
      by_cases e : x = y
      · subst e; simp
      · have : ¬ x.cps.toList = y.cps.toList := fun q => e (TL.ext_tl q)
        rw [decide_eq_false e, beq_eq_false_iff_ne]
        exact this
theorem aeqs_key : ∀ (a b : List Key), aeqs (a.map pvKey) (b.map pvKey) = decide (a = b)
  | [], [] => by simp [aeqs]
  | [], _ :: _ => by simp [aeqs]
  | _ :: _, [] => by simp [aeqs]
  | x :: xs, y :: ys => by
    simp only [List.map_cons, aeqs, aeq_key, aeqs_key xs ys]
    by_cases h1 : x = y <;> by_cases h2 : xs = ys <;> simp [h1, h2]
theorem key_of {p : PV} {v : V} (h : isKey false p = true) (r : RelP K mg g p v) : ∃ k, p = pvKey k ∧ v = kV k := by
  cases p with
  | int i => simp only [RelP] at r; exact ⟨.inl i, rfl, r⟩
  | str l => simp only [RelP] at r; exact ⟨.inr ⟨l.toArray⟩, by simp [pvKey], r⟩
  | _ => simp [isKey] at h
theorem keys_of : ∀ {l : List PV} {vs : List V}, l.all isAt = true → RelPs K mg g l vs → ∃ ks : List Key, l = ks.map pvKey ∧ vs = ks.map kV
  | [], vs, _, r => by simp only [RelPs] at r; exact ⟨[], rfl, r⟩
  | p :: ps, vs, h, r => by
    simp only [List.all_cons, Bool.and_eq_true] at h
    simp only [RelPs] at r
    obtain ⟨v, rs, rfl, r1, r2⟩ := r
    obtain ⟨k, e1, e2⟩ := key_of (K := K) (mg := mg) (g := g) (p := p) (v := v) (by cases p <;> simp_all [isAt, isKey]) r1
    obtain ⟨ks, e3, e4⟩ := keys_of h.2 r2
    exact ⟨k :: ks, by rw [e1, e3]; rfl, by rw [e2, e4]; rfl⟩
theorem keq_pv (k j : Key) : keq (pvKey k) (pvKey j) = decide (k = j) := by
  rw [← aeq_key]
  cases k <;> cases j <;> rfl
theorem dget_k {k : Key} : ∀ {kvs : List (Key × V)} {vs : List PV}, RelPs K mg g vs (kvs.map (·.2)) →
    (∀ p, dget (kvs.map fun q => pvKey q.1) vs (pvKey k) = some p → ∃ v, valV kvs k = some v ∧ RelP K mg g p v) ∧ (dget (kvs.map fun q => pvKey q.1) vs (pvKey k) = none → valV kvs k = none)
  | [], vs, r => by
    constructor
    · intro p h; simp [dget] at h
    · intro _; rfl
  | q :: kvs, vs, r => by
    cases vs with
    | nil => simp [RelPs] at r
    | cons w ws =>
      simp only [List.map_cons, RelPs] at r
      obtain ⟨v, rs, e, r1, r2⟩ := r
      cases e
      simp only [List.map_cons, dget, keq_pv]
      by_cases h : q.1 = k
      · simp only [decide_eq_true h, if_true]
        exact ⟨fun p e => ⟨_, valV_pos h, by cases e; exact r1⟩, fun e => nomatch e⟩
      · simp only [decide_eq_false h, if_neg Bool.false_ne_true, valV_neg h]
        exact dget_k r2
theorem dget_t {k : List Key} : ∀ {kvs : List (List Key × V)} {vs : List PV}, RelPs K mg g vs (kvs.map (·.2)) →
    (∀ p, dget (kvs.map fun q => PV.tup (q.1.map pvKey)) vs (.tup (k.map pvKey)) = some p → ∃ v, valV kvs k = some v ∧ RelP K mg g p v) ∧ (dget (kvs.map fun q => PV.tup (q.1.map pvKey)) vs (.tup (k.map pvKey)) = none → valV kvs k = none)
  | [], vs, r => by
    constructor
    · intro p h; simp [dget] at h
    · intro _; rfl
  | q :: kvs, vs, r => by
    cases vs with
    | nil => simp [RelPs] at r
    | cons w ws =>
      simp only [List.map_cons, RelPs] at r
      obtain ⟨v, rs, e, r1, r2⟩ := r
      cases e
      simp only [List.map_cons, dget, keq, aeqs_key]
      by_cases h : q.1 = k
      · simp only [decide_eq_true h, if_true]
        exact ⟨fun p e => ⟨_, valV_pos h, by cases e; exact r1⟩, fun e => nomatch e⟩
      · simp only [decide_eq_false h, if_neg Bool.false_ne_true, valV_neg h]
        exact dget_t r2
theorem isKey_d {t : Bool} {p : PV} {v : V} (h : isKey t p = true) (r : RelD K mg g p v) : RelP K mg g p v := by
  cases p <;> simp_all [isKey, RelD]
/-- what a dict holds at a key -/
theorem dGet {t : Bool} {ks vs : List PV} {x k : V} {p : PV} (hk : isKey t p = true) (rd : RelD K mg g (.dct t ks vs) x) (rk : RelP K mg g p k) : ∃ a o, x = .ref a ∧ DGet g.H a k o ∧
    (∀ q, dget ks vs p = some q → ∃ v, o = some v ∧ RelP K mg g q v) ∧ (dget ks vs p = none → o = none) := by
  simp only [RelD] at rd
  obtain ⟨a, rfl, rd⟩ := rd
  rcases rd with ⟨rfl, kvs, h1, rfl, h3⟩ | ⟨rfl, kvs, h1, rfl, h3⟩
  · obtain ⟨kk, rfl, rfl⟩ := key_of hk rk
    obtain ⟨d1, d2⟩ := dget_k (k := kk) h3
    exact ⟨a, _, rfl, .inl ⟨kvs, kk, h1, rfl, rfl⟩, d1, d2⟩
  · cases p with
    | tup l =>
      simp only [isKey, Bool.true_and] at hk
      simp only [RelP] at rk
      obtain ⟨b, us, rfl, hb, rb⟩ := rk
      obtain ⟨kk, rfl, rfl⟩ := keys_of hk rb
      obtain ⟨d1, d2⟩ := dget_t (k := kk) h3
      exact ⟨a, _, rfl, .inr ⟨kvs, kk, b, h1, rfl, hb, rfl⟩, d1, d2⟩
    | _ => simp [isKey] at hk
/-! ### places -/
theorem ixL_eq (n : Nat) (i : Int) : ixL n i = ixN n i := rfl
theorem atL_rel {l : List PV} {vs : List V} {i : Int} {p : PV} (r : RelPs K mg g l vs) (h : atL l i = some p) : ∃ v, atI vs i = some v ∧ RelP K mg g p v := by
  unfold atL at h
  unfold atI
  rw [ixL_eq, r.length] at h
  cases e : ixN vs.length i with
  | none => rw [e] at h; cases h
  | some j =>
    rw [e] at h
    obtain ⟨v, e2, rv⟩ := r.get' (i := j) h
    exact ⟨v, e2, rv⟩
theorem x_ix (hu : X.A.units + 1 < cLine) : IxR X (OpM X.K X.mg pIx) := by
  intro value slice pins s σ H x y v u Q I rx ry ⟨g, px, py, z, eH, ok, r1, r2, hz, q⟩ hs
  subst eH
  unfold pIx at hz
  split at hz
  · obtain ⟨a, vs, rfl, h1, h2⟩ := relT r1
    obtain rfl := relI r2
    obtain ⟨w, e, rw'⟩ := atL_rel h2 hz
    exact ix_tup value slice pins s σ g.H _ _ v u Q I rx ry ⟨a, vs, _, w, rfl, rfl, SqT.of h1, e, q g w (Ext.refl g) ok rfl rw'⟩ hs
  · obtain ⟨a, vs, rfl, h1, h2⟩ := relL r1
    obtain rfl := relI r2
    obtain ⟨w, e, rw'⟩ := atL_rel h2 hz
    exact ix_list value slice pins s σ g.H _ _ v u Q I rx ry ⟨a, vs, _, w, rfl, rfl, SqL.of h1, e, q g w (Ext.refl g) ok rfl rw'⟩ hs
  · obtain ⟨a, vs, rfl, h1, h2⟩ := relX r1
    obtain rfl := relI r2
    obtain ⟨w, e, rw'⟩ := atL_rel h2 hz
    exact ix_list value slice pins s σ g.H _ _ v u Q I rx ry ⟨a, vs, _, w, rfl, rfl, h1, e, q g w (Ext.refl g) ok rfl rw'⟩ hs
  · split at hz
    · rename_i l i hl
      obtain rfl := relS r1
      obtain rfl := relI r2
      obtain ⟨c, hc, rfl⟩ := Option.map_eq_some_iff.mp hz
      refine ix_str value slice pins s σ g.H _ _ v u Q I rx ry ⟨⟨l.toArray⟩, i, c, rfl, rfl, by rw [strlen]; exact toSz hl, ?_, fin_str ok q⟩ hs
      simpa [atI, atL, ixL_eq] using hc
    · cases hz
  · rename_i t ks vs k
    split at hz
    · rename_i hk
      have rk := isKey_d hk r2
      obtain ⟨a, o, rfl, dg, d1, _⟩ := dGet hk r1 rk
      obtain ⟨w, rfl, rw'⟩ := d1 z hz
      cases rx
      exact tail_any (dict_typeIs I dg) PySem.F.slot_dict_getitem.lookup (d_getItem hu I dg ry fun w' s' I' rw2 => ⟨w, g.H, I', rw2, q g w (Ext.refl g) ok rfl rw'⟩) hs
    · cases hz
  · cases hz
theorem ie_ix {W : WY} {pos : Pos} {a b : Expr} {f h : EX} (hu : X.A.units + 1 < cLine) (ha : IE X W a f) (hb : IE X W b h) (hs : PlainIx b := by intro _ _; rfl) : IE X W (.Subscript a b pos) (eBin pIx f h) :=
  PE.weak (pe_ix (x_ix hu) ha hb hs) fun σ H Q q => RdE.op2 q
/-! ### slices -/
abbrev EO := Env → MS → Res (Option Int)
def oNone : EO := fun _ s => .ok none s
def oInt : PV → Option (Option Int)
  | .int i => some (some i)
  | _ => none
def oSome (f : EX) : EO := fun e s => (f e s).bind fun x s => ofO (oInt x) s
abbrev IO (X : Cx) (W : WY) (e : Option Expr) (f : EO) : Prop := L2.PO X e (RdA X.K X.mg (fun _ (a : Option Int) b => a = b) W f)
theorem PO.weak {e : Option Expr} {t t' : TO} (h : L2.PO X e t) (w : ∀ σ H Q, t' σ H Q → t σ H Q) : L2.PO X e t' := ⟨fun pins s σ H Q I q => h.run pins s σ H Q I (w σ H Q q)⟩
theorem io_none {W : WY} : IO X W none oNone := PO.weak po_none fun σ H Q q => RdA.pure (fun _ => rfl) q
theorem io_some {W : WY} {a : Expr} {f : EX} (ha : IE X W a f) : IO X W (some a) (oSome f) := PO.weak (po_some ha) fun σ H Q q => by
  unfold tPart
  refine (RdA.seq (R := fun g p v => RelP X.K X.mg g p v) (f := f) (k := fun x e s => ofO (oInt x) s) q).imp fun v H1 q => ?_
  obtain ⟨p, g, env, rfl, ok, re, r, q⟩ := q
  cases p with
  | int i =>
    obtain rfl := relI r.d
    exact ⟨i, rfl, OutA.ok ok q rfl⟩
  | _ => exact q.elim
def eCut (f : EX) (lo hi : EO) : EX := fun e s => (f e s).bind fun x s => (lo e s).bind fun l s => (hi e s).bind fun u s => ofO (pCut (deref s x) l u) s
theorem sIx_eq (n d : Nat) (o : Option Int) : sIx n d o = HT.sIx n d o := by cases o <;> rfl
theorem cut_rel {l : List PV} {vs : List V} (r : RelPs K mg g l vs) (lo hi : Option Int) : RelPs K mg g (cutL l lo hi) (cutV vs lo hi) := by
  unfold cutL cutV
  rw [sIx_eq, sIx_eq, r.length]
  exact (r.drop _).take _
theorem s_cut : SlR X (fun x lo hi H Q => ∃ g px z, g.H = H ∧ g.Ok X.K X.mg ∧ RelD X.K X.mg g px x ∧ pCut px lo hi = some z ∧ ∀ g' v, Ext g g' → g'.Ok X.K X.mg → g'.s = g.s → RelP X.K X.mg g' z v → Q v g'.H) := by
  intro pins s σ H x v vl vu lo hi sl Q I rx hs pl pu ⟨g, px, z, eH, ok, r, hz, q⟩
  subst eH
  unfold pCut at hz
  split at hz
  · split at hz
    · rename_i l hl
      cases hz
      obtain rfl := relS r
      refine sl_str pins s σ g.H _ v vl vu lo hi sl Q I rx hs pl pu ⟨_, rfl, by rw [strlen]; exact toSz hl, ?_⟩
      have e : L2.cutS ⟨l.toArray⟩ lo hi = ⟨(cutL l lo hi).toArray⟩ := by
        unfold L2.cutS cutL
        simp only [sIx_eq, strlen]
      rw [e]
      exact fin_str ok q
    · cases hz
  · cases hz
    obtain ⟨a, vs, rfl, h1, h2⟩ := relT r
    refine sl_tupA pins s σ g.H _ v vl vu lo hi sl Q I rx hs pl pu ⟨a, vs, rfl, SqT.of h1, fun ⟨e1, e2⟩ => ?_, fun _ p hp => fin_tup ok (cut_rel h2 lo hi) q p hp⟩
    refine q g _ (Ext.refl g) ok rfl ?_
    simp only [RelP]
    refine ⟨a, vs, rfl, h1, ?_⟩
    have c := cut_rel h2 lo hi
    unfold cutV at c
    rw [e1, e2, List.drop_zero, Nat.sub_zero, List.take_length] at c
    exact c
  · cases hz
    obtain ⟨a, vs, rfl, h1, h2⟩ := relL r
    exact sl_list pins s σ g.H _ v vl vu lo hi sl Q I rx hs pl pu ⟨a, vs, rfl, SqL.of h1, fun p hp => fin_lst ok (cut_rel h2 lo hi) q p hp⟩
  · cases hz
    obtain ⟨a, vs, rfl, h1, h2⟩ := relX r
    exact sl_list pins s σ g.H _ v vl vu lo hi sl Q I rx hs pl pu ⟨a, vs, rfl, h1, fun p hp => fin_lst ok (cut_rel h2 lo hi) q p hp⟩
  · cases hz
theorem ie_cut {W : WY} {pos p2 : Pos} {a : Expr} {lo hi : Option Expr} {f : EX} {l u : EO} (ha : IE X W a f) (hl : IO X W lo l) (hu : IO X W hi u) : IE X W (.Subscript a (.Slice lo hi none p2) pos) (eCut f l u) :=
  PE.weak (pe_slice s_cut ha hl hu) fun σ H Q q => by
    unfold tSl
    refine (RdA.seq (R := fun g p v => RelP X.K X.mg g p v) (f := f) (k := fun x e s => (l e s).bind fun l s => (u e s).bind fun u s => ofO (pCut (deref s x) l u) s) q).imp fun v H1 q => ?_
    obtain ⟨p, g, env, e, ok, re, r, q⟩ := q
    refine ⟨g, env, e, ok, re, ?_⟩
    revert q
    cases l env g.s with
    | exc c p s' => exact id
    | stuck => exact id
    | ok lv s2 =>
      intro q g2 lv' x2 ok2 e2 hlv
      subst hlv
      have q := OutA.back ok ok2 x2 q
      refine ⟨g2, env, rfl, ok2, re.ext ok x2, ?_⟩
      subst e2
      simp only [bind_ok] at q
      revert q
      cases u env g2.s with
      | exc c p s' => exact id
      | stuck => exact id
      | ok uv s3 =>
        intro q g3 uv' x3 ok3 e3 huv
        subst huv
        have q := OutA.back ok2 ok3 x3 q
        subst e3
        simp only [bind_ok] at q
        have rd := ((r.ext ok x2).ext ok2 x3).deref ok3
        change OutA X.K X.mg (fun g p v => RelP X.K X.mg g p v) g3 σ W (ofO (pCut (deref g3.s p) lv uv) g3.s) Q at q
        cases hz : pCut (deref g3.s p) lv uv with
        | none => rw [hz] at q; exact q.elim
        | some z =>
          rw [hz] at q
          exact ⟨g3, _, z, rfl, ok3, rd, hz, fun g' w x' ok' es r' => q g' w x' ok' es r'⟩
end
end
end Mr
namespace Mr
noncomputable section
open PySem PySem.Spec PyProof.Rows L2
def RelDs (K : PySem.W.Frag) (mg : MG) (g : G) : List PV → List V → Prop
  | [], vs => vs = []
  | p :: ps, vs => ∃ v r, vs = v :: r ∧ RelD K mg g p v ∧ RelDs K mg g ps r
def eB (m : List PV → Option PV) (fs : List EX) : EX := fun e s => (eList fs e s).bind fun xs s => ofO (m (xs.map (deref s))) s
def CalM (K : PySem.W.Frag) (mg : MG) (m : List PV → Option PV) : List V → Hp → VK → Prop := fun vs H Q =>
  ∃ g ps z, g.H = H ∧ g.Ok K mg ∧ RelDs K mg g ps vs ∧ m ps = some z ∧ ∀ g' v, Ext g g' → g'.Ok K mg → g'.s = g.s → RelP K mg g' z v → Q v g'.H
section
variable {K : PySem.W.Frag} {mg : MG} {g : G} {X : Cx} {W : WY} {pos : Pos} {a : Expr} {es : List Expr} {f : EX} {fs : List EX} {m : List PV → Option PV}
theorem RelPs.derefs (ok : g.Ok K mg) : ∀ {l : List PV} {vs : List V}, RelPs K mg g l vs → RelDs K mg g (l.map (deref g.s)) vs
  | [], vs, r => by simp only [RelPs] at r; exact r
  | p :: ps, vs, r => by
    simp only [RelPs] at r
    obtain ⟨v, rs, e, r1, r2⟩ := r
    exact ⟨v, rs, e, r1.deref ok, RelPs.derefs ok r2⟩
theorem RdE.b {σ : L2.St} {H : Hp} {Q : VK} (q : RdE K mg W (eB m fs) σ H Q) : RdL K mg W (eList fs) σ H fun vs H1 => CalM K mg m vs H1 Q := by
  refine (RdA.seq (R := fun g p v => RelPs K mg g p v) (f := eList fs) (k := fun xs e s => ofO (m (xs.map (deref s))) s) q).imp fun vs H1 q => ?_
  obtain ⟨p, g, env, e, ok, re, r, q⟩ := q
  cases hz : m (p.map (deref g.s)) with
  | none => rw [hz] at q; exact q.elim
  | some z =>
    rw [hz] at q
    exact ⟨g, _, z, e, ok, r.derefs ok, hz, fun g' v x ok' es r' => q g' v x ok' es r'⟩
/-- f(..), f a built-in function -/
theorem ie_b {x : Str} {p : Pos} {id : String} (hc : CallR X (.builtin id) (CalM X.K X.mg m)) (hg : Gl X x) (hm : X.mg x = none) (hv : bootBuiltins x = some (.builtin id)) (ha : IA X W (a :: es) (eList fs)) (hn : x ≠ "__name__" := by decide) (hdb : (x == ("__debug__" : Str)) = false := by decide)
    (he : starEach (a :: es) X.env = (false, eval a X.env) :: starEach es X.env := by rfl) (hpl : (backTo pos (starEach es X.env)).any (·.1) = false := by rfl) : IE X W (.Call (.Name x p) (a :: es) [] pos) (eB m fs) :=
  PE.weak (pe_callB hc hg hm hv ha hn hdb he hpl) fun σ H Q q => RdE.b q
/-- T(..), T a built-in type -/
theorem ie_ty {x : Str} {p : Pos} {T : String} (hc : CallR X (.type T) (CalM X.K X.mg m)) (hg : Gl X x) (hm : X.mg x = none) (hv : bootBuiltins x = some (.type T)) (ha : IA X W (a :: es) (eList fs)) (hn : x ≠ "__name__" := by decide) (hdb : (x == ("__debug__" : Str)) = false := by decide)
    (he : starEach (a :: es) X.env = (false, eval a X.env) :: starEach es X.env := by rfl) (hpl : (backTo pos (starEach es X.env)).any (·.1) = false := by rfl) : IE X W (.Call (.Name x p) (a :: es) [] pos) (eB m fs) :=
  PE.weak (pe_callTy hc hg hm hv ha hn hdb he hpl) fun σ H Q q => RdE.b q
/-- a built-in type as a value -/
theorem ie_tyName {x : Str} (n : String) (hg : Gl X x) (hm : X.mg x = none) (hv : bootBuiltins x = some (.type n)) (hn : x ≠ "__name__" := by decide) (hdb : (x == ("__debug__" : Str)) = false := by decide) : IE X W (.Name x pos) (eC (.ty n)) :=
  ie_c (v := .ty n) (pe_bltn hg hm hv rfl hn hdb) fun _ => by simp only [RelP]
/-- a constant of the module -/
theorem ie_gInt {x : Str} {i : Int} (hg : Gl X x) (hm : ∃ t, X.mg x = some (.int i t)) (hdb : (x == ("__debug__" : Str)) = false := by decide) : IE X W (.Name x pos) (eC (.int i)) := by
  obtain ⟨t, hm⟩ := hm
  exact ie_c (v := .int i) (pe_glob hg hm ⟨t, rfl⟩ hdb) fun _ => by simp only [RelP]
theorem ie_gStr {x : Str} {y : Str} (l : List Nat) (hg : Gl X x) (hm : ∃ t, X.mg x = some (.str y t)) (h : y = ⟨l.toArray⟩ := by decide +kernel) (hdb : (x == ("__debug__" : Str)) = false := by decide) : IE X W (.Name x pos) (eC (.str l)) := by
  obtain ⟨t, hm⟩ := hm
  subst h
  exact ie_c (v := .str _) (pe_glob hg hm ⟨t, rfl⟩ hdb) fun _ => by simp only [RelP]
/-! ### the functions -/
theorem RelDs.one {p : PV} {vs : List V} (r : RelDs K mg g [p] vs) : ∃ v, vs = [v] ∧ RelD K mg g p v := by
  obtain ⟨v, _, rfl, h, rfl⟩ := r; exact ⟨v, rfl, h⟩
theorem RelDs.two {p q : PV} {vs : List V} (r : RelDs K mg g [p, q] vs) : ∃ v w, vs = [v, w] ∧ RelD K mg g p v ∧ RelD K mg g q w := by
  obtain ⟨v, _, rfl, h, w, _, rfl, h2, rfl⟩ := r; exact ⟨v, w, rfl, h, h2⟩
theorem tyOf_x {p : PV} {v : V} {t : String} (r : RelD K mg g p v) (h : tyOf p = some t) : TyX K g.H v (.type t) := by
  cases p with
  | non => obtain rfl := relN r; cases h; exact .base .non
  | bl b => obtain rfl := relB r; cases h; exact .base (.bl _)
  | int i => obtain rfl := relI r; cases h; exact .base (.int _)
  | str l => obtain rfl := relS r; cases h; exact .base (.str _)
  | tup l => obtain ⟨a, vs, rfl, h1, _⟩ := relT r; cases h; exact .base (.tup h1)
  | lst l => obtain ⟨a, vs, rfl, h1, _⟩ := relL r; cases h; exact .base (.lst h1)
  | dct t ks vs =>
    cases t with
    | true => cases h
    | false =>
      cases h
      simp only [RelD] at r
      obtain ⟨a, rfl, ⟨_, kvs, h1, _⟩ | ⟨e, _⟩⟩ := r
      · rcases h1 with h1 | ⟨o, h1⟩
        · exact .base (.dK h1)
        · exact .fDict h1
      · cases e
  | _ => cases h
theorem kit_all : ∀ t ∈ ["NoneType", "bool", "int", "str", "tuple", "list", "dict"], ∀ c ∈ kinds, kitB t c = some (isSub t c) := by decide +kernel
theorem tyOf_mem {p : PV} {t : String} (h : tyOf p = some t) : t ∈ ["NoneType", "bool", "int", "str", "tuple", "list", "dict"] := by
  unfold tyOf at h
  split at h <;> first | (cases h; decide) | cases h
theorem c_isi : CallR X (.builtin "isinstance") (CalM X.K X.mg bIsi) := by
  intro pins s σ H xs us Q I r ⟨g, ps, z, eH, ok, rd, hz, q⟩
  subst eH
  unfold bIsi at hz
  split at hz
  · rename_i x c
    obtain ⟨v, w, rfl, r1, r2⟩ := rd.two
    cases ht : tyOf x with
    | none => rw [ht] at hz; cases hz
    | some t =>
      rw [ht] at hz
      simp only [Option.bind_some] at hz
      split at hz
      · rename_i hk
        cases hz
        simp only [RelD, RelP] at r2
        subst r2
        exact call_isi pins s σ g.H _ us Q I r ⟨v, .ty c, .type t, .type c, isSub t c, rfl, .ty c, tyOf_x r1 ht, kit_ty (kit_all t (tyOf_mem ht) c (by simpa using hk)), fin_bl ok q⟩
      · cases hz
  · cases hz
theorem c_len : CallR X (.builtin "len") (CalM X.K X.mg bLen) := by
  intro pins s σ H xs us Q I r ⟨g, ps, z, eH, ok, rd, hz, q⟩
  subst eH
  unfold bLen at hz
  split at hz
  · split at hz
    · rename_i l hl
      cases hz
      obtain ⟨v, rfl, r1⟩ := rd.one
      obtain rfl := relS r1
      exact call_len_str pins s σ g.H _ us Q I r ⟨_, rfl, by rw [strlen]; exact toSz hl, by rw [strlen]; exact fin_int ok q⟩
    · cases hz
  · cases hz
    obtain ⟨v, rfl, r1⟩ := rd.one
    simp only [RelD] at r1
    obtain ⟨a, rfl, ⟨_, kvs, h1, rfl, h3⟩ | ⟨e, _⟩⟩ := r1
    · obtain ⟨u, rfl, ru⟩ := vals1 r
      cases ru
      exact d_len I h1 fun t s' I' => ⟨.int _, g.H, I', ⟨t, rfl⟩, by simpa using fin_int ok q⟩
    · cases e
  · obtain ⟨l, hl, rfl⟩ := Option.map_eq_some_iff.mp hz
    obtain ⟨v, rfl, r1⟩ := rd.one
    rename_i x _ _
    cases x with
    | tup l' =>
      cases hl
      obtain ⟨a, vs, rfl, h1, h2⟩ := relT r1
      exact call_len_seq pins s σ g.H _ us Q I r ⟨a, vs, rfl, .inr (SqT.of h1), by rw [← h2.length]; exact fin_int ok q⟩
    | lst l' =>
      cases hl
      obtain ⟨a, vs, rfl, h1, h2⟩ := relL r1
      exact call_len_seq pins s σ g.H _ us Q I r ⟨a, vs, rfl, .inl (SqL.of h1), by rw [← h2.length]; exact fin_int ok q⟩
    | scr l' =>
      cases hl
      obtain ⟨a, vs, rfl, h1, h2⟩ := relX r1
      exact call_len_seq pins s σ g.H _ us Q I r ⟨a, vs, rfl, .inl h1, by rw [← h2.length]; exact fin_int ok q⟩
    | _ => cases hl
  · cases hz
theorem allBl_rel : ∀ {l : List PV} {vs : List V} {bs : List Bool}, allBl l = some bs → RelPs K mg g l vs → vs = bs.map V.bl
  | [], vs, bs, h, r => by
    cases h
    simp only [RelPs] at r
    exact r
  | p :: ps, vs, bs, h, r => by
    simp only [RelPs] at r
    obtain ⟨v, rs, rfl, r1, r2⟩ := r
    cases p with
    | bl b =>
      simp only [allBl] at h
      obtain ⟨cs, hc, rfl⟩ := Option.map_eq_some_iff.mp h
      simp only [RelP] at r1
      rw [r1, allBl_rel hc r2]; rfl
    | _ => simp [allBl] at h
theorem allInt_rel : ∀ {l : List PV} {vs : List V} {bs : List Int}, allInt l = some bs → RelPs K mg g l vs → vs = bs.map V.int
  | [], vs, bs, h, r => by
    cases h
    simp only [RelPs] at r
    exact r
  | p :: ps, vs, bs, h, r => by
    simp only [RelPs] at r
    obtain ⟨v, rs, rfl, r1, r2⟩ := r
    cases p with
    | int b =>
      simp only [allInt] at h
      obtain ⟨cs, hc, rfl⟩ := Option.map_eq_some_iff.mp h
      simp only [RelP] at r1
      rw [r1, allInt_rel hc r2]; rfl
    | _ => simp [allInt] at h
def mkS (l : List Nat) : Str := ⟨l.toArray⟩
theorem allStr_rel : ∀ {l : List PV} {vs : List V} {bs : List (List Nat)}, allStr l = some bs → RelPs K mg g l vs → vs = (bs.map mkS).map V.str
  | [], vs, bs, h, r => by
    cases h
    simp only [RelPs] at r
    exact r
  | p :: ps, vs, bs, h, r => by
    simp only [RelPs] at r
    obtain ⟨v, rs, rfl, r1, r2⟩ := r
    cases p with
    | str b =>
      simp only [allStr] at h
      obtain ⟨cs, hc, rfl⟩ := Option.map_eq_some_iff.mp h
      simp only [RelP] at r1
      rw [r1, allStr_rel hc r2]; rfl
    | _ => simp [allStr] at h
theorem RelPs.ints : ∀ ns : List Int, RelPs K mg g (ns.map .int) (ns.map V.int)
  | [] => RelPs.nil
  | n :: ns => RelPs.cons (by simp only [RelP]) (RelPs.ints ns)
theorem RelPs.strs : ∀ ns : List (List Nat), RelPs K mg g (ns.map .str) ((ns.map mkS).map V.str)
  | [] => RelPs.nil
  | n :: ns => RelPs.cons (by simp only [RelP]; rfl) (RelPs.strs ns)
theorem c_all (hc : X.calm = true) : CallR X (.builtin "all") (CalM X.K X.mg bAll) := by
  intro pins s σ H xs us Q I r ⟨g, ps, z, eH, ok, rd, hz, q⟩
  subst eH
  unfold bAll at hz
  split at hz
  · obtain ⟨bs, hb, rfl⟩ := Option.map_eq_some_iff.mp hz
    obtain ⟨v, rfl, r1⟩ := rd.one
    obtain ⟨a, vs, rfl, h1, h2⟩ := relL r1
    have e := allBl_rel hb h2
    subst e
    exact cr_all hc pins s σ g.H _ us Q I r ⟨a, bs, rfl, SqL.of h1, fin_bl ok q⟩
  · cases hz
theorem c_any (hc : X.calm = true) : CallR X (.builtin "any") (CalM X.K X.mg bAny) := by
  intro pins s σ H xs us Q I r ⟨g, ps, z, eH, ok, rd, hz, q⟩
  subst eH
  unfold bAny at hz
  split at hz
  · obtain ⟨bs, hb, rfl⟩ := Option.map_eq_some_iff.mp hz
    obtain ⟨v, rfl, r1⟩ := rd.one
    obtain ⟨a, vs, rfl, h1, h2⟩ := relL r1
    have e := allBl_rel hb h2
    subst e
    exact cr_any hc pins s σ g.H _ us Q I r ⟨a, bs, rfl, SqL.of h1, fin_bl ok q⟩
  · cases hz
theorem c_sum (hc : X.calm = true) : CallR X (.builtin "sum") (CalM X.K X.mg bSum) := by
  intro pins s σ H xs us Q I r ⟨g, ps, z, eH, ok, rd, hz, q⟩
  subst eH
  unfold bSum at hz
  split at hz
  · obtain ⟨bs, hb, rfl⟩ := Option.map_eq_some_iff.mp hz
    obtain ⟨v, rfl, r1⟩ := rd.one
    obtain ⟨a, vs, rfl, h1, h2⟩ := relL r1
    have e := allInt_rel hb h2
    subst e
    exact cr_sum hc pins s σ g.H _ us Q I r ⟨a, bs, rfl, SqL.of h1, fin_int ok q⟩
  · cases hz
theorem c_abs : CallR X (.builtin "abs") (CalM X.K X.mg bAbs) := by
  intro pins s σ H xs us Q I r ⟨g, ps, z, eH, ok, rd, hz, q⟩
  subst eH
  unfold bAbs at hz
  split at hz
  · cases hz
    obtain ⟨v, rfl, r1⟩ := rd.one
    obtain rfl := relI r1
    exact call_abs pins s σ g.H _ us Q I r ⟨_, rfl, fin_int ok q⟩
  · cases hz
theorem c_int : CallR X (.type "int") (CalM X.K X.mg bInt) := by
  intro pins s σ H xs us Q I r ⟨g, ps, z, eH, ok, rd, hz, q⟩
  subst eH
  unfold bInt at hz
  split at hz
  · cases hz
    obtain ⟨v, rfl, r1⟩ := rd.one
    obtain rfl := relI r1
    exact call_int1 pins s σ g.H _ us Q I r (.inl ⟨_, rfl, fin_int ok q⟩)
  · cases hz
    obtain ⟨v, rfl, r1⟩ := rd.one
    obtain rfl := relB r1
    exact call_int1 pins s σ g.H _ us Q I r (.inr ⟨_, rfl, fin_int ok q⟩)
  · cases hz
theorem c_min2 (hc : X.calm = true) : CallR X (.builtin "min") (CalM X.K X.mg bMin2) := by
  intro pins s σ H xs us Q I r ⟨g, ps, z, eH, ok, rd, hz, q⟩
  subst eH
  unfold bMin2 at hz
  split at hz
  · cases hz
    obtain ⟨v, w, rfl, r1, r2⟩ := rd.two
    obtain rfl := relI r1
    obtain rfl := relI r2
    exact call_min2 hc pins s σ g.H _ us Q I r ⟨_, _, rfl, fin_int ok q⟩
  · cases hz
theorem c_max2 (hc : X.calm = true) : CallR X (.builtin "max") (CalM X.K X.mg bMax2) := by
  intro pins s σ H xs us Q I r ⟨g, ps, z, eH, ok, rd, hz, q⟩
  subst eH
  unfold bMax2 at hz
  split at hz
  · cases hz
    obtain ⟨v, w, rfl, r1, r2⟩ := rd.two
    obtain rfl := relI r1
    obtain rfl := relI r2
    exact call_max2 hc pins s σ g.H _ us Q I r ⟨_, _, rfl, fin_int ok q⟩
  · cases hz
theorem c_divmod : CallR X (.builtin "divmod") (CalM X.K X.mg bDivmod) := by
  intro pins s σ H xs us Q I r ⟨g, ps, z, eH, ok, rd, hz, q⟩
  subst eH
  unfold bDivmod at hz
  split at hz
  · split at hz
    · rename_i hl
      cases hz
      obtain ⟨v, w, rfl, r1, r2⟩ := rd.two
      obtain rfl := relI r1
      obtain rfl := relI r2
      exact call_divmod pins s σ g.H _ us Q I r ⟨_, _, rfl, ⟨hl.1, by have := (fits_iff.mp hl.2).2; omega⟩, fun p hp => fin_tup ok (RelPs.ints [_, _]) q p hp⟩
    · cases hz
  · cases hz
theorem signs_vals {x : Str} {acc : Array Value} (h : PySem.ItemsOf (PySem.SignAt x) acc x.cps.size) : Vals ((x.cps.toList.map fun c => mkS [c]).map V.str) acc.toList := by
  refine vals_of_at ?_ ?_
  · simp [h.1]
  · intro j v u h1 h2
    obtain ⟨c, t, hc, e⟩ := h.2 j u (by simpa using h2)
    have hc' : x.cps.toList[j]? = some c := by simpa using hc
    rw [List.getElem?_map, List.getElem?_map, hc'] at h1
    have h1 : V.str (mkS [c]) = v := by simpa using h1
    subst h1 e
    exact ⟨t, rfl⟩
theorem signs_pv (l : List Nat) : (l.map fun c => PV.str [c]) = (l.map fun c => [c]).map PV.str := by rw [List.map_map]; rfl
theorem pv_keys : ∀ kvs : List (Key × V), RelPs K mg g (kvs.map fun p => pvKey p.1) (kvs.map fun p => kV p.1)
  | [] => RelPs.nil
  | (.inl i, _) :: r => RelPs.cons (by simp only [pvKey, RelP]; rfl) (pv_keys r)
  | (.inr x, _) :: r => RelPs.cons (by simp only [pvKey, RelP]; rfl) (pv_keys r)
/-- list(d) of a dict that is read -/
theorem list_dict (hc : X.calm = true) {pins : List (Addr × Obj)} {s : Shared} {σ : L2.St} {H : Hp} {d : Addr} {es : List (Key × V)} {Q : VK} (I : L2.Inv X pins σ H s) (hd : Rd H d (.dK es))
    (q : ∀ b, H b = none → Q (.ref b) (upd H b (.lst (es.map fun e => kV e.1)))) : wpAny (model X.prog X.w) X.A (call (.type "list") [.ref d]) (EP X pins σ Q) X.xe s := by
  obtain ⟨hz, hs, us, hkv, hof⟩ := dk_rd I.hok hd
  obtain ⟨n, hat⟩ := hof.dictAt
  have hlen := KV.length hkv
  refine PySem.W.kdl_call (PySem.W.kdl_dict (knd := mixKind X.prog X.w) (kvs := us) (ep := n) hs) (I.ok.hd hc) hat (by omega) fun h2 tk its c hkeep hS hits => ?_
  have hvals : Vals (es.map fun e => kV e.1) its.toList := by
    refine vals_of_at (by simp [hits.1, hlen]) fun j x u h3 h4 => ?_
    obtain ⟨k, y, h5, h6⟩ := hits.2 j u (by simpa using h4)
    have h7 : (es.map (·.1))[j]? = some k := by rw [KV.keys hkv, List.getElem?_map, h5]; rfl
    rw [List.getElem?_map] at h3 h7
    cases h8 : es[j]? with
    | none => rw [h8] at h7; cases h7
    | some e =>
      rw [h8] at h3 h7
      cases h3
      have h9 : e.1 = k := Option.some.inj h7
      show L2.RelV (kV e.1) u
      rw [h9]; exact keyIs_rel h6
  exact ⟨.ref _, _, I.laid (o := .lst (es.map fun e => kV e.1)) hkeep (Nat.le_refl _) ⟨by simpa using hz, its.toList, c, hvals, by simpa using hS⟩, rfl, q _ (I.hok.fresh (Nat.le_refl _))⟩
theorem c_tuple (hc : X.calm = true) : CallR X (.type "tuple") (CalM X.K X.mg bTuple) := by
  intro pins s σ H xs us Q I r ⟨g, ps, z, eH, ok, rd, hz, q⟩
  subst eH
  unfold bTuple at hz
  split at hz
  · cases hz
    obtain ⟨v, rfl, r1⟩ := rd.one
    obtain ⟨a, vs, rfl, h1, h2⟩ := relT r1
    exact call_tuple_of pins s σ g.H _ us Q I r ⟨a, vs, rfl, .inr ⟨SqT.of h1, q g _ (Ext.refl g) ok rfl (by simp only [RelP]; exact ⟨a, vs, rfl, h1, h2⟩)⟩⟩
  · cases hz
    obtain ⟨v, rfl, r1⟩ := rd.one
    obtain ⟨a, vs, rfl, h1, h2⟩ := relL r1
    exact call_tuple_of pins s σ g.H _ us Q I r ⟨a, vs, rfl, .inl ⟨SqL.of h1, fun p hp => fin_tup ok h2 q p hp⟩⟩
  · split at hz
    · rename_i l hl
      cases hz
      obtain ⟨v, rfl, r1⟩ := rd.one
      obtain rfl := relS r1
      obtain ⟨u, rfl, ru⟩ := vals1 r
      obtain ⟨t, rfl⟩ := ru
      have hsz : (⟨l.toArray⟩ : Str).cps.size ≤ sizeLine := by rw [← sizeLIM]; simpa using hl
      refine PySem.call_tuple_str (I.ok.hd hc) _ t (fun h' tk acc hk hi => ?_) hsz
      have hv := signs_vals hi
      have I2 : L2.Inv X pins σ g.H { s with heap := h', toks := tk } := I.kept hk
      have I3 := I2.laid (t' := tk) (h' := h'.push { cls := .type "tuple", data := .seq acc }) (o := .tup (((⟨l.toArray⟩ : Str).cps.toList.map fun c => mkS [c]).map V.str)) (fun b ob q => Heap.get?_push_of_some _ q) (Nat.le_refl _) ⟨by simpa using hsz, acc.toList, hv, _, Heap.get?_push_size _ rfl, rfl, 0, by simp⟩
      refine ⟨.ref _, _, I3, rfl, fin_tup ok ?_ q _ (I2.hok.fresh (Nat.le_refl _))⟩
      rw [signs_pv]
      have := RelPs.strs (K := X.K) (mg := X.mg) (g := g) (l.map fun c => [c])
      simpa [List.map_map, Function.comp_def] using this
    · cases hz
  · cases hz
theorem c_list (hc : X.calm = true) : CallR X (.type "list") (CalM X.K X.mg bList) := by
  intro pins s σ H xs us Q I r ⟨g, ps, z, eH, ok, rd, hz, q⟩
  subst eH
  unfold bList at hz
  split at hz
  · cases hz
    obtain ⟨v, rfl, r1⟩ := rd.one
    obtain ⟨a, vs, rfl, h1, h2⟩ := relT r1
    exact call_list_of pins s σ g.H _ us Q I r ⟨a, vs, rfl, .inr (SqT.of h1), fun p hp => fin_lst ok h2 q p hp⟩
  · cases hz
    obtain ⟨v, rfl, r1⟩ := rd.one
    obtain ⟨a, vs, rfl, h1, h2⟩ := relL r1
    exact call_list_of pins s σ g.H _ us Q I r ⟨a, vs, rfl, .inl (SqL.of h1), fun p hp => fin_lst ok h2 q p hp⟩
  · split at hz
    · rename_i l hl
      cases hz
      obtain ⟨v, rfl, r1⟩ := rd.one
      obtain rfl := relS r1
      obtain ⟨u, rfl, ru⟩ := vals1 r
      obtain ⟨t, rfl⟩ := ru
      have hsz : (⟨l.toArray⟩ : Str).cps.size ≤ sizeLine := by rw [← sizeLIM]; simpa using hl
      refine PySem.call_list_str (I.ok.hd hc) _ t (fun h' tk acc c hk hn hi => ?_) hsz
      have hv := signs_vals hi
      have I3 : L2.Inv X pins σ (upd g.H s.heap.objs.size (.lst (((⟨l.toArray⟩ : Str).cps.toList.map fun c => mkS [c]).map V.str))) { s with heap := h', toks := tk } :=
        I.laid hk (Nat.le_refl _) ⟨by simpa using hsz, acc.toList, c, hv, by simpa using hn⟩
      refine ⟨.ref _, _, I3, rfl, fin_lst ok ?_ q _ (I.hok.fresh (Nat.le_refl _))⟩
      rw [signs_pv]
      have := RelPs.strs (K := X.K) (mg := X.mg) (g := g) (l.map fun c => [c])
      simpa [List.map_map, Function.comp_def] using this
    · cases hz
  · cases hz
    obtain ⟨v, rfl, r1⟩ := rd.one
    simp only [RelD] at r1
    obtain ⟨a, rfl, ⟨_, kvs, h1, rfl, h3⟩ | ⟨e, _⟩⟩ := r1
    · obtain ⟨u, rfl, ru⟩ := vals1 r
      cases ru
      exact list_dict hc I h1 fun p hp => fin_lst ok (pv_keys kvs) q p hp
    · cases e
  · cases hz
end
end
end Mr
namespace Mr
noncomputable section
open PySem PySem.Spec PyProof.Rows L2
section
variable {K : PySem.W.Frag} {mg : MG} {g : G} {X : Cx}
/-! ### sorted -/
def Std (K : PySem.W.Frag) (mg : MG) (g : G) (v : Value) (p : PV) : Prop := ∃ w, L2.RelV w v ∧ RelP K mg g p w
theorem each_of : ∀ {l : List PV} {vs : List V} {us : List Value}, RelPs K mg g l vs → Vals vs us → PySem.W.EachIs (Std K mg g) us l
  | [], vs, us, r, rv => by
    simp only [RelPs] at r
    subst r
    cases rv; exact .nil
  | p :: ps, vs, us, r, rv => by
    simp only [RelPs] at r
    obtain ⟨v, rs, rfl, r1, r2⟩ := r
    cases rv with
    | cons a b => exact .cons ⟨v, a, r1⟩ (each_of r2 b)
theorem of_each : ∀ {l : List PV} {us : List Value}, PySem.W.EachIs (Std K mg g) us l → ∃ vs, Vals vs us ∧ RelPs K mg g l vs
  | _, _, .nil => ⟨[], .nil, RelPs.nil⟩
  | _, _, .cons ⟨v, a, r⟩ h => by
    obtain ⟨vs, b, r2⟩ := of_each h
    exact ⟨v :: vs, .cons a b, RelPs.cons r r2⟩
theorem each_imp {α β : Type} {R R' : α → β → Prop} : ∀ {l : List α} {m : List β}, PySem.W.EachIs R l m → (∀ a b, b ∈ m → R a b → R' a b) → PySem.W.EachIs R' l m
  | _, _, .nil, _ => .nil
  | _, _, .cons a b, h => .cons (h _ _ List.mem_cons_self a) (each_imp b fun x y m => h x y (List.mem_cons_of_mem _ m))
theorem isDs_mem : ∀ {l : List PV}, isDs l = true → ∀ p ∈ l, isD p = true
  | p :: ps, h, q, hq => by
    simp only [isDs, Bool.and_eq_true] at h
    rcases List.mem_cons.mp hq with rfl | hq
    · exact h.1
    · exact isDs_mem h.2 q hq
theorem deps_mem : ∀ {l : List PV} {p : PV}, p ∈ l → dep p ≤ deps l
  | q :: qs, p, h => by
    simp only [deps]
    rcases List.mem_cons.mp h with rfl | h
    · exact Nat.le_max_left _ _
    · exact Nat.le_trans (deps_mem h) (Nat.le_max_right _ _)
structure Sb (l : List PV) : Prop where
  d : isDs l = true
  al : ∀ x ∈ l, ∀ y ∈ l, alikeB x y = true
  k : (∀ x ∈ l, isTupC x = true) ∨ ∀ x ∈ l, isNon x = false ∧ isTup x = false
  dp : deps l ≤ 60
  sz : l.length ≤ LIM
theorem sb_of {l : List PV} (h : sortable l = true) : Sb l := by
  unfold sortable at h
  simp only [Bool.and_eq_true, Bool.or_eq_true, decide_eq_true_eq, List.all_eq_true, Bool.not_eq_true'] at h
  obtain ⟨⟨⟨⟨h1, h2⟩, h3⟩, h4⟩, h5⟩ := h
  exact ⟨h1, h2, h3, h4, h5⟩
theorem dataLe_leV {l : List PV} (h : Sb l) : ∀ a ∈ l, ∀ b ∈ l, PySem.W.dataLe false toD a b = leV a b := fun a ha b hb => by
  rw [PySem.W.dataLe_eq]
  show (!PySem.W.dataLt (toD b) (toD a)) = leV a b
  rw [toD_lt b a (isDs_mem h.d b hb) (isDs_mem h.d a ha) (h.al b hb a ha)]
  rfl
/-- sorted of a list whose items are data -/
theorem sorted_run {pins : List (Addr × Obj)} {s : Shared} {σ : L2.St} {a : Addr} {l : List PV} {vs : List V} {Q : VK} (hu : X.A.units + 66 < cLine) (I : L2.Inv X pins σ g.H s) (ok : g.Ok X.K X.mg) (ha : SqL X.K g.H a vs) (r : RelPs X.K X.mg g l vs) (hb : Sb l)
    (q : ∀ g' v, Ext g g' → g'.Ok X.K X.mg → g'.s = g.s → RelP X.K X.mg g' (.lst (sortV l)) v → Q v g'.H) : wpAny (model X.prog X.w) X.A (call (.builtin "sorted") [.ref a]) (EP X pins σ Q) X.xe s := by
  obtain ⟨us, rv, pl, hz⟩ := I.list ha
  have hE := each_of r rv
  have hl : us.length = l.length := by rw [← rv.length, r.length]
  have hal : PySem.W.AllAlike (l.map toD) := fun d hd d' hd' => by
    obtain ⟨x, hx, rfl⟩ := List.mem_map.mp hd
    obtain ⟨y, hy, rfl⟩ := List.mem_map.mp hd'
    rw [toD_alike x y (isDs_mem hb.d x hx) (isDs_mem hb.d y hy)]
    exact hb.al x hx y hy
  have hk : PySem.W.Sortable (l.map toD) := by
    rcases hb.k with h | h
    · left
      intro d hd
      obtain ⟨x, hx, rfl⟩ := List.mem_map.mp hd
      have := h x hx
      cases x with
      | tup m => cases m with
        | nil => simp [isTupC] at this
        | cons y ys => exact ⟨toD y, toDs ys, by simp only [toD, toDs]⟩
      | _ => simp [isTupC] at this
    · right
      intro d hd
      obtain ⟨x, hx, rfl⟩ := List.mem_map.mp hd
      have h1 := h x hx
      have h2 := isDs_mem hb.d x hx
      cases x <;> simp_all [isNon, isTup, isD, toD]
  refine PySem.W.sorted_data (R := Std X.K X.mg g) (enc := toD) pl.isList hE (each_imp hE fun v p hp ⟨w, rw', rp⟩ => Dp.reads I _ w v (RelP.dp p w (isDs_mem hb.d p hp) rp) rw') hal hk (by rw [← sizeLIM]; exact hb.sz) (fun p hp => by
    rw [toD_dep]
    have := deps_mem hp
    have := hb.dp
    omega) fun out ho hout => ?_
  rw [PySem.W.sort_congr (dataLe_leV hb)] at hout
  obtain ⟨ws, rw1, rw2⟩ := of_each hout
  obtain ⟨e, he⟩ := sortedAll_at s.heap us (List.toArray out)
  have I2 : L2.Inv X pins σ (upd g.H (s.heap.objs.size + 1) (.lst ws)) { s with heap := sortedAll s.heap us (List.toArray out), toks := s.toks } :=
    I.laid (o := .lst ws) (fun b o h => sortedAll_old h) (Nat.le_succ _) ⟨by rw [rw1.length, ho, ← sizeLIM]; exact hb.sz, out, e, rw1, he⟩
  exact ⟨.ref _, _, I2, rfl, fin_lst ok rw2 q _ (I.hok.fresh (Nat.le_succ _))⟩
/-! texts -/
theorem lt_trichotomy (a b : List Nat) (h1 : ¬ a < b) (h2 : ¬ b < a) : a = b := List.le_antisymm (List.not_lt.mp h2) (List.not_lt.mp h1)
theorem rising_pw : ∀ (p : Str) (l : List Str), risingS p l = true → (p :: l).Pairwise fun a b => ¬ b.cps.toList < a.cps.toList
  | p, [], _ => List.pairwise_singleton _ _
  | p, x :: r, h => by
    simp only [risingS, Bool.and_eq_true, Bool.not_eq_true', ltCps_eq, decide_eq_false_iff_not] at h
    have ih := rising_pw x r h.2
    refine List.pairwise_cons.mpr ⟨fun y hy => ?_, ih⟩
    rcases List.mem_cons.mp hy with rfl | hy
    · exact h.1
    · have h3 := (List.pairwise_cons.mp ih).1 y hy
      exact List.not_lt.mpr (List.le_trans (List.not_lt.mp h.1) (List.not_lt.mp h3))
theorem sortedS_pw : ∀ l : List Str, sortedS l = true → l.Pairwise fun a b => ¬ b.cps.toList < a.cps.toList
  | [], _ => List.Pairwise.nil
  | x :: r, h => rising_pw x r h
def leL (a b : List Nat) : Bool := !decide (b < a)
theorem leL_trans (a b c : List Nat) (h1 : leL a b = true) (h2 : leL b c = true) : leL a c = true := by
  simp only [leL, Bool.not_eq_true', decide_eq_false_iff_not] at h1 h2 ⊢
  exact List.not_lt.mpr (List.le_trans (List.not_lt.mp h1) (List.not_lt.mp h2))
theorem leL_total (a b : List Nat) : (leL a b || leL b a) = true := by
  simp only [leL, Bool.or_eq_true, Bool.not_eq_true', decide_eq_false_iff_not]
  rcases Classical.em (b < a) with h | h
  · exact .inr fun h2 => absurd (List.lt_trans h h2) (List.lt_irrefl _)
  · exact .inl h
theorem sortV_strs (ss : List (List Nat)) : sortV (ss.map .str) = (ss.mergeSort leL).map .str := by
  unfold sortV
  exact (PySem.W.sort_maps (r := leL) (s := leV) PV.str (l := ss) fun a _ b _ => rfl).symm
theorem sorted_strs_uniq {ss ys : List (List Nat)} (hp : ys.Perm ss) (hs : ys.Pairwise fun a b => ¬ b < a) : ys = ss.mergeSort leL := by
  refine List.Perm.eq_of_pairwise (le := fun a b => leL a b = true) (fun a b _ _ h1 h2 => ?_) (hs.imp fun h => by simpa [leL] using h) (List.pairwise_mergeSort leL_trans leL_total ss) (hp.trans (List.mergeSort_perm ss leL).symm)
  simp only [leL, Bool.not_eq_true', decide_eq_false_iff_not] at h1 h2
  exact lt_trichotomy a b h2 h1
theorem strs_pv : ∀ {ks : List (Key × V)}, (ks.map fun p => pvKey p.1).all (fun k => match k with | .str _ => true | _ => false) = true → ∃ ss : List Str, ks.map (·.1) = ss.map Sum.inr ∧ (ks.map fun p => pvKey p.1) = (ss.map fun s => s.cps.toList).map .str
  | [], _ => ⟨[], rfl, rfl⟩
  | (.inl i, v) :: r, h => by simp [pvKey] at h
  | (.inr x, v) :: r, h => by
    simp only [List.map_cons, List.all_cons, Bool.and_eq_true] at h
    obtain ⟨ss, e1, e2⟩ := strs_pv h.2
    exact ⟨x :: ss, by simp [e1], by simp only [List.map_cons, e2]; rfl⟩
theorem c_sorted (hu : X.A.units + 66 < cLine) (hc : X.calm = true) : CallR X (.builtin "sorted") (CalM X.K X.mg bSorted) := by
  intro pins s σ H xs us Q I r ⟨g, ps, z, eH, ok, rd, hz, q⟩
  subst eH
  unfold bSorted at hz
  split at hz
  · split at hz
    · rename_i l hl
      cases hz
      obtain ⟨v, rfl, r1⟩ := rd.one
      obtain ⟨a, vs, rfl, h1, h2⟩ := relL r1
      obtain ⟨u, rfl, ru⟩ := vals1 r
      cases ru
      exact sorted_run hu I ok (SqL.of h1) h2 (sb_of hl) q
    · cases hz
  · split at hz
    · rename_i ks _ hl
      simp only [Bool.and_eq_true, decide_eq_true_eq] at hl
      cases hz
      obtain ⟨v, rfl, r1⟩ := rd.one
      simp only [RelD] at r1
      obtain ⟨a, rfl, ⟨_, kvs, h1, rfl, h3⟩ | ⟨e, _⟩⟩ := r1
      · obtain ⟨ss, k1, k2⟩ := strs_pv hl.2
        have hlen : ss.length = kvs.length := by have := congrArg List.length k1; simpa using this.symm
        refine call_sortedD hc pins s σ g.H _ us Q I r ⟨a, kvs, ss, rfl, h1, k1, by have := hl.1.2; simp at this; omega, fun ys p hp hs hn => ?_⟩
        rw [k2, sortV_strs] at q
        have e := sorted_strs_uniq (hp.map fun s => s.cps.toList) (List.pairwise_map.mpr (sortedS_pw ys hs))
        rw [← e] at q
        have e2 : ys.map V.str = ((ys.map fun s => s.cps.toList).map mkS).map V.str := by
          rw [List.map_map, List.map_map]
          apply List.map_congr_left
          intro y _
          simp [mkS]
        rw [e2]
        exact fin_lst ok (RelPs.strs _) q p hn
      · cases e
    · cases hz
  · cases hz
end
end
end Mr
namespace Mr
noncomputable section
open PySem PySem.Spec PyProof.Rows L2
/-! ### methods of texts -/
def eM (m : PV → List PV → Option PV) (fo : EX) (fs : List EX) : EX := fun e s => (fo e s).bind fun o s => (eList fs e s).bind fun xs s => ofO (m (deref s o) (xs.map (deref s))) s
def MtM' (K : PySem.W.Frag) (mg : MG) (m : PV → List PV → Option PV) : V → List V → Hp → VK → Prop := fun x vs H Q =>
  ∃ g p ps z, g.H = H ∧ g.Ok K mg ∧ RelD K mg g p x ∧ RelDs K mg g ps vs ∧ m p ps = some z ∧ ∀ g' v, Ext g g' → g'.Ok K mg → g'.s = g.s → RelP K mg g' z v → Q v g'.H
def isStr : PV → Bool
  | .str _ => true
  | _ => false
def isLst : PV → Bool
  | .lst _ => true
  | _ => false
/-- the receiver is of that built-in type -/
def recv (T : String) (p : PV) : Bool := if T = "str" then isStr p else if T = "list" then isLst p else false
def eMt (T : String) (m : PV → List PV → Option PV) (fo : EX) (fs : List EX) : EX := fun e s => (fo e s).bind fun o s => if recv T (deref s o) = true then (eList fs e s).bind fun xs s => ofO (m (deref s o) (xs.map (deref s))) s else .stuck
def upL (l : List Nat) : List Nat := (Txt.upper ⟨l.toArray⟩).cps.toList
def mUpper : PV → List PV → Option PV
  | .str a, [] => if a.length ≤ 5592405 then some (.str (upL a)) else none
  | _, _ => none
section
variable {K : PySem.W.Frag} {mg : MG} {g : G} {X : Cx} {W : WY} {pos : Pos} {a o : Expr} {es : List Expr} {f fo : EX} {fs : List EX} {m : PV → List PV → Option PV} {T id : String} {name : Str} {apos cpos : Pos}
theorem recv_ty {p : PV} {v : V} (h : recv T p = true) (r : RelD K mg g p v) : tyV K T v g.H := by
  unfold recv at h
  split at h
  · rename_i e
    subst e
    cases p with
    | str l => obtain rfl := relS r; rfl
    | _ => simp [isStr] at h
  · split at h
    · rename_i e
      subst e
      cases p with
      | lst l =>
        obtain ⟨a, vs, rfl, h1, _⟩ := relL r
        exact Or.inl ⟨rfl, vs, SqL.of h1⟩
      | _ => simp [isLst] at h
    · cases h
theorem eMt_of {σ : L2.St} {H : Hp} {Q : VK} (q : RdE K mg W (eMt T m fo fs) σ H Q) : RdE K mg W fo σ H fun x H1 => tyV K T x H1 ∧ RdL K mg W (eList fs) σ H1 fun xs H2 => MtM' K mg m x xs H2 Q := by
  refine (RdA.seq (R := fun g p v => RelP K mg g p v) (f := fo) (k := fun o e s => if recv T (deref s o) = true then (eList fs e s).bind fun xs s => ofO (m (deref s o) (xs.map (deref s))) s else .stuck) q).imp fun x H1 q => ?_
  obtain ⟨p, g, env, rfl, ok, re, r, q⟩ := q
  cases hr : recv T (deref g.s p) with
  | false => simp only [hr, if_neg Bool.false_ne_true] at q; exact q.elim
  | true =>
    simp only [hr, if_true] at q
    refine ⟨recv_ty hr (r.deref ok), g, env, rfl, ok, re, ?_⟩
    revert q
    cases eList fs env g.s with
    | exc c p s' => exact id
    | stuck => exact id
    | ok ys s2 =>
      intro q g2 vs x2 ok2 e2 r2
      subst e2
      have q := OutA.back ok ok2 x2 q
      simp only [bind_ok] at q
      cases hz : m (deref g2.s p) (ys.map (deref g2.s)) with
      | none => rw [hz] at q; exact q.elim
      | some z =>
        rw [hz] at q
        exact ⟨g2, _, _, z, rfl, ok2, (r.ext ok x2).deref ok2, r2.derefs ok2, hz, fun g' v x' ok' es r' => q g' v x' ok' es r'⟩
theorem ie_m (pa : PlainAttrs T) (slot : Slot T name id) (hty : typeOf (.builtin id) = pure (.type "method_descriptor")) (hm : MtR X id (MtM' X.K X.mg m)) (ho : IE X W o fo) (ha : IA X W (a :: es) (eList fs))
    (hbase : attributeBase o name X.env (eval o X.env) = eval o X.env := by rfl)
    (hfew : ((backTo cpos (starEach (a :: es) X.env)).all (fun x => !x.1) && (backToKw cpos (keywordEach [] X.env)).all (fun x => x.1.isSome)
      && decide ((a :: es).length + ([] : List Keyword).length + (if ([] : List Keyword).isEmpty then 0 else 1) < 30)) = true := by rfl)
    (hline : (apos.endLine == cpos.line) = true := by rfl) (hs : starEach (a :: es) X.env = (false, eval a X.env) :: starEach es X.env := by rfl) (hplain : (backTo cpos (starEach es X.env)).any (·.1) = false := by rfl) :
    IE X W (.Call (.Attribute o name apos) (a :: es) [] cpos) (eMt T m fo fs) :=
  PE.weak (pe_bm pa slot hty hm ho ha hbase hfew hline hs hplain) fun σ H Q q => eMt_of q
theorem ie_m0 (pa : PlainAttrs T) (slot : Slot T name id) (hty : typeOf (.builtin id) = pure (.type "method_descriptor")) (hm : MtR X id (MtM' X.K X.mg m)) (ho : IE X W o fo)
    (hbase : attributeBase o name X.env (eval o X.env) = eval o X.env := by rfl) (hline : (apos.endLine == cpos.line) = true := by rfl) : IE X W (.Call (.Attribute o name apos) [] [] cpos) (eMt T m fo []) :=
  PE.weak (pe_bm0 pa slot hty hm ho hbase hline) fun σ H Q q => by
    unfold tBM0
    refine (eMt_of q).imp fun x H1 ⟨t, q⟩ => ⟨t, ?_⟩
    exact RdA.pure (R := fun g p v => RelPs X.K X.mg g p v) (p := []) (v := []) (fun g => RelPs.nil) q
theorem mkS_tl (l : List Nat) : TL.tl (mkS l) = l := TL.tl_mk l
theorem joinL_eq (S : List Nat) : ∀ l : List (List Nat), joinL S l = TL.joinL S l
  | [] => rfl
  | [_] => rfl
  | p :: q :: r => by simp only [joinL, TL.joinL, joinL_eq S (q :: r)]
theorem join_mk (a : List Nat) (ss : List (List Nat)) : Txt.join (mkS a) (ss.map mkS) = mkS (joinL a ss) := by
  apply TL.ext_tl
  rw [TL.join_eq, TL.tl_join, mkS_tl, mkS_tl, joinL_eq, List.map_map]
  congr 1
  induction ss with
  | nil => rfl
  | cons x xs ih => rw [List.map_cons, ih]; congr 1
theorem m_join : MtR X "str.join" (MtM' X.K X.mg mJoin) := by
  intro pins s σ H x xs v us Q I rx rv ⟨g, p, ps, z, eH, ok, r1, r2, hz, q⟩
  subst eH
  have fin : ∀ (a : List Nat) (l : List PV) (vs : List V) (b : Addr), p = .str a → x = .str (mkS a) → xs = [.ref b] → (SqL X.K g.H b vs ∨ SqT X.K g.H b vs) → RelPs X.K X.mg g l vs →
      ((allStr l).bind fun ss => if (ss.map (·.length)).sum + ss.length * a.length ≤ LIM then some (PV.str (joinL a ss)) else none) = some z → wpAny (model X.prog X.w) X.A (call (.builtin "str.join") (v :: us)) (EP X pins σ Q) X.xe s := by
    intro a l vs b e1 e2 e3 hb hr he
    cases hs : allStr l with
    | none => rw [hs] at he; cases he
    | some ss =>
      rw [hs] at he
      simp only [Option.bind_some] at he
      split at he
      · rename_i hl
        cases he
        have e := allStr_rel hs hr
        subst e e2 e3
        refine mt_join pins s σ g.H _ _ v us Q I rx rv ⟨mkS a, b, ss.map mkS, rfl, rfl, hb, ?_, ?_⟩
        · rw [List.map_map, List.length_map]
          have e1 : (ss.map ((·.length) ∘ mkS)) = ss.map (·.length) := List.map_congr_left fun y _ => strlen y
          have e2 : (mkS a).length = a.length := strlen a
          rw [e1, e2]
          rw [← LIM_eq]; exact hl
        · rw [join_mk]; exact fin_str ok q
      · cases he
  unfold mJoin at hz
  split at hz
  · obtain ⟨w, rfl, r3⟩ := r2.one
    obtain ⟨b, vs, rfl, h1, h2⟩ := relL r3
    exact fin _ _ vs b rfl (relS r1) rfl (.inl (SqL.of h1)) h2 hz
  · obtain ⟨w, rfl, r3⟩ := r2.one
    obtain ⟨b, vs, rfl, h1, h2⟩ := relT r3
    exact fin _ _ vs b rfl (relS r1) rfl (.inr (SqT.of h1)) h2 hz
  · cases hz
end
end
end Mr
namespace Mr
noncomputable section
open PySem PySem.Spec PyProof.Rows L2
def rng (lo : Int) (n : Nat) : List PV := (List.range n).map fun i => .int (lo + (i : Nat))
def rngD (hi : Int) (n : Nat) : List PV := (List.range n).map fun i => .int (hi + (i : Nat) * (-1))
def smallI (i : Int) : Bool := fits 62 i
theorem smallI_b {i : Int} (h : smallI i = true) : -(2 ^ 62) ≤ i ∧ i < 2 ^ 62 := ⟨Int.le_of_lt (fits_iff.mp h).1, (fits_iff.mp h).2⟩
/-! ### what is walked -/
def elems : PV → Option (List PV)
  | .tup l => some l
  | .lst l => some l
  | .scr l => some l
  | .str l => some (l.map fun c => .str [c])
  | .dct false ks _ => some ks
  | .set [.int i, .int j] => if (smallI i && smallI j) = true then some (rng i (j - i).toNat) else none
  | _ => none
def iSeq (f : EX) : Env → MS → Res (List PV) := fun e s => (f e s).bind fun x s => ofO (elems x) s
def rng1 : List PV → Option (List PV)
  | [.int j] => if smallI j = true then some (rng 0 j.toNat) else none
  | _ => none
def rng2 : List PV → Option (List PV)
  | [.int i, .int j] => if (smallI i && smallI j) = true then some (rng i (j - i).toNat) else none
  | _ => none
def rng3 : List PV → Option (List PV)
  | [.int i, .int j, .int c] => if (smallI i && smallI j && c == -1) = true then some (rngD i (i - j).toNat) else none
  | _ => none
def iRng (m : List PV → Option (List PV)) (fs : List EX) : Env → MS → Res (List PV) := fun e s => (eList fs e s).bind fun xs s => ofO (m xs) s
section
variable {K : PySem.W.Frag} {mg : MG} {g : G} {X : Cx} {W : WY} {pos : Pos} {tg e : Expr} {f : EX}
theorem itRel_list {l : List PV} {a : Addr} {vs : List V} (h : ∀ g', Keeps g g' → g'.Ok K mg → SqL K g'.H a vs) (r : RelPs K mg g l vs) (ok : g.Ok K mg) : ItRel K mg g l (Itl K a) := by
  intro g1 x1 ok1 i
  have hs := h g1 x1 ok1
  refine ⟨fun p hp => ?_, fun hl => ⟨vs, hs, by rw [← r.length]; exact hl⟩⟩
  obtain ⟨v, hv, rv⟩ := r.get' hp
  refine ⟨⟨vs, v, hs, hv⟩, fun v' H' hy => ?_⟩
  obtain ⟨rfl, hy⟩ := hy
  have e := hy vs hs
  rw [hv] at e
  cases e
  exact ⟨g1, rfl, Ext.refl g1, ok1, rfl, rv.keep x1⟩
theorem itRel_tup {l : List PV} {a : Addr} {vs : List V} (h : ∀ g', Keeps g g' → g'.Ok K mg → SqT K g'.H a vs) (r : RelPs K mg g l vs) (ok : g.Ok K mg) : ItRel K mg g l (Itt K a) := by
  intro g1 x1 ok1 i
  have hs := h g1 x1 ok1
  refine ⟨fun p hp => ?_, fun hl => ⟨vs, hs, by rw [← r.length]; exact hl⟩⟩
  obtain ⟨v, hv, rv⟩ := r.get' hp
  refine ⟨⟨vs, v, hs, hv⟩, fun v' H' hy => ?_⟩
  obtain ⟨rfl, hy⟩ := hy
  have e := hy vs hs
  rw [hv] at e
  cases e
  exact ⟨g1, rfl, Ext.refl g1, ok1, rfl, rv.keep x1⟩
theorem itRel_str {l : List Nat} : ItRel K mg g (l.map fun c => .str [c]) (Its ⟨l.toArray⟩) := by
  intro g1 x1 ok1 i
  refine ⟨fun p hp => ?_, fun hl => by simpa [Its] using hl⟩
  rw [List.getElem?_map] at hp
  obtain ⟨c, hc, rfl⟩ := Option.map_eq_some_iff.mp hp
  have hlt : i < l.length := by
    rcases Nat.lt_or_ge i l.length with z | z
    · exact z
    · rw [List.getElem?_eq_none_iff.mpr z] at hc; cases hc
  refine ⟨by simpa [Its] using hlt, fun v H' hy => ?_⟩
  obtain ⟨rfl, c', hc', rfl⟩ := hy
  have e : c' = c := by
    have z : l[i]? = some c' := by simpa using hc'
    rw [hc] at z; cases z; rfl
  subst e
  exact ⟨g1, rfl, Ext.refl g1, ok1, rfl, by simp only [RelP]⟩
theorem itRel_rng {lo : Int} {n : Nat} : ItRel K mg g (rng lo n) (Itr lo n) := by
  intro g1 x1 ok1 i
  refine ⟨fun p hp => ?_, fun hl => by simpa [Itr, rng] using hl⟩
  unfold rng at hp
  rw [List.getElem?_map] at hp
  obtain ⟨c, hc, rfl⟩ := Option.map_eq_some_iff.mp hp
  have hlt : i < n ∧ c = i := by
    rcases Nat.lt_or_ge i n with z | z
    · rw [List.getElem?_range z] at hc; cases hc; exact ⟨z, rfl⟩
    · rw [List.getElem?_eq_none_iff.mpr (by simpa using z)] at hc; cases hc
  refine ⟨hlt.1, fun v H' hy => ?_⟩
  obtain ⟨rfl, rfl⟩ := hy
  exact ⟨g1, rfl, Ext.refl g1, ok1, rfl, by rw [hlt.2]; simp only [RelP]⟩
theorem itRel_rngD {lo : Int} {n : Nat} : ItRel K mg g (rngD lo n) (Itc lo (-1) n) := by
  intro g1 x1 ok1 i
  refine ⟨fun p hp => ?_, fun hl => by simpa [Itc, rngD] using hl⟩
  unfold rngD at hp
  rw [List.getElem?_map] at hp
  obtain ⟨c, hc, rfl⟩ := Option.map_eq_some_iff.mp hp
  have hlt : i < n ∧ c = i := by
    rcases Nat.lt_or_ge i n with z | z
    · rw [List.getElem?_range z] at hc; cases hc; exact ⟨z, rfl⟩
    · rw [List.getElem?_eq_none_iff.mpr (by simpa using z)] at hc; cases hc
  refine ⟨hlt.1, fun v H' hy => ?_⟩
  obtain ⟨rfl, rfl⟩ := hy
  exact ⟨g1, rfl, Ext.refl g1, ok1, rfl, by rw [hlt.2]; simp only [RelP]⟩
theorem PI.weak {t t' : TI} (h : PI X tg e t) (w : ∀ σ H Q, t' σ H Q → t σ H Q) : PI X tg e t' := ⟨fun pins s σ H Q I q => h.run pins s σ H Q I (w σ H Q q)⟩
/-- a range object that stands -/
theorem pi_rngV {l : Expr} {tl : TE} (hl : PE X l tl) : PI X tg l (fun σ H R => tl σ H fun x H1 => ∃ a i j, x = .ref a ∧ H1 a = some (.rng i j) ∧ (-(2 ^ 62) ≤ i ∧ i < 2 ^ 62 ∧ -(2 ^ 62) ≤ j ∧ j < 2 ^ 62) ∧ R (Itr i (j - i).toNat) H1) := by
  refine ⟨fun pins s σ H R I h => ?_⟩
  refine thn (hl.run pins s σ H _ I h) fun v s1 ⟨x, H1, I1, r1, q1⟩ => ?_
  obtain ⟨a, lo, hi, e, ha, ⟨h1, h2, h3, h4⟩, q⟩ := q1
  subst e
  cases r1
  obtain ⟨t, u, w, ho⟩ := I1.hok a _ ha
  refine wpAny_pyIter_range (show IsRange s1.heap a lo hi 1 t u w from ho) (small_one h1 h2 h3 h4) ?_
  refine ⟨s1.heap.objs.size, [s1.heap.objs.size], _, _, H1, rfl, I1.kept (t' := s1.toks) fun b o e => Heap.get?_push_of_some _ e, turn_range _ lo (hi - lo).toNat, ?_, fun b hb => ?_, q⟩
  · have e1 : lo + ((0 : Nat) : Int) * 1 = lo := by simp
    have e2 : (((hi - lo).toNat : Nat) : Int) - ((0 : Nat) : Int) = Builtin.Range.rangeSize lo hi 1 := by rw [rangeSize_one]; split <;> omega
    show IsRangeIter _ _ (lo + ((0 : Nat) : Int) * 1) ((((hi - lo).toNat : Nat) : Int) - ((0 : Nat) : Int)) 1
    rw [e1, e2]
    exact Heap.get?_push_size _ rfl
  · have e : b = s1.heap.objs.size := by simpa using hb
    subst e
    exact I1.fpOk (Nat.le_refl _) (I1.hok.fresh (Nat.le_refl _))
/-- a tuple, a list, a text, the keys of a dict -/
theorem ii_seq (he : IE X W e f) : II X W tg e (iSeq f) := by
  refine ⟨fun pins s σ H R I q => ?_⟩
  obtain ⟨g, env, rfl, ok, re, q⟩ := q
  unfold iSeq at q
  cases hf : f env g.s with
  | exc c p s' =>
    rw [hf] at q
    exact (pi_list he).run pins s σ _ R I ⟨g, env, rfl, ok, re, by rw [hf]; exact q⟩
  | stuck => rw [hf] at q; exact q.elim
  | ok p s' =>
    rw [hf] at q
    simp only [bind_ok] at q
    cases hz : elems p with
    | none => rw [hz] at q; exact q.elim
    | some xs =>
      rw [hz] at q
      unfold elems at hz
      split at hz
      · cases hz
        refine (pi_tup he).run pins s σ _ R I ⟨g, env, rfl, ok, re, ?_⟩
        rw [hf]
        intro g' v x' ok' es r
        simp only [RelP] at r
        obtain ⟨a, vs, rfl, h1, h2⟩ := r
        exact ⟨a, rfl, ⟨vs, SqT.of h1⟩, q g' _ x' ok' es (itRel_tup (fun g2 x2 ok2 => SqT.of (x2.tup a vs h1)) h2 ok')⟩
      · cases hz
        refine (pi_list he).run pins s σ _ R I ⟨g, env, rfl, ok, re, ?_⟩
        rw [hf]
        intro g' v x' ok' es r
        simp only [RelP] at r
        obtain ⟨a, vs, rfl, ⟨h1, hz⟩, h2⟩ := r
        exact ⟨a, rfl, ⟨vs, SqL.of h1⟩, q g' _ x' ok' es (itRel_list (fun g2 x2 ok2 => SqL.of (x2.lst a vs h1 hz).1) h2 ok')⟩
      · cases hz
        refine (pi_list he).run pins s σ _ R I ⟨g, env, rfl, ok, re, ?_⟩
        rw [hf]
        intro g' v x' ok' es r
        simp only [RelP] at r
        obtain ⟨a, vs, rfl, h1, h2⟩ := r
        refine ⟨a, rfl, ⟨vs, h1.sq⟩, q g' _ x' ok' es (itRel_list (fun g2 x2 ok2 => ?_) h2 ok')⟩
        exact ScrP.sq (g := g2) (h1.imp (fun ⟨o, q⟩ => ⟨o, x2.frz a o _ q⟩) id)
      · cases hz
        refine (pi_str he).run pins s σ _ R I ⟨g, env, rfl, ok, re, ?_⟩
        rw [hf]
        intro g' v x' ok' es r
        obtain rfl := relS r.d
        exact ⟨_, rfl, q g' _ x' ok' es itRel_str⟩
      · cases hz
        refine (pi_keys he).run pins s σ _ R I ⟨g, env, rfl, ok, re, ?_⟩
        rw [hf]
        intro g' v x' ok' es r
        simp only [RelP] at r
        obtain ⟨a, rfl, ⟨_, kvs, ⟨o, h1⟩, rfl, h3⟩ | ⟨z, _⟩⟩ := r
        · refine ⟨a, o, rfl, .inl ⟨kvs, h1, q g' _ x' ok' es fun g2 x2 ok2 i => ?_⟩⟩
          have h2 := x2.frz a o _ h1
          refine ⟨fun p hp => ?_, fun hl => ⟨h2, by simpa using hl⟩⟩
          rw [List.getElem?_map] at hp
          obtain ⟨kv, hk, rfl⟩ := Option.map_eq_some_iff.mp hp
          have hlt : i < kvs.length := by
            rcases Nat.lt_or_ge i kvs.length with z | z
            · exact z
            · rw [List.getElem?_eq_none_iff.mpr z] at hk; cases hk
          refine ⟨⟨h2, hlt⟩, fun v' H' hy => ?_⟩
          obtain ⟨rfl, k', w, hk', rfl⟩ := hy
          rw [hk] at hk'
          cases hk'
          exact ⟨g2, rfl, Ext.refl g2, ok2, rfl, by cases k' <;> (simp only [pvKey, RelP]; rfl)⟩
        · cases z
      · split at hz
        · rename_i hs
          cases hz
          refine (pi_rngV he).run pins s σ _ R I ⟨g, env, rfl, ok, re, ?_⟩
          rw [hf]
          intro g' v x' ok' es r
          simp only [RelP] at r
          obtain ⟨i, j, a, e1, rfl, h1⟩ := r
          cases e1
          simp only [Bool.and_eq_true] at hs
          have hs := And.intro (smallI_b hs.1) (smallI_b hs.2)
          exact ⟨a, _, _, rfl, h1, ⟨hs.1.1, hs.1.2, hs.2.1, hs.2.2⟩, q g' _ x' ok' es itRel_rng⟩
        · cases hz
      · cases hz
theorem rng_args {m : List PV → Option (List PV)} {fs : List EX} {σ : L2.St} {H : Hp} {R : It → Hp → Prop} (q : RdA K mg (ItRel K mg) W (iRng m fs) σ H R) : RdL K mg W (eList fs) σ H fun vs H1 =>
    ∃ ps zs g, g.H = H1 ∧ RelPs K mg g ps vs ∧ m ps = some zs ∧ ∀ J, ItRel K mg g zs J → R J H1 := by
  refine (RdA.seq (R := fun g p v => RelPs K mg g p v) (f := eList fs) (k := fun xs e s => ofO (m xs) s) q).imp fun vs H1 q => ?_
  obtain ⟨p, g, env, rfl, ok, re, r, q⟩ := q
  cases hz : m p with
  | none => rw [hz] at q; exact q.elim
  | some z =>
    rw [hz] at q
    exact ⟨p, z, g, rfl, r, hz, fun J j => OutA.ok ok q j⟩
theorem ii_rng1 {a : Expr} {fs : List EX} {p : Pos} (hg : Gl X "range") (hm : X.mg "range" = none) (ha : IA X W [a] (eList fs)) (hs : starEach [a] X.env = [(false, eval a X.env)] := by rfl) : II X W tg (.Call (.Name "range" p) [a] [] pos) (iRng rng1 fs) :=
  PI.weak (pi_range1 hg hm ha hs) fun σ H Q q => by
    refine (rng_args q).imp fun vs H1 q => ?_
    obtain ⟨ps, zs, g, rfl, r, hz, q⟩ := q
    unfold rng1 at hz
    split at hz
    · split at hz
      · rename_i hs
        cases hz
        simp only [RelPs, RelP] at r
        obtain ⟨_, _, rfl, rfl, rfl⟩ := r
        exact ⟨_, rfl, (smallI_b hs).1, (smallI_b hs).2, q _ itRel_rng⟩
      · cases hz
    · cases hz
theorem ii_rng2 {a b : Expr} {fs : List EX} {p : Pos} (hg : Gl X "range") (hm : X.mg "range" = none) (ha : IA X W [a, b] (eList fs)) (hs : starEach [a, b] X.env = [(false, eval a X.env), (false, eval b X.env)] := by rfl) (hs2 : starEach [b] X.env = [(false, eval b X.env)] := by rfl) :
    II X W tg (.Call (.Name "range" p) [a, b] [] pos) (iRng rng2 fs) :=
  PI.weak (pi_range2 hg hm ha hs hs2) fun σ H Q q => by
    refine (rng_args q).imp fun vs H1 q => ?_
    obtain ⟨ps, zs, g, rfl, r, hz, q⟩ := q
    unfold rng2 at hz
    split at hz
    · split at hz
      · rename_i hs
        cases hz
        simp only [RelPs, RelP] at r
        obtain ⟨_, _, rfl, rfl, _, _, rfl, rfl, rfl⟩ := r
        simp only [Bool.and_eq_true] at hs
        have hs := And.intro (smallI_b hs.1) (smallI_b hs.2)
        exact ⟨_, _, rfl, ⟨hs.1.1, hs.1.2, hs.2.1, hs.2.2⟩, q _ itRel_rng⟩
      · cases hz
    · cases hz
theorem ii_rng3 {a b c : Expr} {fs : List EX} {p : Pos} (hg : Gl X "range") (hm : X.mg "range" = none) (ha : IA X W [a, b, c] (eList fs)) (hs : starEach [a, b, c] X.env = (false, eval a X.env) :: starEach [b, c] X.env := by rfl)
    (hpl : (backTo pos (starEach [b, c] X.env)).any (·.1) = false := by rfl) : II X W tg (.Call (.Name "range" p) [a, b, c] [] pos) (iRng rng3 fs) :=
  PI.weak (pi_range3 hg hm ha hs hpl) fun σ H Q q => by
    refine (rng_args q).imp fun vs H1 q => ?_
    obtain ⟨ps, zs, g, rfl, r, hz, q⟩ := q
    unfold rng3 at hz
    split at hz
    · split at hz
      · rename_i hs
        cases hz
        simp only [RelPs, RelP] at r
        obtain ⟨_, _, rfl, rfl, _, _, rfl, rfl, _, _, rfl, rfl, rfl⟩ := r
        simp only [Bool.and_eq_true, beq_iff_eq] at hs
        obtain ⟨⟨hs1, hs2⟩, rfl⟩ := hs
        have hs := And.intro (smallI_b hs1) (smallI_b hs2)
        exact ⟨_, _, _, _, rfl, RgC.neg hs.1.1 hs.1.2 hs.2.1 hs.2.2, q _ itRel_rngD⟩
      · cases hz
    · cases hz
end
end
end Mr
namespace Mr
noncomputable section
open PySem PySem.Spec PyProof.Rows L2
/-! ### a op b op c -/
section
variable {K : PySem.W.Frag} {mg : MG} {g : G} {X : Cx} {W : WY} {pos : Pos} {a b c : Expr} {f h k : EX} {m m' : PV → PV → Option Bool}
theorem RdE.chain {σ : L2.St} {H : Hp} {Q : VK} (q : RdE K mg W (eChain m m' f h k) σ H Q) :
    tChain (OpM K mg fun x y => (m x y).map .bl) (OpM K mg fun x y => (m' x y).map .bl) (RdE K mg W f) (RdE K mg W h) (RdE K mg W k) σ H Q := by
  unfold tChain
  obtain ⟨g, env, rfl, ok, re, q⟩ := q
  refine ⟨g, env, rfl, ok, re, ?_⟩
  unfold eChain at q
  revert q
  cases f env g.s with
  | exc c p s' => exact id
  | stuck => exact id
  | ok x s1 =>
    simp only [bind_ok]
    intro q g1 v1 x1 ok1 e1 r1
    replace q := OutA.back ok ok1 x1 q
    subst e1
    have re1 := re.ext ok x1
    refine ⟨g1, env, rfl, ok1, re1, ?_⟩
    revert q
    cases h env g1.s with
    | exc c p s' => exact id
    | stuck => exact id
    | ok y s2 =>
      simp only [bind_ok]
      intro q g2 v2 x2 ok2 e2 r2
      replace q := OutA.back ok1 ok2 x2 q
      subst e2
      have re2 := re1.ext ok1 x2
      have rx2 := r1.ext ok1 x2
      cases hm : m (deref g2.s x) (deref g2.s y) with
      | none => rw [hm] at q; exact q.elim
      | some bb =>
        rw [hm] at q
        refine ⟨g2, _, _, _, rfl, ok2, rx2.deref ok2, r2.deref ok2, (congrArg (Option.map PV.bl) hm : _), fun g3 v3 x3 ok3 e3 r3 => ?_⟩
        simp only [RelP] at r3
        subst r3
        refine ⟨bb, rfl, ?_⟩
        replace q := OutA.back ok2 ok3 x3 q
        rw [← e3] at q
        cases bb with
        | false =>
          simp only [if_neg Bool.false_ne_true]
          exact OutA.ok ok3 q (by simp only [RelP])
        | true =>
          simp only [if_true]
          refine ⟨g3, env, rfl, ok3, re2.ext ok2 x3, ?_⟩
          have q : OutA K mg (fun g p v => RelP K mg g p v) g3 σ W ((k env g3.s).bind fun z s => (ofO (m' (deref s y) (deref s z)) s).bind fun b s => Res.ok (PV.bl b) s) Q := q
          revert q
          cases k env g3.s with
          | exc c p s' => exact id
          | stuck => exact id
          | ok z s4 =>
            simp only [bind_ok]
            intro q g4 v4 x4 ok4 e4 r4
            replace q := OutA.back ok3 ok4 x4 q
            subst e4
            have ry := (r2.ext ok2 x3).ext ok3 x4
            cases hm2 : m' (deref g4.s y) (deref g4.s z) with
            | none => rw [hm2] at q; exact q.elim
            | some b2 =>
              rw [hm2] at q
              refine ⟨g4, _, _, _, rfl, ok4, ry.deref ok4, r4.deref ok4, (congrArg (Option.map PV.bl) hm2 : _), fun g5 v5 x5 ok5 e5 r5 => ?_⟩
              exact q g5 v5 x5 ok5 e5 r5
theorem ie_chain {op op' : CmpOp} (ho : OpR X (compareOp op) (OpM X.K X.mg fun x y => (m x y).map .bl)) (ho' : OpR X (compareOp op') (OpM X.K X.mg fun x y => (m' x y).map .bl)) (ha : IE X W a f) (hb : IE X W b h) (hc : IE X W c k)
    (hm : lastMarks [op, op'] [b, c] = false := by with_unfolding_all rfl) : IE X W (.Compare a [op, op'] [b, c] pos) (eChain m m' f h k) :=
  PE.weak (pe_chain ho ho' ha hb hc hm) fun σ H Q q => RdE.chain q
theorem it_chain {op op' : CmpOp} (ho : OpR X (compareOp op) (OpM X.K X.mg fun x y => (m x y).map .bl)) (ho' : OpR X (compareOp op') (OpM X.K X.mg fun x y => (m' x y).map .bl)) (ha : IE X W a f) (hb : IE X W b h) (hc : IE X W c k)
    (hm : lastMarks [op, op'] [b, c] = false := by with_unfolding_all rfl) : IT X W (.Compare a [op, op'] [b, c] pos) (tChain' m m' f h k) :=
  PT.weak (pt_chain ho ho' ha hb hc hm) fun σ H Q q => by
    unfold tTest
    refine RdE.chain (Q := fun x H' => ∃ k, x = .bl k ∧ Q k H') ?_
    obtain ⟨g, env, rfl, ok, re, q⟩ := q
    refine ⟨g, env, rfl, ok, re, ?_⟩
    have fin : ∀ (bb : Bool) (s : MS), OutA X.K X.mg (fun _ (b : Bool) c => b = c) g σ W (.ok bb s) Q → OutA X.K X.mg (fun g p v => RelP X.K X.mg g p v) g σ W (.ok (.bl bb) s) (fun x H' => ∃ k, x = .bl k ∧ Q k H') := by
      intro bb s q g' v x' ok' es r
      simp only [RelP] at r
      exact ⟨bb, r, q g' bb x' ok' es rfl⟩
    revert q
    unfold tChain' eChain
    cases f env g.s with
    | exc c p s' => exact id
    | stuck => exact id
    | ok x s1 =>
      simp only [bind_ok]
      cases h env s1 with
      | exc c p s' => exact id
      | stuck => exact id
      | ok y s2 =>
        simp only [bind_ok]
        cases m (deref s2 x) (deref s2 y) with
        | none => exact id
        | some bb =>
          cases bb with
          | false => exact fin _ _
          | true =>
            show OutA X.K X.mg _ g σ W ((k env s2).bind fun z s => ofO (m' (deref s y) (deref s z)) s) Q → OutA X.K X.mg _ g σ W ((k env s2).bind fun z s => (ofO (m' (deref s y) (deref s z)) s).bind fun b s => Res.ok (PV.bl b) s) _
            cases k env s2 with
            | exc c p s' => exact id
            | stuck => exact id
            | ok z s3 =>
              simp only [bind_ok]
              cases m' (deref s3 y) (deref s3 z) with
              | none => exact id
              | some b2 => exact fin _ _
end
/-! ### stores into lists and dicts -/
/-- o[i] = v, the object's new state -/
def oSet : PO → PV → PV → Option PO
  | .lst l, .int i, v => (ixL l.length i).map fun j => .lst (l.set j v)
  | .dct t ks vs, k, v => if (isKey t k && decide (ks.length < LIM)) = true then some (.dct t (dput ks vs k v).1 (dput ks vs k v).2) else none
  | _, _, _ => none
def aSub (fo fi : EX) : AS := fun p e s => match fo e s with
  | .ok (.obj i) s => match fi e s with
    | .ok k s => match s.m i with
      | some o => match oSet o k p with
        | some o' => some (e, s.put i o')
        | none => none
      | none => none
    | _ => none
  | _ => none
abbrev G.put (g : G) (i : Nat) (u : HO) (o : PO) : G := { g with H := upd g.H (g.ρ i) u, s := g.s.put i o }
section
variable {K : PySem.W.Frag} {mg : MG} {g : G} {X : Cx} {W : WY} {pos : Pos}
theorem put_ext {i : Nat} {u : HO} {o : PO} (h : g.s.m i ≠ none) : Ext g (g.put i u o) where
  n := Nat.le_refl _
  ρ := fun _ _ => rfl
  Z := fun _ h => h
  H := fun a w e nl => by
    show upd g.H (g.ρ i) u a = some w
    rw [upd_ne (fun z => nl ⟨i, h, z.symm⟩)]; exact e
  dom := fun a e => by
    show upd g.H (g.ρ i) u a ≠ none
    by_cases z : a = g.ρ i
    · rw [z, upd_same]; simp
    · rw [upd_ne z]; exact e
  zNew := fun a z => .inl z
  mNew := fun j hj => by
    by_cases z : j = i
    · exact .inl (z ▸ h)
    · refine .inl fun q => hj ?_
      show (if j = i then some o else g.s.m j) = none
      rw [if_neg z]; exact q
theorem put_ok {i : Nat} {u : HO} {o : PO} (ok : g.Ok K mg) (h : g.s.m i ≠ none) (hn : RelO K mg (g.put i u o) o (g.ρ i)) : (g.put i u o).Ok K mg := by
  have x := put_ext (u := u) (o := o) h
  have old : ∀ j, (g.put i u o).s.m j ≠ none → g.s.m j ≠ none := fun j hj => by
    by_cases z : j = i
    · exact z ▸ h
    · intro q
      refine hj ?_
      show (if j = i then some o else g.s.m j) = none
      rw [if_neg z]; exact q
  refine ⟨fun j hj => ?_, fun a b ha hb e => ok.inj a b (old a ha) (old b hb) e, fun j hj z => ok.out j (old j hj) z, fun a z => x.dom a (ok.zd a z), fun j o' h' => ?_⟩
  · show (if j = i then some o else g.s.m j) = none
    have hi := ok.lt h
    have hj' : g.s.n ≤ j := hj
    rw [if_neg (by omega)]
    exact ok.wf j hj'
  · by_cases z : j = i
    · have h2 : (if j = i then some o else g.s.m j) = some o' := h'
      rw [if_pos z] at h2
      cases h2
      rw [z]; exact hn
    · have h2 : (if j = i then some o else g.s.m j) = some o' := h'
      rw [if_neg z] at h2
      refine RelO.ext ok x (fun w q => ?_) (ok.obj j o' h2)
      show upd g.H (g.ρ i) u _ = some w
      rw [upd_ne (fun e => z (ok.inj j i (by rw [h2]; simp) h e))]; exact q
theorem any_pk (k : Key) : ∀ kvs : List (Key × V), ((kvs.map fun q => pvKey q.1).any fun j => keq j (pvKey k)) = kvs.any fun kv => decide (kv.1 = k)
  | [] => rfl
  | q :: r => by simp only [List.map_cons, List.any_cons, keq_pv, any_pk k r]
theorem dset_pk {k : Key} {v : PV} {y : V} (ry : RelP K mg g v y) : ∀ {kvs : List (Key × V)} {vs : List PV}, RelPs K mg g vs (kvs.map (·.2)) →
    RelPs K mg g (dset (kvs.map fun q => pvKey q.1) vs (pvKey k) v) ((kvs.map fun kv => if kv.1 = k then (kv.1, y) else kv).map (·.2))
  | [], vs, _ => RelPs.nil
  | q :: kvs, vs, r => by
    cases vs with
    | nil => simp [RelPs] at r
    | cons w ws =>
      simp only [List.map_cons, RelPs] at r
      obtain ⟨u, rs, e, r1, r2⟩ := r
      cases e
      simp only [List.map_cons, dset, keq_pv]
      refine RelPs.cons ?_ (dset_pk ry r2)
      by_cases h : q.1 = k
      · simp only [h, decide_true, if_true]; exact ry
      · simp only [h, decide_false, if_neg Bool.false_ne_true, if_false]; exact r1
theorem put_pk {k : Key} {v : PV} {y : V} {kvs : List (Key × V)} {vs : List PV} (ry : RelP K mg g v y) (r : RelPs K mg g vs (kvs.map (·.2))) :
    (dput (kvs.map fun q => pvKey q.1) vs (pvKey k) v).1 = (putK kvs k y).map (fun q => pvKey q.1) ∧ RelPs K mg g (dput (kvs.map fun q => pvKey q.1) vs (pvKey k) v).2 ((putK kvs k y).map (·.2)) := by
  unfold dput putK
  rw [any_pk]
  by_cases h : (kvs.any fun kv => decide (kv.1 = k)) = true
  · rw [if_pos h, if_pos h]
    refine ⟨?_, dset_pk ry r⟩
    rw [List.map_map]
    refine List.map_congr_left fun q _ => ?_
    show pvKey q.1 = pvKey (if q.1 = k then (q.1, y) else q).1
    by_cases z : q.1 = k <;> simp [z]
  · rw [if_neg h, if_neg h]
    refine ⟨by simp, ?_⟩
    rw [List.map_append]
    exact r.append (RelPs.cons ry RelPs.nil)
theorem keq_pt (k j : List Key) : keq (.tup (k.map pvKey)) (.tup (j.map pvKey)) = decide (k = j) := aeqs_key k j
theorem any_pt (k : List Key) : ∀ kvs : List (List Key × V), ((kvs.map fun q => PV.tup (q.1.map pvKey)).any fun j => keq j (.tup (k.map pvKey))) = kvs.any fun kv => decide (kv.1 = k)
  | [] => rfl
  | q :: r => by simp only [List.map_cons, List.any_cons, keq_pt, any_pt k r]
theorem dset_pt {k : List Key} {v : PV} {y : V} (ry : RelP K mg g v y) : ∀ {kvs : List (List Key × V)} {vs : List PV}, RelPs K mg g vs (kvs.map (·.2)) →
    RelPs K mg g (dset (kvs.map fun q => PV.tup (q.1.map pvKey)) vs (.tup (k.map pvKey)) v) ((kvs.map fun kv => if kv.1 = k then (kv.1, y) else kv).map (·.2))
  | [], vs, _ => RelPs.nil
  | q :: kvs, vs, r => by
    cases vs with
    | nil => simp [RelPs] at r
    | cons w ws =>
      simp only [List.map_cons, RelPs] at r
      obtain ⟨u, rs, e, r1, r2⟩ := r
      cases e
      simp only [List.map_cons, dset, keq, aeqs_key]
      refine RelPs.cons ?_ (dset_pt ry r2)
      by_cases h : q.1 = k
      · simp only [h, decide_true, if_true]; exact ry
      · simp only [h, decide_false, if_neg Bool.false_ne_true, if_false]; exact r1
theorem put_pt {k : List Key} {v : PV} {y : V} {kvs : List (List Key × V)} {vs : List PV} (ry : RelP K mg g v y) (r : RelPs K mg g vs (kvs.map (·.2))) :
    (dput (kvs.map fun q => PV.tup (q.1.map pvKey)) vs (.tup (k.map pvKey)) v).1 = (putK kvs k y).map (fun q => PV.tup (q.1.map pvKey)) ∧ RelPs K mg g (dput (kvs.map fun q => PV.tup (q.1.map pvKey)) vs (.tup (k.map pvKey)) v).2 ((putK kvs k y).map (·.2)) := by
  unfold dput putK
  rw [any_pt]
  by_cases h : (kvs.any fun kv => decide (kv.1 = k)) = true
  · rw [if_pos h, if_pos h]
    refine ⟨?_, dset_pt ry r⟩
    rw [List.map_map]
    refine List.map_congr_left fun q _ => ?_
    show PV.tup (q.1.map pvKey) = PV.tup ((if q.1 = k then (q.1, y) else q).1.map pvKey)
    by_cases z : q.1 = k <;> simp [z]
  · rw [if_neg h, if_neg h]
    refine ⟨by simp, ?_⟩
    rw [List.map_append]
    exact r.append (RelPs.cons ry RelPs.nil)
/-- the store into a live thing, by values -/
def SetM (K : PySem.W.Frag) (mg : MG) : TSet := fun o i v H Q => ∃ g j st st' pk p, g.H = H ∧ g.Ok K mg ∧ o = .ref (g.ρ j) ∧ g.s.m j = some st ∧ RelP K mg g pk i ∧ RelP K mg g p v ∧ oSet st pk p = some st' ∧
  ∀ g', Ext g g' → g'.Ok K mg → g'.s = g.s.put j st' → Q g'.H
theorem set_m (hu : X.A.units + 1 < cLine) : PSet X (SetM X.K X.mg) := by
  intro pins s σ H o i v ov iv u Q I ro ri rv ⟨g, j, st, st', pk, p, eH, ok, eo, hm, rk, rp, hz, q⟩
  subst eH eo
  have hl : g.s.m j ≠ none := by rw [hm]; simp
  have ho := ok.obj j st hm
  unfold oSet at hz
  split at hz
  · rename_i l k
    obtain ⟨n, hn, rfl⟩ := Option.map_eq_some_iff.mp hz
    obtain ⟨vs, h1, h2⟩ := ho
    simp only [RelP] at rk
    subst rk
    rw [ixL_eq, h2.length] at hn
    have x := put_ext (u := .lst (vs.set n v)) (o := .lst (l.set n p)) hl
    exact set_list pins s σ g.H _ _ v ov iv u Q I ro ri rv ⟨g.ρ j, vs, k, n, rfl, rfl, h1, hn, q _ x (put_ok ok hl ⟨_, upd_same, (h2.set n rp).ext ok x⟩) rfl⟩
  · rename_i t ks ps
    cases ro
    split at hz
    · rename_i hk
      cases hz
      simp only [Bool.and_eq_true, decide_eq_true_eq] at hk
      obtain ⟨hk, hlen⟩ := hk
      rw [sizeLIM] at hlen
      rcases ho with ⟨rfl, kvs, h1, rfl, h3⟩ | ⟨rfl, kvs, h1, rfl, h3⟩
      · obtain ⟨kk, rfl, rfl⟩ := key_of hk rk
        obtain ⟨e1, e2⟩ := put_pk (k := kk) rp h3
        have x := put_ext (u := .dK (putK kvs kk v)) (o := .dct false (dput (kvs.map fun q => pvKey q.1) ps (pvKey kk) p).1 (dput (kvs.map fun q => pvKey q.1) ps (pvKey kk) p).2) hl
        exact d_setItem hu I (DPut.k (v := v) h1 (by simpa using hlen)) ri rv fun s' I' => ⟨_, I', q _ x (put_ok ok hl (.inl ⟨rfl, _, upd_same, e1, e2.ext ok x⟩)) rfl⟩
      · cases pk with
        | tup lk =>
          simp only [isKey, Bool.true_and] at hk
          simp only [RelP] at rk
          obtain ⟨b, us, rfl, hb, rb⟩ := rk
          obtain ⟨kk, rfl, rfl⟩ := keys_of hk rb
          obtain ⟨e1, e2⟩ := put_pt (k := kk) rp h3
          have x := put_ext (u := .dT (putK kvs kk v)) (o := .dct true (dput (kvs.map fun q => PV.tup (q.1.map pvKey)) ps (.tup (kk.map pvKey)) p).1 (dput (kvs.map fun q => PV.tup (q.1.map pvKey)) ps (.tup (kk.map pvKey)) p).2) hl
          exact d_setItem hu I (DPut.t (v := v) h1 hb (by simpa using hlen)) ri rv fun s' I' => ⟨_, I', q _ x (put_ok ok hl (.inr ⟨rfl, _, upd_same, e1, e2.ext ok x⟩)) rfl⟩
        | _ => simp [isKey] at hk
    · cases hz
  · cases hz
theorem ig_sub {o i : Expr} {fo fi : EX} (hu : X.A.units + 1 < cLine) (ho : IE X W o fo) (hi : IE X W i fi)
    (ha : ∀ v, assign (.Subscript o i pos) X.env v = (do
      let ov ← holding [v] (eval o X.env)
      let iv ← holding [v, ov] (eval i X.env)
      standAt pos
      holding [v, ov, iv] (setItem ov iv v)
      release [v, ov, iv] []) := by intro _; rfl) : IG X W.b (.Subscript o i pos) [] (aSub fo fi) :=
  PG.weak (pg_sub ho hi (set_m hu) ha) fun v σ H Q q => by
    obtain ⟨g, p, env, env', s', rfl, ok, r, re, hz, q⟩ := q
    unfold gSub
    refine ⟨g, env, rfl, ok, re, ?_⟩
    unfold aSub at hz
    revert hz
    cases fo env g.s with
    | exc c p s' => exact fun h => nomatch h
    | stuck => exact fun h => nomatch h
    | ok x s1 =>
      cases x with
      | obj j =>
        dsimp only
        intro hz g1 v1 x1 ok1 e1 r1
        subst e1
        refine ⟨g1, env, rfl, ok1, re.ext ok x1, ?_⟩
        revert hz
        cases fi env g1.s with
        | exc c p s' => exact fun h => nomatch h
        | stuck => exact fun h => nomatch h
        | ok y s2 =>
          dsimp only
          intro hz g2 v2 x2 ok2 e2 r2
          subst e2
          cases hm : g2.s.m j with
          | none => rw [hm] at hz; cases hz
          | some st =>
            rw [hm] at hz
            dsimp only at hz
            cases ho' : oSet st y p with
            | none => rw [ho'] at hz; cases hz
            | some st' =>
              rw [ho'] at hz
              cases hz
              have r1' := r1.ext ok1 x2
              simp only [RelP] at r1'
              refine ⟨g2, j, st, st', y, p, rfl, ok2, r1'.2, hm, r2, (r.ext ok x1).ext ok1 x2, ho', fun g3 x3 ok3 e3 => ?_⟩
              exact q g3 σ (x1.trans ok ok1 (x2.trans ok1 ok2 x3)) ok3 e3 (((re.ext ok x1).ext ok1 x2).ext ok2 x3) (fun _ _ => rfl) rfl
      | _ => exact fun h => nomatch h
end
end
end Mr
namespace Mr
noncomputable section
open PySem PySem.Spec PyProof.Rows L2
/-! ### dicts that are made -/
def dMake : List (PV × PV) → List PV × List PV → List PV × List PV
  | [], d => d
  | (k, v) :: r, d => dMake r (dput d.1 d.2 k v)
def ePairs : List (EX × EX) → Env → MS → Res (List (PV × PV))
  | [], _, s => .ok [] s
  | (f, h) :: r, e, s => (f e s).bind fun x s => (h e s).bind fun y s => (ePairs r e s).bind fun l s => .ok ((x, y) :: l) s
def okPairs (l : List (PV × PV)) : Bool := l.all (fun p => isKey false p.1) && decide (l.length ≤ 15)
def eDisp (fs : List (EX × EX)) : EX := fun e s => (ePairs fs e s).bind fun l s => if okPairs l = true then .ok (.dct false (dMake l ([], [])).1 (dMake l ([], [])).2) s else .stuck
def eDispM (fs : List (EX × EX)) : EX := fun e s => (ePairs fs e s).bind fun l s => if okPairs l = true then .ok (.obj s.n) (s.new (.dct false (dMake l ([], [])).1 (dMake l ([], [])).2)) else .stuck
def eNewD (t : Bool) : EX := fun _ s => .ok (.obj s.n) (s.new (.dct t [] []))
def dcompM (as : AS) (tt : ET) (tk tv : EX) (env : Env) : List PV → List PV × List PV → MS → Res (List PV × List PV)
  | [], d, s => .ok d s
  | x :: xs, d, s => match as x env s with
    | none => .stuck
    | some (e, s) => (tt e s).bind fun b s => if b = true then (tk e s).bind fun k s => (tv e s).bind fun v s => if isKey false k = true then dcompM as tt tk tv env xs (dput d.1 d.2 k v) s else .stuck else dcompM as tt tk tv env xs d s
def eDComp (vs : List Nat) (fi : Env → MS → Res (List PV)) (as : AS) (tt : ET) (tk tv : EX) : EX := fun e s => (fi e s).bind fun xs s => if xs.length ≤ LIM then (dcompM as tt tk tv (wipeE e vs) xs ([], []) s).calm.bind fun d s => .ok (.dct false d.1 d.2) s else .stuck
section
variable {K : PySem.W.Frag} {mg : MG} {g g' : G} {X : Cx} {W : WY} {pos : Pos}
/-- a thing that is being made: nobody knows it -/
structure HidU (g : G) (D : Addr) (u : HO) : Prop where
  at_ : g.H D = some u
  z : ¬ g.Z D
  live : ¬ Live g D
  ob : Ob u
section
variable {D : Addr} {u u' : HO} {o : PO}
theorem HidU.ext (ok : g.Ok K mg) (x : Ext g g') (h : HidU g D u) : HidU g' D u := by
  refine ⟨x.H D _ h.at_ h.live, fun z => ?_, fun ⟨i, hi, e⟩ => ?_, h.ob⟩
  · rcases x.zNew D z with q | q | q
    · exact h.z q
    · rw [h.at_] at q; cases q
    · exact h.live q
  · rcases x.mNew i hi with q | ⟨_, q⟩
    · exact h.live ⟨i, q, (x.ρ i (ok.lt q)).symm.trans e⟩
    · rw [e, h.at_] at q; cases q
theorem HidU.keeps (h : HidU g D u) : Keeps g { g with H := upd g.H D u' } where
  n := Nat.le_refl _
  ρ := fun _ _ => rfl
  tup := fun a vs t => by
    show upd g.H D _ a = _
    rw [upd_ne (fun z => by rw [z, h.at_] at t; cases t; exact h.ob)]; exact t
  frz := fun a o u t => by
    show upd g.H D _ a = _
    rw [upd_ne (fun z => by rw [z, h.at_] at t; cases t; exact h.ob)]; exact t
  rng := fun a i j t => by
    show upd g.H D _ a = _
    rw [upd_ne (fun z => by rw [z, h.at_] at t; cases t; exact h.ob)]; exact t
  lst := fun a vs t z => ⟨by
    show upd g.H D _ a = _
    rw [upd_ne (fun q => h.z (by rw [← q]; exact z))]; exact t, z⟩
theorem HidU.re (h : HidU g D u) (ob : Ob u') : HidU { g with H := upd g.H D u' } D u' := ⟨upd_same, h.z, h.live, ob⟩
theorem HidU.ok (ok : g.Ok K mg) (h : HidU g D u) : G.Ok K mg { g with H := upd g.H D u' } where
  wf := ok.wf
  inj := ok.inj
  out := ok.out
  zd := fun a z => by
    show upd g.H D _ a ≠ none
    rw [upd_ne (fun q => h.z (by rw [← q]; exact z))]; exact ok.zd a z
  obj := fun i o e => RelO.keep h.keeps (fun u q => by
    show upd g.H D _ _ = _
    rw [upd_ne (fun z => h.live ⟨i, by
      have e' : g.s.m i = some o := e
      rw [e']; simp, z⟩)]; exact q) (ok.obj i o e)
theorem HidU.extRe {g0 : G} (x : Ext g0 g) (h0 : g0.H D = none) : Ext g0 { g with H := upd g.H D u' } where
  n := x.n
  ρ := x.ρ
  Z := x.Z
  H := fun a o e nl => by
    show upd g.H D _ a = _
    rw [upd_ne (ne_of_none e h0)]; exact x.H a o e nl
  dom := fun a e => by
    show upd g.H D _ a ≠ none
    by_cases q : a = D
    · rw [q, upd_same]; simp
    · rw [upd_ne q]; exact x.dom a e
  zNew := x.zNew
  mNew := x.mNew
/-- it is live from now on -/
abbrev G.adopt (g : G) (D : Addr) (o : PO) : G := { g with ρ := fun i => if i = g.s.n then D else g.ρ i, s := g.s.new o }
theorem adopt_keeps : Keeps g (g.adopt D o) where
  n := Nat.le_succ _
  ρ := fun i h => by
    show (if i = g.s.n then D else g.ρ i) = g.ρ i
    rw [if_neg (Nat.ne_of_lt h)]
  tup := fun _ _ t => t
  frz := fun _ _ _ t => t
  rng := fun _ _ _ t => t
  lst := fun _ _ t z => ⟨t, z⟩
theorem adopt_ext {g0 : G} (x : Ext g0 g) (h0 : g0.H D = none) : Ext g0 (g.adopt D o) where
  n := Nat.le_succ_of_le x.n
  ρ := fun i h => by
    show (if i = g.s.n then D else g.ρ i) = g0.ρ i
    rw [if_neg (Nat.ne_of_lt (Nat.lt_of_lt_of_le h x.n))]
    exact x.ρ i h
  Z := x.Z
  H := x.H
  dom := x.dom
  zNew := x.zNew
  mNew := fun i h => by
    by_cases e : i = g.s.n
    · refine .inr ⟨e ▸ x.n, ?_⟩
      show g0.H (if i = g.s.n then D else g.ρ i) = none
      rw [if_pos e]; exact h0
    · have h' : (if i = g.s.n then some o else g.s.m i) ≠ none := h
      rw [if_neg e] at h'
      have q := x.mNew i h'
      show _ ∨ (_ ∧ g0.H (if i = g.s.n then D else g.ρ i) = none)
      rw [if_neg e]; exact q
theorem adopt_ok (ok : g.Ok K mg) (h : HidU g D u) (ho : RelO K mg g o D) : (g.adopt D o).Ok K mg := by
  have old : ∀ i, (g.adopt D o).s.m i ≠ none → i ≠ g.s.n → g.s.m i ≠ none := fun i h e q => h (by
    show (if i = g.s.n then some o else g.s.m i) = none
    rw [if_neg e]; exact q)
  have ρo : ∀ i, i ≠ g.s.n → (g.adopt D o).ρ i = g.ρ i := fun i e => if_neg e
  have ρn : (g.adopt D o).ρ g.s.n = D := if_pos rfl
  refine ⟨fun i hi => ?_, fun i j hi hj e => ?_, fun i hi z => ?_, fun b z => ok.zd b z, fun i o' h' => ?_⟩
  · show (if i = g.s.n then some o else g.s.m i) = none
    have hi' : g.s.n + 1 ≤ i := hi
    rw [if_neg (by omega)]
    exact ok.wf i (by omega)
  · by_cases ei : i = g.s.n
    · by_cases ej : j = g.s.n
      · omega
      · rw [ei, ρn, ρo j ej] at e
        exact absurd ⟨j, old j hj ej, e.symm⟩ h.live
    · by_cases ej : j = g.s.n
      · rw [ej, ρn, ρo i ei] at e
        exact absurd ⟨i, old i hi ei, e⟩ h.live
      · rw [ρo i ei, ρo j ej] at e
        exact ok.inj i j (old i hi ei) (old j hj ej) e
  · by_cases ei : i = g.s.n
    · rw [ei, ρn] at z; exact h.z z
    · rw [ρo i ei] at z; exact ok.out i (old i hi ei) z
  · by_cases ei : i = g.s.n
    · have h2 : (if i = g.s.n then some o else g.s.m i) = some o' := h'
      rw [if_pos ei] at h2
      cases h2
      rw [ei, ρn]; exact RelO.keep adopt_keeps (fun _ q => q) ho
    · have h2 : (if i = g.s.n then some o else g.s.m i) = some o' := h'
      rw [if_neg ei] at h2
      rw [ρo i ei]
      exact RelO.keep adopt_keeps (fun _ q => q) (ok.obj i o' h2)
theorem new_hid (ok : g.Ok K mg) (h : g.H D = none) (ob : Ob u) : HidU (g.new D u) D u := ⟨upd_same, fun z => ok.zd D z h, (fun ⟨i, hi, e⟩ => by
  obtain ⟨o, e2, _⟩ := ok.kind ⟨i, hi, e⟩
  rw [h] at e2; cases e2), ob⟩
end
/-- the value, a dict just made, is locked -/
def tFrz (t : TE) : TE := fun σ H Q => t σ H fun v H1 => ∃ d u, v = .ref d ∧ H1 d = some u ∧ Mut (some u) ∧ ∀ od, Q v (upd H1 d (.frz od u))
theorem pe_frz {e : Expr} {t : TE} (h : PE X e t) : PE X e (tFrz t) := ⟨fun pins s σ H Q I q => by
  refine thn (h.run pins s σ H _ I q) fun v s1 ⟨x, H1, I1, r1, d, u, e1, e2, mu, q⟩ => ?_
  subst e1
  obtain ⟨od, I2⟩ := I1.lock e2 mu
  exact ⟨_, _, I2, r1, q od⟩⟩
/-! ### displays -/
theorem pps_of {ks : List (Option Expr)} {vs : List Expr} {trs : List (TE × TE)} : True := trivial
def trOf (K : PySem.W.Frag) (mg : MG) (W : WY) (fs : List (EX × EX)) : List (TE × TE) := fs.map fun p => (RdE K mg W p.1, RdE K mg W p.2)
theorem pairs_run {σ : L2.St} {Q : List (V × V) → Hp → Prop} : ∀ {fs : List (EX × EX)} {g : G} {env : Env} {H : Hp}, g.H = H → g.Ok K mg → RelEnv K mg W.b g env σ →
    (match ePairs fs env g.s with
      | .ok l s' => ∀ g' vs, Ext g g' → g'.Ok K mg → g'.s = s' → RelPs K mg g' (l.map (·.1)) (vs.map (·.1)) → RelPs K mg g' (l.map (·.2)) (vs.map (·.2)) → vs.length = l.length → Q vs g'.H
      | .exc c p s' => ∀ g' cls d, Ext g g' → g'.Ok K mg → g'.s = s' → ExcR K mg c p g' cls d → W.w cls d σ g'.H
      | .stuck => False) → tPairs (trOf K mg W fs) σ H Q
  | [], g, env, H, e, ok, re, q => by
    subst e
    exact q g [] (Ext.refl g) ok rfl RelPs.nil RelPs.nil rfl
  | (f, h) :: r, g, env, H, e, ok, re, q => by
    subst e
    show RdE K mg W f σ g.H fun x H1 => RdE K mg W h σ H1 fun y H2 => tPairs (trOf K mg W r) σ H2 fun ps H3 => Q ((x, y) :: ps) H3
    refine ⟨g, env, rfl, ok, re, ?_⟩
    simp only [ePairs] at q
    revert q
    cases f env g.s with
    | exc c p s' => exact id
    | stuck => exact id
    | ok x s1 =>
      simp only [bind_ok]
      intro q g1 v1 x1 ok1 e1 r1
      subst e1
      refine ⟨g1, env, rfl, ok1, re.ext ok x1, ?_⟩
      revert q
      cases h env g1.s with
      | exc c p s' => exact fun q g' cls d x' => q g' cls d (x1.trans ok ok1 x')
      | stuck => exact id
      | ok y s2 =>
        simp only [bind_ok]
        intro q g2 v2 x2 ok2 e2 r2
        subst e2
        refine pairs_run (g := g2) (env := env) rfl ok2 ((re.ext ok x1).ext ok1 x2) ?_
        have x12 := x1.trans ok ok1 x2
        revert q
        cases ePairs r env g2.s with
        | exc c p s' => exact fun q g' cls d x' => q g' cls d (x12.trans ok ok2 x')
        | stuck => exact id
        | ok l s3 =>
          simp only [bind_ok]
          intro q g3 vs x3 ok3 e3 r3 r4 hl
          exact q g3 ((v1, v2) :: vs) (x12.trans ok ok2 x3) ok3 e3 (RelPs.cons ((r1.ext ok1 x2).ext ok2 x3) r3) (RelPs.cons (r2.ext ok2 x3) r4) (by simp [hl])
theorem dMake_rel : ∀ {l : List (PV × PV)} {d : List PV × List PV} {vs : List (V × V)} {kvs : List (Key × V)}, (l.all fun p => isKey false p.1) = true → RelPs K mg g (l.map (·.1)) (vs.map (·.1)) → RelPs K mg g (l.map (·.2)) (vs.map (·.2)) → vs.length = l.length →
    d.1 = kvs.map (fun q => pvKey q.1) → RelPs K mg g d.2 (kvs.map (·.2)) →
    ∃ ks : List (Key × V), vs = ks.map (fun kv => (kV kv.1, kv.2)) ∧ ks.length = l.length ∧ (dMake l d).1 = (mergeK kvs ks).map (fun q => pvKey q.1) ∧ RelPs K mg g (dMake l d).2 ((mergeK kvs ks).map (·.2))
  | [], d, vs, kvs, _, _, _, hl, h1, h2 => ⟨[], by simpa using hl, rfl, h1, h2⟩
  | (k, v) :: r, d, vs, kvs, hk, r1, r2, hl, h1, h2 => by
    cases vs with
    | nil => cases hl
    | cons w vs =>
      obtain ⟨wk, wv⟩ := w
      simp only [List.all_cons, Bool.and_eq_true] at hk
      simp only [List.map_cons, RelPs] at r1 r2
      obtain ⟨_, _, e1, ra, r1⟩ := r1
      obtain ⟨_, _, e2, rb, r2⟩ := r2
      cases e1
      cases e2
      obtain ⟨kk, rfl, rfl⟩ := key_of hk.1 ra
      obtain ⟨p1, p2⟩ := put_pk (k := kk) rb h2
      rw [← h1] at p1 p2
      obtain ⟨ks, e3, e4, e5, e6⟩ := dMake_rel (d := dput d.1 d.2 (pvKey kk) v) (kvs := putK kvs kk wv) hk.2 r1 r2 (by simpa using hl) p1 p2
      exact ⟨(kk, wv) :: ks, by rw [e3]; rfl, by simp [e4], e5, e6⟩
abbrev IPs (X : Cx) (W : WY) (pos : Pos) (ks : List (Option Expr)) (vs : List Expr) (fs : List (EX × EX)) : Prop := PPs X pos ks vs (trOf X.K X.mg W fs)
theorem ip_nil : IPs X W pos [] [] [] := pps_nil
theorem ip_cons {k v : Expr} {ks : List (Option Expr)} {vs : List Expr} {f h : EX} {fs : List (EX × EX)} (hk : IE X W k f) (hv : IE X W v h) (hr : IPs X W pos ks vs fs) : IPs X W pos (some k :: ks) (v :: vs) ((f, h) :: fs) := pps_cons hk hv hr
theorem disp_run {σ : L2.St} {H : Hp} {Q : VK} {fs : List (EX × EX)} {fin : List PV × List PV → MS → Res PV} (q : RdE K mg W (fun e s => (ePairs fs e s).bind fun l s => if okPairs l = true then fin (dMake l ([], [])) s else .stuck) σ H Q)
    {R : VK} (hR : ∀ g g' D d kvs, g.Ok K mg → g.H D = none → Ext g g' → g'.Ok K mg → HidU g' D (.dK kvs) → d.1 = kvs.map (fun q => pvKey q.1) → RelPs K mg g' d.2 (kvs.map (·.2)) → OutA K mg (fun g p v => RelP K mg g p v) g σ W (fin d g'.s) Q → R (.ref D) g'.H) : tDisp (trOf K mg W fs) σ H R := by
  obtain ⟨g, env, rfl, ok, re, q⟩ := q
  dsimp only at q
  intro D hD
  have x0 := G.new_ext (g := g) (u := .dK []) hD
  have ok0 := G.new_ok (u := .dK []) ok hD
  have hid0 := new_hid (u := .dK []) ok hD trivial
  refine pairs_run (g := g.new D (.dK [])) (env := env) rfl ok0 (re.ext ok x0) ?_
  show (match ePairs fs env g.s with
    | .ok l s' => _
    | .exc c p s' => _
    | .stuck => False)
  revert q
  cases ePairs fs env g.s with
  | exc c p s' => exact fun q g' cls d x' => q g' cls d (x0.trans ok ok0 x')
  | stuck => exact id
  | ok l s1 =>
    simp only [bind_ok]
    intro q g1 vs x1 ok1 e1 r1 r2 hl
    subst e1
    have hid1 := hid0.ext ok0 x1
    by_cases hk : okPairs l = true
    · rw [if_pos hk] at q
      unfold okPairs at hk
      simp only [Bool.and_eq_true, decide_eq_true_eq] at hk
      obtain ⟨ks, rfl, e4, e5, e6⟩ := dMake_rel (d := ([], [])) (kvs := []) hk.1 r1 r2 hl rfl RelPs.nil
      refine ⟨hid1.at_, ks, rfl, by rw [e4]; exact hk.2, ?_⟩
      exact hR g { g1 with H := upd g1.H D (.dK (mergeK [] ks)) } D _ _ ok hD (HidU.extRe (x0.trans ok ok0 x1) hD) (hid1.ok ok1) (hid1.re trivial) e5 (e6.keep hid1.keeps) q
    · rw [if_neg hk] at q; exact q.elim
theorem frz_fin {g0 : G} {D : Addr} {d : List PV × List PV} {kvs : List (Key × V)} {σ : L2.St} {Q : VK} (ok0 : g0.Ok K mg) (h0 : g0.H D = none) (x : Ext g0 g') (ok : g'.Ok K mg) (hid : HidU g' D (.dK kvs)) (h1 : d.1 = kvs.map (fun q => pvKey q.1))
    (h2 : RelPs K mg g' d.2 (kvs.map (·.2))) (q : OutA K mg (fun g p v => RelP K mg g p v) g0 σ W (.ok (.dct false d.1 d.2) g'.s) Q) :
    ∃ d u, V.ref D = .ref d ∧ g'.H d = some u ∧ Mut (some u) ∧ ∀ od, Q (.ref D) (upd g'.H d (.frz od u)) := by
  refine ⟨D, _, rfl, hid.at_, trivial, fun od => ?_⟩
  refine q { g' with H := upd g'.H D (.frz od (.dK kvs)) } (.ref D) (HidU.extRe x h0) (hid.ok ok) rfl ?_
  simp only [RelP]
  exact ⟨D, rfl, .inl ⟨rfl, kvs, ⟨od, upd_same⟩, h1, h2.keep hid.keeps⟩⟩
theorem live_fin {g0 : G} {D : Addr} {d : List PV × List PV} {kvs : List (Key × V)} {σ : L2.St} {Q : VK} (ok0 : g0.Ok K mg) (h0 : g0.H D = none) (x : Ext g0 g') (ok : g'.Ok K mg) (hid : HidU g' D (.dK kvs)) (h1 : d.1 = kvs.map (fun q => pvKey q.1))
    (h2 : RelPs K mg g' d.2 (kvs.map (·.2))) (q : OutA K mg (fun g p v => RelP K mg g p v) g0 σ W (.ok (.obj g'.s.n) (g'.s.new (.dct false d.1 d.2))) Q) : Q (.ref D) g'.H := by
  refine q (g'.adopt D (.dct false d.1 d.2)) (.ref D) (adopt_ext x h0) (adopt_ok ok hid (.inl ⟨rfl, kvs, hid.at_, h1, h2⟩)) rfl ?_
  simp only [RelP]
  exact ⟨Nat.lt_succ_self _, by simp⟩
theorem ie_disp {keys : List (Option Expr)} {values : List Expr} {fs : List (EX × EX)} (h : IPs X W pos keys values fs) (hall : keys.all (·.isSome) = true := by rfl) (hl : keys.length = values.length := by rfl) (h0 : keys ≠ [] := by exact nofun)
    (h15 : keys.length ≤ 15 := by decide) : IE X W (.Dict keys values pos) (eDisp fs) :=
  PE.weak (pe_frz (pe_disp h hall hl h0 h15)) fun σ H Q q => disp_run (fin := fun d s => .ok (.dct false d.1 d.2) s) q fun g g' D d kvs ok hD x ok' hid h1 h2 q => frz_fin ok hD x ok' hid h1 h2 q
theorem ie_dispM {keys : List (Option Expr)} {values : List Expr} {fs : List (EX × EX)} (h : IPs X W pos keys values fs) (hall : keys.all (·.isSome) = true := by rfl) (hl : keys.length = values.length := by rfl) (h0 : keys ≠ [] := by exact nofun)
    (h15 : keys.length ≤ 15 := by decide) : IE X W (.Dict keys values pos) (eDispM fs) :=
  PE.weak (pe_disp h hall hl h0 h15) fun σ H Q q => disp_run (fin := fun d s => .ok (.obj s.n) (s.new (.dct false d.1 d.2))) q fun g g' D d kvs ok hD x ok' hid h1 h2 q => live_fin ok hD x ok' hid h1 h2 q
theorem ie_newK : IE X W (.Dict [] [] pos) (eNewD false) :=
  PE.weak pe_dnewK fun σ H Q q p hp => by
    obtain ⟨g, env, rfl, ok, re, q⟩ := q
    exact live_fin (d := ([], [])) (kvs := []) ok hp (G.new_ext hp) (G.new_ok ok hp) (new_hid ok hp trivial) rfl RelPs.nil q
theorem ie_newT : IE X W (.Dict [] [] pos) (eNewD true) :=
  PE.weak pe_dnewT fun σ H Q q p hp => by
    obtain ⟨g, env, rfl, ok, re, q⟩ := q
    refine q ((g.new p (.dT [])).adopt p (.dct true [] [])) (.ref p) (adopt_ext (G.new_ext hp) hp) (adopt_ok (G.new_ok ok hp) (new_hid (u := .dT []) ok hp trivial) (.inr ⟨rfl, [], upd_same, rfl, RelPs.nil⟩)) rfl ?_
    simp only [RelP]
    exact ⟨Nat.lt_succ_self _, by simp⟩
end
end
end Mr
namespace Mr
noncomputable section
open PySem PySem.Spec PyProof.Rows L2
/-! ### dict comprehensions -/
section
variable {X : Cx} {W : WY} {ek ev tg iter : Expr} {ifs : List Expr} {scope : Scope} {own : List (Str × Nat)} {pos : Pos} {fi : Env → MS → Res (List PV)} {as : AS} {tt : ET} {tk tv : EX} {ts : List Nat}
theorem tDc_of {K : PySem.W.Frag} {mg : MG} {σ : L2.St} {H : Hp} {Q : VK} {vs : List Nat} (hts : ∀ i ∈ ts, i ∈ vs) (q : RdE K mg W (eDComp vs fi as tt tk tv) σ H Q) :
    tFrz (tDc (RdA K mg (ItRel K mg) W fi) (RdG K mg none ts as) (RdT K mg W0 tt) (RdE K mg W0 tk) (RdE K mg W0 tv) vs) σ H Q := by
  unfold tFrz tDc
  refine (RdA.seq (R := ItRel K mg) (f := fi) (k := fun xs e s => if xs.length ≤ LIM then (dcompM as tt tk tv (wipeE e vs) xs ([], []) s).calm.bind fun d s => Res.ok (PV.dct false d.1 d.2) s else Res.stuck) q).imp fun J H1 q => ?_
  obtain ⟨xs, g, env, rfl, ok, re, J0, q⟩ := q
  intro D hD
  by_cases hl : xs.length ≤ LIM
  · simp only [hl, if_true] at q
    let P : Nat → Hp → Prop := fun i H => ∃ g1 d kvs, g1.H = H ∧ g1.Ok K mg ∧ Ext g g1 ∧ HidU g1 D (.dK kvs) ∧ d.1 = kvs.map (fun q => pvKey q.1) ∧ RelPs K mg g1 d.2 (kvs.map (·.2)) ∧ kvs.length ≤ i ∧
      OutA K mg (fun g p v => RelP K mg g p v) g σ W ((dcompM as tt tk tv (wipeE env vs) (xs.drop i) d g1.s).calm.bind fun d s => Res.ok (PV.dct false d.1 d.2) s) Q
    refine ⟨fun i m H => m = xs.length - i ∧ i ≤ xs.length ∧ P i H, ⟨xs.length, by simp, Nat.zero_le _, ?_⟩, ?_⟩
    · refine ⟨g.new D (.dK []), ([], []), [], rfl, G.new_ok ok hD, G.new_ext hD, new_hid ok hD trivial, rfl, RelPs.nil, Nat.le_refl _, ?_⟩
      rw [List.drop_zero]
      exact q
    · rintro i m H ⟨rfl, hi, g1, d, kvs, rfl, ok1, x1, hid, d1, d2, hai, fin⟩
      by_cases hlt : i < xs.length
      · obtain ⟨p, hp⟩ : ∃ p, xs[i]? = some p := ⟨xs[i], by simp [hlt]⟩
        have J1 := J0 g1 (x1.keeps ok) ok1 i
        obtain ⟨hgo, hy⟩ := J1.1 p hp
        refine .inr ⟨hgo, P (i + 1), fun H' h => ⟨xs.length - (i + 1), by omega, rfl, hlt, h⟩, fun x H' hyl => ?_⟩
        obtain ⟨g2, rfl, x2, ok2, e2, rp⟩ := hy x H' hyl
        have hdrop : xs.drop i = p :: xs.drop (i + 1) := by
          rw [List.drop_eq_getElem_cons hlt]
          congr 1
          exact (List.getElem?_eq_some_iff.mp hp).2
        rw [hdrop] at fin
        simp only [dcompM] at fin
        cases ha : as p (wipeE env vs) g1.s with
        | none => rw [ha] at fin; exact fin.elim
        | some es =>
          obtain ⟨env', s3⟩ := es
          rw [ha] at fin
          dsimp only at fin
          have x12 := x1.trans ok ok1 x2
          have hid2 := hid.ext ok1 x2
          refine ⟨g2, p, wipeE env vs, env', s3, rfl, ok2, rp, (re.ext ok x12).wipe vs, by rw [e2]; exact ha, fun g3 σ3 x3 ok3 e3 re3 k3 l3 => ?_⟩
          have x13 := x12.trans ok ok2 x3
          have hid3 := hid2.ext ok2 x3
          have l3' : σ3.length = (L2.wipe σ vs).length := l3
          refine ⟨by
            rw [wipe_congr (σ := L2.wipe σ vs) l3' (fun j hj => k3 j fun z => hj (hts j z))]
            exact wipe_congr (L2.wipe_length σ vs) (fun j hj => L2.wipe_out hj), g3, env', rfl, ok3, re3, ?_⟩
          subst e3
          revert fin
          cases tt env' g3.s with
          | exc c p s' => exact fun h => h.elim
          | stuck => exact id
          | ok b s4 =>
            simp only [bind_ok]
            intro fin g4 b' x4 ok4 e4 hb
            subst hb
            have x14 := x13.trans ok ok3 x4
            have hid4 := hid3.ext ok3 x4
            have ra4 := ((d2.ext ok1 x2).ext ok2 x3).ext ok3 x4
            cases b with
            | false =>
              simp only [if_neg Bool.false_ne_true] at fin ⊢
              subst e4
              exact ⟨g4, d, kvs, rfl, ok4, x14, hid4, d1, ra4, by omega, fin⟩
            | true =>
              simp only [if_true] at fin ⊢
              refine ⟨g4, env', rfl, ok4, re3.ext ok3 x4, ?_⟩
              subst e4
              revert fin
              cases tk env' g4.s with
              | exc c p s' => exact fun h => h.elim
              | stuck => exact id
              | ok y s5 =>
                simp only [bind_ok]
                intro fin g5 v x5 ok5 e5 r5
                have hid5 := hid4.ext ok4 x5
                have ra5 := ra4.ext ok4 x5
                have x15 := x14.trans ok ok4 x5
                refine ⟨g5, env', rfl, ok5, (re3.ext ok3 x4).ext ok4 x5, ?_⟩
                subst e5
                revert fin
                cases tv env' g5.s with
                | exc c p s' => exact fun h => h.elim
                | stuck => exact id
                | ok z s6 =>
                  simp only [bind_ok]
                  intro fin g6 w x6 ok6 e6 r6
                  have hid6 := hid5.ext ok5 x6
                  have ra6 := ra5.ext ok5 x6
                  have x16 := x15.trans ok ok5 x6
                  have r5' := r5.ext ok5 x6
                  subst e6
                  by_cases hk : isKey false y = true
                  · rw [if_pos hk] at fin
                    obtain ⟨kk, rfl, rfl⟩ := key_of hk r5'
                    obtain ⟨p1, p2⟩ := put_pk (k := kk) r6 ra6
                    rw [← d1] at p1 p2
                    refine ⟨kvs, kk, rfl, hid6.at_, ?_, ?_⟩
                    · rw [← sizeLIM]; omega
                    · have hl6 := length_putK kvs kk w
                      exact ⟨{ g6 with H := upd g6.H D (.dK (putK kvs kk w)) }, dput d.1 d.2 (pvKey kk) z, putK kvs kk w, rfl, hid6.ok ok6, HidU.extRe x16 hD, hid6.re trivial, p1, p2.keep hid6.keeps, by omega, fin⟩
                  · rw [if_neg hk] at fin; exact fin.elim
      · have e : i = xs.length := by omega
        subst e
        refine .inl ⟨(J0 g1 (x1.keeps ok) ok1 _).2 (Nat.le_refl _), ?_⟩
        rw [List.drop_length] at fin
        exact frz_fin ok hD x1 ok1 hid d1 d2 fin
  · simp only [hl, if_false] at q
    exact q.elim
theorem ie_dc (hc : X.calm = true) (hN : X.N.Nodup) (hi : II X W tg iter fi) (ok : BlkOk X.N X.env.scope scope own)
    (hg : ∀ (s : Shared) (H : Hp) (C : Addr) (cl : List (Str × Addr)) (fp : List Addr), IG (X.blk s H scope (compEnvC scope cl C X.env) fp) none tg ts as) (ht : ∀ (s : Shared) (H : Hp) (C : Addr) (cl : List (Str × Addr)) (fp : List Addr), ITs (X.blk s H scope (compEnvC scope cl C X.env) fp) W0 ifs tt)
    (hk : ∀ (s : Shared) (H : Hp) (C : Addr) (cl : List (Str × Addr)) (fp : List Addr), IE (X.blk s H scope (compEnvC scope cl C X.env) fp) W0 ek tk) (he : ∀ (s : Shared) (H : Hp) (C : Addr) (cl : List (Str × Addr)) (fp : List Addr), IE (X.blk s H scope (compEnvC scope cl C X.env) fp) W0 ev tv)
    (hts : ∀ i ∈ ts, i ∈ own.map (·.2) := by decide) (hs : ∀ x, foldedSetIterable iter X.env x = pure x := by intro _; rfl) :
    IE X W (.DictComp ek ev [⟨tg, iter, ifs, 0⟩] scope pos) (eDComp (own.map (·.2)) fi as tt tk tv) :=
  PE.weak (pe_frz (pe_dc hc hN hi ok hg ht hk he hs)) fun σ H Q q => tDc_of hts q
end
end
end Mr
namespace Mr
noncomputable section
open PySem PySem.Spec PyProof.Rows L2
/-! ### a, b = x, y with plain names -/
def setAll : List Nat → List PV → Env → Option Env
  | [], [], e => some e
  | i :: is, p :: ps, e => setAll is ps (e.set i (some p))
  | _, _, _ => none
def sPar (is : List Nat) (fs : List EX) : SX := fun e s => (eList fs e s).sbind e fun xs s => match setAll is xs e with
  | some e => .nx e s
  | none => .stuck
section
variable {K : PySem.W.Frag} {mg : MG} {g g' : G} {X : Cx} {W : WY} {pos : Pos} {fs : List EX}
theorem par_of {is : List Nat} {D : Ends} {σ : L2.St} {H : Hp} (q : RdS K mg W (sPar is fs) D σ H) : RdL K mg W (eList fs) σ H fun vs H1 => ∃ g env e ps, g.H = H1 ∧ g.Ok K mg ∧ RelEnv K mg W.b g env σ ∧ RelPs K mg g ps vs ∧ setAll is ps env = some e ∧
    ∀ σ', RelEnv K mg W.b g e σ' → D.nx σ' H1 := by
  refine (RdS.seq (R := fun g p v => RelPs K mg g p v) (d := fun xs e s => match setAll is xs e with
    | some e => .nx e s
    | none => .stuck) q).imp fun vs H1 q => ?_
  obtain ⟨p, g, env, rfl, ok, re, r, q⟩ := q
  cases hz : setAll is p env with
  | none => rw [hz] at q; exact q.elim
  | some e =>
    rw [hz] at q
    exact ⟨g, env, e, p, rfl, ok, re, r, hz, fun σ' re' => q g σ' (Ext.refl g) ok rfl re'⟩
theorem is_par2 {i j : Nat} {x y : Str} {a b : Expr} {px py pt : Pos} {kt k2 pt2} (hc : X.calm = true) (hN : X.N.Nodup) (ha : IA X W [a, b] (eList fs)) (hi : X.N[i]? = some x := by rfl) (hj : X.N[j]? = some y := by rfl) (hij : i ≠ j := by decide)
    (hx : X.env.scope.names.lookup x = some .local := by rfl) (hy : X.env.scope.names.lookup y = some .local := by rfl)
    (hw : swappedStores [.Tuple [.Name x px, .Name y py] kt pt] (.Tuple [a, b] k2 pt2) X.env = pure (some [x, y]) := by rfl)
    (hs : swapsWithSole [.Tuple [.Name x px, .Name y py] kt pt] (.Tuple [a, b] k2 pt2) pos.line X.env = pure false := by rfl)
    (hB : ∀ b, W.b = some b → b.1 ≠ i ∧ b.1 ≠ j := by intro b h; cases h <;> (dsimp only; decide)) :
    IS X W (.Assign [.Tuple [.Name x px, .Name y py] kt pt] (.Tuple [a, b] k2 pt2) pos) (sPar [i, j] fs) := PS.weak (ps_par hc hN hi hj hij hx hy ha hw hs) fun D σ H q => by
  unfold tPar
  refine (par_of q).imp fun vs H1 q => ?_
  obtain ⟨g, env, e, ps, rfl, ok, re, r, hz, q⟩ := q
  cases ps with
  | nil => simp [setAll] at hz
  | cons p ps =>
    cases ps with
    | nil => simp [setAll] at hz
    | cons p2 ps =>
      cases ps with
      | nil =>
        simp only [setAll, Option.some.injEq] at hz
        subst hz
        simp only [RelPs] at r
        obtain ⟨v, _, rfl, r1, w, _, rfl, r2, rfl⟩ := r
        exact ⟨v, w, rfl, q _ ((re.set i r1 fun b h => (hB b h).1).set j r2 fun b h => (hB b h).2)⟩
      | cons _ _ => simp [setAll] at hz
theorem is_par3 {i j l : Nat} {x y z : Str} {a b c : Expr} {px py pz pt : Pos} {kt k2 pt2} (hc : X.calm = true) (hN : X.N.Nodup) (ha : IA X W [a, b, c] (eList fs)) (hi : X.N[i]? = some x := by rfl) (hj : X.N[j]? = some y := by rfl) (hl : X.N[l]? = some z := by rfl) (hij : i ≠ j := by decide)
    (hil : i ≠ l := by decide) (hjl : j ≠ l := by decide) (hx : X.env.scope.names.lookup x = some .local := by rfl) (hy : X.env.scope.names.lookup y = some .local := by rfl) (hz : X.env.scope.names.lookup z = some .local := by rfl)
    (hw : swappedStores [.Tuple [.Name x px, .Name y py, .Name z pz] kt pt] (.Tuple [a, b, c] k2 pt2) X.env = pure (some [x, y, z]) := by rfl)
    (hs : swapsWithSole [.Tuple [.Name x px, .Name y py, .Name z pz] kt pt] (.Tuple [a, b, c] k2 pt2) pos.line X.env = pure false := by rfl)
    (hB : ∀ b, W.b = some b → b.1 ≠ i ∧ b.1 ≠ j ∧ b.1 ≠ l := by intro b h; cases h <;> (dsimp only; decide)) :
    IS X W (.Assign [.Tuple [.Name x px, .Name y py, .Name z pz] kt pt] (.Tuple [a, b, c] k2 pt2) pos) (sPar [i, j, l] fs) := PS.weak (ps_par3 hc hN hi hj hl hij hil hjl hx hy hz ha hw hs) fun D σ H q => by
  unfold tPar3
  refine (par_of q).imp fun vs H1 q => ?_
  obtain ⟨g, env, e, ps, rfl, ok, re, r, hz, q⟩ := q
  cases ps with
  | nil => simp [setAll] at hz
  | cons p ps =>
    cases ps with
    | nil => simp [setAll] at hz
    | cons p2 ps =>
      cases ps with
      | nil => simp [setAll] at hz
      | cons p3 ps =>
        cases ps with
        | nil =>
          simp only [setAll, Option.some.injEq] at hz
          subst hz
          simp only [RelPs] at r
          obtain ⟨v, _, rfl, r1, w, _, rfl, r2, w3, _, rfl, r3, rfl⟩ := r
          exact ⟨v, w, w3, rfl, q _ (((re.set i r1 fun b h => (hB b h).1).set j r2 fun b h => (hB b h).2.1).set l r3 fun b h => (hB b h).2.2)⟩
        | cons _ _ => simp [setAll] at hz
/-! ### more methods of texts -/
theorem m_upper : MtR X "str.upper" (MtM' X.K X.mg mUpper) := by
  intro pins s σ H x xs v us Q I rx rv ⟨g, p, ps, z, eH, ok, r1, r2, hz, q⟩
  subst eH
  unfold mUpper at hz
  split at hz
  · rename_i a
    split at hz
    · rename_i hl
      cases hz
      obtain rfl := relS r1
      obtain rfl : xs = [] := r2
      refine mt_upper pins s σ g.H _ _ v us Q I rx rv ⟨_, rfl, rfl, by rw [strlen]; exact hl, ?_⟩
      have e : (⟨(upL a).toArray⟩ : Str) = Txt.upper ⟨a.toArray⟩ := by unfold upL; rfl
      exact e ▸ fin_str ok q
    · cases hz
  · cases hz
theorem cnt_count (c : Nat) : ∀ l : List Nat, cnt c l = (l.count c : Int)
  | [] => rfl
  | x :: l => by
    rw [List.count_cons, cnt_cons, cnt_count c l]
    by_cases h : x = c <;> simp [h] <;> omega
theorem m_count : MtR X "str.count" (MtM' X.K X.mg mCount) := by
  intro pins s σ H x xs v us Q I rx rv ⟨g, p, ps, z, eH, ok, r1, r2, hz, q⟩
  subst eH
  unfold mCount at hz
  split at hz
  · rename_i a c
    cases hz
    obtain rfl := relS r1
    obtain ⟨w, rfl, r3⟩ := r2.one
    obtain rfl := relS r3
    refine mt_count pins s σ g.H _ _ v us Q I rx rv ⟨_, _, rfl, rfl, ?_⟩
    have e : ((a.count c : Nat) : Int) = Txt.count ⟨a.toArray⟩ ⟨#[c]⟩ := by
      rw [count_cnt]; exact (cnt_count c a).symm
    exact e ▸ fin_int ok q
  · cases hz
end
end
end Mr
namespace Mr.EG
open PySem PySem.W PySem.Calls PyProof.Rows PySem.HandSPX
/-! ### errors that keep what they are made with, by the name given -/
def prm (a b : Pos) : Arguments := { posonlyargs := [], args := [⟨"self", none, a⟩, ⟨"given", none, b⟩], vararg := none, kwonlyargs := [], kw_defaults := [], kwarg := none, defaults := [] }
def txt (a b c d : Pos) : List Stmt := [.Assign [.Attribute (.Name "self" a) "given" b] (.Name "given" c) d]
def sco : Scope := { kind := .function, names := [(Str.ofString "self", .local), (Str.ofString "given", .local)], isGenerator := false, isCoroutine := false, more := [] }
/-- what stands written of the class cl, at C, its first function at f -/
structure Txt (K : Frag) (mg : Str → Option Value) (cl : Str) (C f : Addr) : Prop where
  g : mg cl = some (.ref C)
  c : ∃ (n q : Str) (N : Addr) (bs bm : List Value) (sn : List Str) (sub : List Value) (ab : Bool) (col : Option Bool) (dd : Option Addr) (k0 k1 k2 k3 k5 : Option Value), K.lookup C = some (excClassObj n q C N bs bm true sn sub ab col dd k0 k1 k2 k3 k5 "ValueError.__new__") ∧ refsVE bm = true
  set_ : findIn K (.ref C) "__setattr__" = some (some (.builtin "object.__setattr__"))
  get_ : findIn K (.ref C) "__getattribute__" = some (some (.builtin "BaseException.__getattribute__"))
  gat_ : findIn K (.ref C) "__getattr__" = some none
  non_ : findIn K (.ref C) "given" = some none
  ini_ : findIn K (.ref C) "__init__" = some (some (.ref f))
  fty : typeIn K (.ref f) = some (.type "function")
  kee : keepIn K (.ref C) = true
  bas : subIn K (.ref C) (.type "BaseException") = some true
  cty : typeIn K (.ref C) = some (.type "type")
  dic : hasDictIn K C = true
  fun_ : ∃ (qn : Str) (oc : Value) (od : Option Addr) (doc pm : Value) (an : Option Addr) (cdv ct : Value) (osl : Array (Option Value)) (a b c d e h : Pos),
    K.lookup f = some ⟨oc, od, .func (fnOf "__init__" qn (prm a b) (txt c d e h) sco .none .none doc pm an cdv ct), osl⟩ ∧ codeIn K cdv qn = true
theorem fits1 (v : Value) : ([v] : List Value).length ≤ sizeLine := by rw [sizeLine_eq]; exact (by decide : (1 : Nat) ≤ 16777216)
theorem kin_but {K : Frag} {h h' : Heap} {x : Addr} (k0 : K.In h) (kx : K.lookup x = none) (kk : ∀ b o, b ≠ x → h.get? b = some o → h'.get? b = some o) : K.In h' :=
  fun b o q => kk b o (fun z => by rw [z, kx] at q; cases q) (k0 b o q)
theorem ldL {M : Model} {s : Shared} {nm x : Str} {sc : Scope} {fr a : Addr} {cd : Value} {m : Str → Option Value} {pos : Pos} {v : Value} {Q : Value → Shared → Prop} {A : Around} {E : Value → Shared → Prop} (ns : s.heap.Ns fr m) (mv : m x = some v) (q : Q v s)
    (k1 : sc.kind = .function := by rfl) (k2 : (envOfC nm sc fr a cd).kindOf x = some .local := by rfl) (k3 : (x == ("__debug__" : Str)) = false := by decide) :
    wpAny M A (eval (.Name x pos) (envOfC nm sc fr a cd)) Q E s := wpAny_Name (wpAny_loadName_local k1 k2 ns mv q) k3
/-- a new one, its field laid -/
structure Laid (h h' : Heap) (x C dx t : Addr) (v : Value) : Prop where
  kp : ∀ b o, b ≠ x → h.get? b = some o → h'.get? b = some o
  ob : h'.get? x = some { cls := .ref C, dict := some dx, data := .fields #[.ref t, .none, .none, .none, .bool false, .none] }
  lo : h.objs.size ≤ dx
  ne : dx ≠ x
  fld : h'.Ns1 dx (fun y => if y = "given" then some v else none)
structure Born (h h' : Heap) (e C d : Addr) (v : Value) : Prop where
  kp : ∀ b o, h.get? b = some o → h'.get? b = some o
  lo : h.objs.size ≤ e
  ob : ∃ oe fs, h'.get? e = some oe ∧ oe.cls = .ref C ∧ oe.dict = some d ∧ oe.data = .fields fs ∧ fs[1]? = some .none
  dlo : h.objs.size ≤ d
  ne : d ≠ e
  fld : h'.Ns1 d (fun y => if y = "given" then some v else none)
section
variable {prog : Program} {w : World} {A : Around} {E : Value → Shared → Prop} {R : Result → Shared → Prop} {s : Shared} {K : Frag} {mg : Str → Option Value} {C f : Addr} {cl : Str}
theorem runs_init (T : Txt K mg cl C f) {x t : Addr} {v : Value} (ki : K.In s.heap) (nl : s.heap.NoLimit) (gx : s.heap.get? x = some (excO C t)) (kx : K.lookup x = none) (dep : A.depth < recursionLimit)
    (fin : ∀ h' tk dx, Laid s.heap h' x C dx t v → R (.ok (.ret .none)) { s with heap := h', toks := tk }) :
    codeAny (model prog w) A (.call (.ref f) ⟨[.ref x, v], []⟩) R s := by
  obtain ⟨qn, oc, od, doc, pm, an, cdv, ct, osl, a, b, c, d, e, hh, ho, hcd⟩ := T.fun_
  obtain ⟨n, q, N, bs, bm, sn, sub, ab, col, dd, k0, k1, k2, k3, k5, lc, mro⟩ := T.c
  have cd : clsIn K C = some { name := n, bases := bs, mro := .ref C :: bm, ns := N, qualname := q, hasDict := true, slotNames := sn, subclasses := sub, abstract := ab, collection := col, hasDel := false } := by unfold clsIn; rw [lc] <;> rfl
  refine Att.call_fn (binds := [("self", .ref x), ("given", v)]) ki nl ho hcd dep (BindsTo.of_eq (by first | rfl | with_unfolding_all rfl)) (by first | rfl | decide | with_unfolding_all rfl) (fun s₁ ic => ?_) rfl rfl rfl
  obtain ⟨h₁, tk₁, rfl⟩ := ic.toInCall.same
  have old : ∀ b o, s.heap.get? b = some o → h₁.get? b = some o := ic.toInCall.keep
  have ns := ic.toInCall.ns
  have ki₁ : K.In h₁ := ki.keeps old
  have gx₁ := old _ _ gx
  have lt : s.heap.objs.size < h₁.objs.size := ns.lt
  show wpAny _ _ (execs _ _) _ _ _
  refine wpAny_execs_cons (plainObj_wpAny_Assign_Attribute ?_)
  refine ldL (v := v) ns (by first | rfl | with_unfolding_all rfl | kernel_rfl) (ldL (v := .ref x) ns (by first | rfl | with_unfolding_all rfl | kernel_rfl) ?_)
  refine set_plain ki₁ (ox := excO C t) (od := none) ⟨gx₁, rfl, rfl, trivial⟩ T.set_ ?_
  refine exc_osa ki₁ gx₁ cd (show refsVE (.ref C :: bm) = true from mro) rfl T.non_ (fun h₃ tk₃ dx kk lo ne gx₃ fl => ?_)
  show wpAny _ _ (execs _ _) _ _ _
  exact wpAny_execs_nil (fin h₃ tk₃ dx ⟨fun b o hb z => kk b o hb (old b o z), gx₃, Nat.le_of_lt (Nat.lt_of_lt_of_le lt lo), ne, fl⟩)
theorem runs_made (T : Txt K mg cl C f) {v : Value} (ki : K.In s.heap) (nl : s.heap.NoLimit) (dep : A.depth + 1 < recursionLimit)
    (fin : ∀ h' tk e d, Born s.heap h' e C d v → R (.ok (.ret (.ref e))) { s with heap := h', toks := tk }) : codeAny (model prog w) A (.call (.ref C) ⟨[v], []⟩) R s := by
  obtain ⟨n, q, N, bs, bm, sn, sub, ab, col, dd, k0, k1, k2, k3, k5, lc, mro⟩ := T.c
  obtain ⟨hp, g, dr, tk, os⟩ := s
  have up : ∀ b o, hp.get? b = some o → ((hp.push (kdv_tup [v])).push (excO C hp.objs.size)).get? b = some o := fun b o z => Heap.get?_push_of_some _ (Heap.get?_push_of_some _ z)
  have here : ((hp.push (kdv_tup [v])).push (excO C hp.objs.size)).get? (hp.objs.size + 1) = some (excO C hp.objs.size) := by heap_get
  have out : K.lookup (hp.objs.size + 1) = none := by
    rcases z : K.lookup (hp.objs.size + 1) with _ | o
    · rfl
    · have y : hp.get? (hp.objs.size + 1) = some o := ki _ _ z
      exact (Nat.lt_irrefl _ (Nat.lt_of_succ_lt (Heap.lt_size y))).elim
  refine call_own F.excBase_ValueError (fun X => refsVE_contains X bm mro) (ki _ _ lc) (looks_findIn ki T.ini_) (fun self => bind_fn ki self T.fty) (fits1 v) ?_
  refine runs_init (s := ⟨(hp.push (kdv_tup [v])).push (excO C hp.objs.size), g, dr, tk, os⟩) T (ki.keeps up) (nl.keeps up) here out dep fun h' tk' dx ⟨kk, gx, lo, ne, fl⟩ => ?_
  have old : ∀ b o, hp.get? b = some o → h'.get? b = some o := fun b o z => kk b o (Nat.ne_of_lt (Nat.lt_succ_of_lt (Heap.lt_size z))) (up b o z)
  have z : hp.objs.size + 2 ≤ dx := by
    have q := lo
    first
      | (simpa only [Heap.size_push] using q)
      | exact q
      | (rw [Heap.size_push, Heap.size_push] at q; exact q)
  exact ⟨rfl, fin h' tk' (hp.objs.size + 1) dx ⟨old, Nat.le_succ _, ⟨_, _, gx, rfl, rfl, rfl, rfl⟩, Nat.le_trans (Nat.le_add_right _ 2) z, ne, fl⟩⟩
end
end Mr.EG
namespace Mr.EG
open PySem PySem.Spec PyProof.Rows L2
theorem fld_rel {v : V} {u : Value} (r : RelV v u) (y : Str) : L2.RelO (List.lookup y [(("given" : Str), v)]) (if y = "given" then some u else none) := by
  by_cases z : y = "given"
  · subst z
    rw [if_pos rfl, show List.lookup ("given" : Str) [(("given" : Str), v)] = some v by simp [List.lookup]]
    exact r
  · have zb : (y == ("given" : Str)) = false := by simpa using z
    rw [if_neg z, show List.lookup y [(("given" : Str), v)] = none by simp [List.lookup, zb]]
    trivial
section
variable {X : Cx} {C f : Addr} {cl : Str}
def tMk (C : Addr) (ta : TA) : L2.St → Hp → XK → Prop := fun σ H Q => ta σ H fun vs H1 => ∃ v, vs = [v] ∧ ∀ d, H1 d = none → Q (.ref C) (some d) (upd H1 d (.xd [(("given" : Str), v)]))
theorem pmk {a : Expr} {ta : TA} {p pos : Pos} {k : Nat} (T : Txt X.K X.mg cl C f) (hr : Room k X.A) (ha : PA X [a] ta) (hg : Gl X cl) (hn : (cl == ("__debug__" : Str)) = false)
    (he : starEach [a] X.env = (false, eval a X.env) :: starEach [] X.env := by rfl) (hpl : (backTo pos (starEach [] X.env)).any (·.1) = false := by rfl) : PMk X (.Call (.Name cl p) [a] [] pos) (tMk C ta) := by
  intro pins s σ H Q I q
  refine wpAny_Call_Name_kw (ld_glob I hg T.g ?_ hn)
  refine PySem.W.callWith_K (h₀ := X.base) I.ok.mod.kin T.kee (thn (ha.run pos pins s σ H _ I q) fun us s1 hh => ?_) he hpl
  obtain ⟨vs, H1, I1, rr, v, rfl, q1⟩ := hh
  refine ⟨I1.kIn, ?_⟩
  rcases rr with _ | @⟨_, u, _, _, rv, rn⟩
  cases rn
  have nl := I1.nolimit
  obtain ⟨hp, g, dr, tk, os⟩ := s1
  show wpAny _ _ (call (.ref C) [u]) _ _ _
  refine wpAny_call (runs_made T I1.kIn nl (by have := hr.dp; omega) fun h' tk' e d B => ?_)
  show MkP X pins σ Q (.ref e) ⟨h', g, dr, tk', os⟩
  obtain ⟨oe, fv, goe, cls, dct, dat, f1⟩ := B.ob
  obtain ⟨G', ga, gn⟩ := restrict h' fun b => decide (b ≠ e)
  have gk : ∀ b, b ≠ e → G'.get? b = h'.get? b := fun b hb => ga b (decide_eq_true hb)
  have gz : G'.get? e = none := gn e (by simp)
  have old : ∀ b o, hp.get? b = some o → G'.get? b = some o := fun b o z => (gk b (Nat.ne_of_lt (Nat.lt_of_lt_of_le (Heap.lt_size z) B.lo))).trans (B.kp b o z)
  have ob : ObjOk X.prog X.w (upd H1 d (.xd [(("given" : Str), v)])) G' d (.xd [(("given" : Str), v)]) := ⟨_, B.fld.at (fun o z => (gk d B.ne).trans z), fun y => fld_rel rv y⟩
  refine ⟨e, oe, fv, ⟨G', g, dr, tk', os⟩, _, .ref C, some d, rfl, I1.laid (t' := tk') old B.dlo ob, fun b o z => ?_, gz, goe, ⟨cls, dct⟩, dat, f1, ?_, rfl, I1.bare, raises_own T.bas T.cty, q1 d (I1.hok.fresh B.dlo)⟩
  · by_cases hb : b = e
    · have z' : G'.get? b = some o := z
      rw [hb, gz] at z'; cases z'
    · exact (gk b hb).symm.trans z
  · rw [upd_ne (Ne.symm B.ne)]
    exact I1.hok.fresh B.lo
/-- e.given, e the error that the suite holds -/
def tFld (C a : Addr) (cls : Value) (d : Option Addr) (te : TE) : TE := fun σ H Q => te σ H fun x H1 => x = .ref a ∧ cls = .ref C ∧ ∃ (dd : Addr) (v : V), d = some dd ∧ H1 dd = some (.xd [(("given" : Str), v)]) ∧ Q v H1
theorem pe_fld {a : Addr} {oe : Obj} {cls : Value} {d : Option Addr} {pn : List (Addr × Obj)} {e : Expr} {te : TE} {pos : Pos} (T : Txt X.K X.mg cl C f) (hz : Zc cls d oe) (hf : ∃ vs, oe.data = .fields vs) (he : PE (X.suite a ((a, oe) :: pn)) e te)
    (hb : attributeBase e "given" X.env (eval e X.env) = eval e X.env := by rfl) : PE (X.suite a ((a, oe) :: pn)) (.Attribute e "given" pos) (tFld C a cls d te) := by
  refine ⟨fun pins s σ H Q I q => ?_⟩
  refine attr_of hb (thn (he.run pins s σ H _ I q) fun u s1 hh => ?_)
  obtain ⟨x, H1, I1, rx, rfl, rfl, dd, v, rfl, gd, q⟩ := hh
  obtain rfl : u = Value.ref a := rx
  obtain ⟨pa, _⟩ := I1.pin (a, oe) (List.mem_append_left _ List.mem_cons_self)
  obtain ⟨vs, dat⟩ := hf
  obtain ⟨m, ns, rr⟩ : ObjOk X.prog X.w H1 s1.heap dd (.xd [(("given" : Str), v)]) := I1.hok dd _ gd
  obtain ⟨od, gdd, lk⟩ := lookIn_ns ns
  obtain ⟨u, hu, ru⟩ := RelO.some_of (v := v) (o := m "given") (by rw [← show List.lookup ("given" : Str) [(("given" : Str), v)] = some v by simp [List.lookup]]; exact rr "given")
  have J : PySem.W.InstAt s1.heap a oe C (some od) := ⟨pa, hz.1, by unfold PySem.W.notCls; rw [dat] <;> rfl, by rw [hz.2]; exact gdd⟩
  exact HandSPX.exc_get I1.kIn J T.get_ T.gat_ T.bas (PySem.W.findObj_own T.dic T.non_ rfl (by rw [lk, hu])) (handed_of ru) ⟨v, H1, I1.tok _, ru, q⟩
end
end Mr.EG
namespace Mr.EG
open PySem PySem.W PySem.Calls PyProof.Rows PySem.HandSPX
/-- the class cl stands written so -/
def In (K : Frag) (cl : Str) : Prop := ∃ C f, nsIn K mainGlobals cl = some (some (.ref C)) ∧ ∀ mg : Str → Option Value, mg cl = some (.ref C) → Txt K mg cl C f
theorem in_of {K : Frag} {cl : Str} {C f : Addr} {n q : Str} {N : Addr} {bs bm : List Value} {sn : List Str} {sub : List Value} {ab : Bool} {col : Option Bool} {dd : Option Addr} {k0 k1 k2 k3 k5 : Option Value}
    {qn : Str} {oc : Value} {od : Option Addr} {doc pm : Value} {an : Option Addr} {cdv ct : Value} {osl : Array (Option Value)} (a b c d e h : Pos)
    (h1 : nsIn K mainGlobals cl = some (some (.ref C))) (h2 : K.lookup C = some (excClassObj n q C N bs bm true sn sub ab col dd k0 k1 k2 k3 k5 "ValueError.__new__")) (h3 : refsVE bm = true)
    (h4 : findIn K (.ref C) "__setattr__" = some (some (.builtin "object.__setattr__"))) (h5 : findIn K (.ref C) "__getattribute__" = some (some (.builtin "BaseException.__getattribute__"))) (h6 : findIn K (.ref C) "__getattr__" = some none)
    (h7 : findIn K (.ref C) "given" = some none) (h8 : findIn K (.ref C) "__init__" = some (some (.ref f))) (h9 : typeIn K (.ref f) = some (.type "function")) (h10 : keepIn K (.ref C) = true) (h11 : subIn K (.ref C) (.type "BaseException") = some true)
    (h12 : typeIn K (.ref C) = some (.type "type")) (h13 : hasDictIn K C = true) (h14 : K.lookup f = some ⟨oc, od, .func (fnOf "__init__" qn (prm a b) (txt c d e h) sco .none .none doc pm an cdv ct), osl⟩) (h15 : codeIn K cdv qn = true) : In K cl :=
  ⟨C, f, h1, fun mg hm => ⟨hm, ⟨n, q, N, bs, bm, sn, sub, ab, col, dd, k0, k1, k2, k3, k5, h2, h3⟩, h4, h5, h6, h7, h8, h9, h10, h11, h12, h13, ⟨qn, oc, od, doc, pm, an, cdv, ct, osl, a, b, c, d, e, h, h14, h15⟩⟩⟩
end Mr.EG
namespace Mr.EI
open PySem PySem.W PySem.Calls PyProof.Rows PySem.HandSPX
/-! ### errors that keep what they are made with, by the name index -/
def prm (a b : Pos) : Arguments := { posonlyargs := [], args := [⟨"self", none, a⟩, ⟨"index", none, b⟩], vararg := none, kwonlyargs := [], kw_defaults := [], kwarg := none, defaults := [] }
def txt (a b c d : Pos) : List Stmt := [.Assign [.Attribute (.Name "self" a) "index" b] (.Name "index" c) d]
def sco : Scope := { kind := .function, names := [(Str.ofString "self", .local), (Str.ofString "index", .local)], isGenerator := false, isCoroutine := false, more := [] }
/-- what stands written of the class cl, at C, its first function at f -/
structure Txt (K : Frag) (mg : Str → Option Value) (cl : Str) (C f : Addr) : Prop where
  g : mg cl = some (.ref C)
  c : ∃ (n q : Str) (N : Addr) (bs bm : List Value) (sn : List Str) (sub : List Value) (ab : Bool) (col : Option Bool) (dd : Option Addr) (k0 k1 k2 k3 k5 : Option Value), K.lookup C = some (excClassObj n q C N bs bm true sn sub ab col dd k0 k1 k2 k3 k5 "ValueError.__new__") ∧ refsVE bm = true
  set_ : findIn K (.ref C) "__setattr__" = some (some (.builtin "object.__setattr__"))
  get_ : findIn K (.ref C) "__getattribute__" = some (some (.builtin "BaseException.__getattribute__"))
  gat_ : findIn K (.ref C) "__getattr__" = some none
  non_ : findIn K (.ref C) "index" = some none
  ini_ : findIn K (.ref C) "__init__" = some (some (.ref f))
  fty : typeIn K (.ref f) = some (.type "function")
  kee : keepIn K (.ref C) = true
  bas : subIn K (.ref C) (.type "BaseException") = some true
  cty : typeIn K (.ref C) = some (.type "type")
  dic : hasDictIn K C = true
  fun_ : ∃ (qn : Str) (oc : Value) (od : Option Addr) (doc pm : Value) (an : Option Addr) (cdv ct : Value) (osl : Array (Option Value)) (a b c d e h : Pos),
    K.lookup f = some ⟨oc, od, .func (fnOf "__init__" qn (prm a b) (txt c d e h) sco .none .none doc pm an cdv ct), osl⟩ ∧ codeIn K cdv qn = true
theorem fits1 (v : Value) : ([v] : List Value).length ≤ sizeLine := by rw [sizeLine_eq]; exact (by decide : (1 : Nat) ≤ 16777216)
theorem kin_but {K : Frag} {h h' : Heap} {x : Addr} (k0 : K.In h) (kx : K.lookup x = none) (kk : ∀ b o, b ≠ x → h.get? b = some o → h'.get? b = some o) : K.In h' :=
  fun b o q => kk b o (fun z => by rw [z, kx] at q; cases q) (k0 b o q)
theorem ldL {M : Model} {s : Shared} {nm x : Str} {sc : Scope} {fr a : Addr} {cd : Value} {m : Str → Option Value} {pos : Pos} {v : Value} {Q : Value → Shared → Prop} {A : Around} {E : Value → Shared → Prop} (ns : s.heap.Ns fr m) (mv : m x = some v) (q : Q v s)
    (k1 : sc.kind = .function := by rfl) (k2 : (envOfC nm sc fr a cd).kindOf x = some .local := by rfl) (k3 : (x == ("__debug__" : Str)) = false := by decide) :
    wpAny M A (eval (.Name x pos) (envOfC nm sc fr a cd)) Q E s := wpAny_Name (wpAny_loadName_local k1 k2 ns mv q) k3
/-- a new one, its field laid -/
structure Laid (h h' : Heap) (x C dx t : Addr) (v : Value) : Prop where
  kp : ∀ b o, b ≠ x → h.get? b = some o → h'.get? b = some o
  ob : h'.get? x = some { cls := .ref C, dict := some dx, data := .fields #[.ref t, .none, .none, .none, .bool false, .none] }
  lo : h.objs.size ≤ dx
  ne : dx ≠ x
  fld : h'.Ns1 dx (fun y => if y = "index" then some v else none)
structure Born (h h' : Heap) (e C d : Addr) (v : Value) : Prop where
  kp : ∀ b o, h.get? b = some o → h'.get? b = some o
  lo : h.objs.size ≤ e
  ob : ∃ oe fs, h'.get? e = some oe ∧ oe.cls = .ref C ∧ oe.dict = some d ∧ oe.data = .fields fs ∧ fs[1]? = some .none
  dlo : h.objs.size ≤ d
  ne : d ≠ e
  fld : h'.Ns1 d (fun y => if y = "index" then some v else none)
section
variable {prog : Program} {w : World} {A : Around} {E : Value → Shared → Prop} {R : Result → Shared → Prop} {s : Shared} {K : Frag} {mg : Str → Option Value} {C f : Addr} {cl : Str}
theorem runs_init (T : Txt K mg cl C f) {x t : Addr} {v : Value} (ki : K.In s.heap) (nl : s.heap.NoLimit) (gx : s.heap.get? x = some (excO C t)) (kx : K.lookup x = none) (dep : A.depth < recursionLimit)
    (fin : ∀ h' tk dx, Laid s.heap h' x C dx t v → R (.ok (.ret .none)) { s with heap := h', toks := tk }) :
    codeAny (model prog w) A (.call (.ref f) ⟨[.ref x, v], []⟩) R s := by
  obtain ⟨qn, oc, od, doc, pm, an, cdv, ct, osl, a, b, c, d, e, hh, ho, hcd⟩ := T.fun_
  obtain ⟨n, q, N, bs, bm, sn, sub, ab, col, dd, k0, k1, k2, k3, k5, lc, mro⟩ := T.c
  have cd : clsIn K C = some { name := n, bases := bs, mro := .ref C :: bm, ns := N, qualname := q, hasDict := true, slotNames := sn, subclasses := sub, abstract := ab, collection := col, hasDel := false } := by unfold clsIn; rw [lc] <;> rfl
  refine Att.call_fn (binds := [("self", .ref x), ("index", v)]) ki nl ho hcd dep (BindsTo.of_eq (by first | rfl | with_unfolding_all rfl)) (by first | rfl | decide | with_unfolding_all rfl) (fun s₁ ic => ?_) rfl rfl rfl
  obtain ⟨h₁, tk₁, rfl⟩ := ic.toInCall.same
  have old : ∀ b o, s.heap.get? b = some o → h₁.get? b = some o := ic.toInCall.keep
  have ns := ic.toInCall.ns
  have ki₁ : K.In h₁ := ki.keeps old
  have gx₁ := old _ _ gx
  have lt : s.heap.objs.size < h₁.objs.size := ns.lt
  show wpAny _ _ (execs _ _) _ _ _
  refine wpAny_execs_cons (plainObj_wpAny_Assign_Attribute ?_)
  refine ldL (v := v) ns (by first | rfl | with_unfolding_all rfl | kernel_rfl) (ldL (v := .ref x) ns (by first | rfl | with_unfolding_all rfl | kernel_rfl) ?_)
  refine set_plain ki₁ (ox := excO C t) (od := none) ⟨gx₁, rfl, rfl, trivial⟩ T.set_ ?_
  refine exc_osa ki₁ gx₁ cd (show refsVE (.ref C :: bm) = true from mro) rfl T.non_ (fun h₃ tk₃ dx kk lo ne gx₃ fl => ?_)
  show wpAny _ _ (execs _ _) _ _ _
  exact wpAny_execs_nil (fin h₃ tk₃ dx ⟨fun b o hb z => kk b o hb (old b o z), gx₃, Nat.le_of_lt (Nat.lt_of_lt_of_le lt lo), ne, fl⟩)
theorem runs_made (T : Txt K mg cl C f) {v : Value} (ki : K.In s.heap) (nl : s.heap.NoLimit) (dep : A.depth + 1 < recursionLimit)
    (fin : ∀ h' tk e d, Born s.heap h' e C d v → R (.ok (.ret (.ref e))) { s with heap := h', toks := tk }) : codeAny (model prog w) A (.call (.ref C) ⟨[v], []⟩) R s := by
  obtain ⟨n, q, N, bs, bm, sn, sub, ab, col, dd, k0, k1, k2, k3, k5, lc, mro⟩ := T.c
  obtain ⟨hp, g, dr, tk, os⟩ := s
  have up : ∀ b o, hp.get? b = some o → ((hp.push (kdv_tup [v])).push (excO C hp.objs.size)).get? b = some o := fun b o z => Heap.get?_push_of_some _ (Heap.get?_push_of_some _ z)
  have here : ((hp.push (kdv_tup [v])).push (excO C hp.objs.size)).get? (hp.objs.size + 1) = some (excO C hp.objs.size) := by heap_get
  have out : K.lookup (hp.objs.size + 1) = none := by
    rcases z : K.lookup (hp.objs.size + 1) with _ | o
    · rfl
    · have y : hp.get? (hp.objs.size + 1) = some o := ki _ _ z
      exact (Nat.lt_irrefl _ (Nat.lt_of_succ_lt (Heap.lt_size y))).elim
  refine call_own F.excBase_ValueError (fun X => refsVE_contains X bm mro) (ki _ _ lc) (looks_findIn ki T.ini_) (fun self => bind_fn ki self T.fty) (fits1 v) ?_
  refine runs_init (s := ⟨(hp.push (kdv_tup [v])).push (excO C hp.objs.size), g, dr, tk, os⟩) T (ki.keeps up) (nl.keeps up) here out dep fun h' tk' dx ⟨kk, gx, lo, ne, fl⟩ => ?_
  have old : ∀ b o, hp.get? b = some o → h'.get? b = some o := fun b o z => kk b o (Nat.ne_of_lt (Nat.lt_succ_of_lt (Heap.lt_size z))) (up b o z)
  have z : hp.objs.size + 2 ≤ dx := by
    have q := lo
    first
      | (simpa only [Heap.size_push] using q)
      | exact q
      | (rw [Heap.size_push, Heap.size_push] at q; exact q)
  exact ⟨rfl, fin h' tk' (hp.objs.size + 1) dx ⟨old, Nat.le_succ _, ⟨_, _, gx, rfl, rfl, rfl, rfl⟩, Nat.le_trans (Nat.le_add_right _ 2) z, ne, fl⟩⟩
end
end Mr.EI
namespace Mr.EI
open PySem PySem.Spec PyProof.Rows L2
theorem fld_rel {v : V} {u : Value} (r : RelV v u) (y : Str) : L2.RelO (List.lookup y [(("index" : Str), v)]) (if y = "index" then some u else none) := by
  by_cases z : y = "index"
  · subst z
    rw [if_pos rfl, show List.lookup ("index" : Str) [(("index" : Str), v)] = some v by simp [List.lookup]]
    exact r
  · have zb : (y == ("index" : Str)) = false := by simpa using z
    rw [if_neg z, show List.lookup y [(("index" : Str), v)] = none by simp [List.lookup, zb]]
    trivial
section
variable {X : Cx} {C f : Addr} {cl : Str}
def tMk (C : Addr) (ta : TA) : L2.St → Hp → XK → Prop := fun σ H Q => ta σ H fun vs H1 => ∃ v, vs = [v] ∧ ∀ d, H1 d = none → Q (.ref C) (some d) (upd H1 d (.xd [(("index" : Str), v)]))
theorem pmk {a : Expr} {ta : TA} {p pos : Pos} {k : Nat} (T : Txt X.K X.mg cl C f) (hr : Room k X.A) (ha : PA X [a] ta) (hg : Gl X cl) (hn : (cl == ("__debug__" : Str)) = false)
    (he : starEach [a] X.env = (false, eval a X.env) :: starEach [] X.env := by rfl) (hpl : (backTo pos (starEach [] X.env)).any (·.1) = false := by rfl) : PMk X (.Call (.Name cl p) [a] [] pos) (tMk C ta) := by
  intro pins s σ H Q I q
  refine wpAny_Call_Name_kw (ld_glob I hg T.g ?_ hn)
  refine PySem.W.callWith_K (h₀ := X.base) I.ok.mod.kin T.kee (thn (ha.run pos pins s σ H _ I q) fun us s1 hh => ?_) he hpl
  obtain ⟨vs, H1, I1, rr, v, rfl, q1⟩ := hh
  refine ⟨I1.kIn, ?_⟩
  rcases rr with _ | @⟨_, u, _, _, rv, rn⟩
  cases rn
  have nl := I1.nolimit
  obtain ⟨hp, g, dr, tk, os⟩ := s1
  show wpAny _ _ (call (.ref C) [u]) _ _ _
  refine wpAny_call (runs_made T I1.kIn nl (by have := hr.dp; omega) fun h' tk' e d B => ?_)
  show MkP X pins σ Q (.ref e) ⟨h', g, dr, tk', os⟩
  obtain ⟨oe, fv, goe, cls, dct, dat, f1⟩ := B.ob
  obtain ⟨G', ga, gn⟩ := restrict h' fun b => decide (b ≠ e)
  have gk : ∀ b, b ≠ e → G'.get? b = h'.get? b := fun b hb => ga b (decide_eq_true hb)
  have gz : G'.get? e = none := gn e (by simp)
  have old : ∀ b o, hp.get? b = some o → G'.get? b = some o := fun b o z => (gk b (Nat.ne_of_lt (Nat.lt_of_lt_of_le (Heap.lt_size z) B.lo))).trans (B.kp b o z)
  have ob : ObjOk X.prog X.w (upd H1 d (.xd [(("index" : Str), v)])) G' d (.xd [(("index" : Str), v)]) := ⟨_, B.fld.at (fun o z => (gk d B.ne).trans z), fun y => fld_rel rv y⟩
  refine ⟨e, oe, fv, ⟨G', g, dr, tk', os⟩, _, .ref C, some d, rfl, I1.laid (t' := tk') old B.dlo ob, fun b o z => ?_, gz, goe, ⟨cls, dct⟩, dat, f1, ?_, rfl, I1.bare, raises_own T.bas T.cty, q1 d (I1.hok.fresh B.dlo)⟩
  · by_cases hb : b = e
    · have z' : G'.get? b = some o := z
      rw [hb, gz] at z'; cases z'
    · exact (gk b hb).symm.trans z
  · rw [upd_ne (Ne.symm B.ne)]
    exact I1.hok.fresh B.lo
/-- e.index, e the error that the suite holds -/
def tFld (C a : Addr) (cls : Value) (d : Option Addr) (te : TE) : TE := fun σ H Q => te σ H fun x H1 => x = .ref a ∧ cls = .ref C ∧ ∃ (dd : Addr) (v : V), d = some dd ∧ H1 dd = some (.xd [(("index" : Str), v)]) ∧ Q v H1
theorem pe_fld {a : Addr} {oe : Obj} {cls : Value} {d : Option Addr} {pn : List (Addr × Obj)} {e : Expr} {te : TE} {pos : Pos} (T : Txt X.K X.mg cl C f) (hz : Zc cls d oe) (hf : ∃ vs, oe.data = .fields vs) (he : PE (X.suite a ((a, oe) :: pn)) e te)
    (hb : attributeBase e "index" X.env (eval e X.env) = eval e X.env := by rfl) : PE (X.suite a ((a, oe) :: pn)) (.Attribute e "index" pos) (tFld C a cls d te) := by
  refine ⟨fun pins s σ H Q I q => ?_⟩
  refine attr_of hb (thn (he.run pins s σ H _ I q) fun u s1 hh => ?_)
  obtain ⟨x, H1, I1, rx, rfl, rfl, dd, v, rfl, gd, q⟩ := hh
  obtain rfl : u = Value.ref a := rx
  obtain ⟨pa, _⟩ := I1.pin (a, oe) (List.mem_append_left _ List.mem_cons_self)
  obtain ⟨vs, dat⟩ := hf
  obtain ⟨m, ns, rr⟩ : ObjOk X.prog X.w H1 s1.heap dd (.xd [(("index" : Str), v)]) := I1.hok dd _ gd
  obtain ⟨od, gdd, lk⟩ := lookIn_ns ns
  obtain ⟨u, hu, ru⟩ := RelO.some_of (v := v) (o := m "index") (by rw [← show List.lookup ("index" : Str) [(("index" : Str), v)] = some v by simp [List.lookup]]; exact rr "index")
  have J : PySem.W.InstAt s1.heap a oe C (some od) := ⟨pa, hz.1, by unfold PySem.W.notCls; rw [dat] <;> rfl, by rw [hz.2]; exact gdd⟩
  exact HandSPX.exc_get I1.kIn J T.get_ T.gat_ T.bas (PySem.W.findObj_own T.dic T.non_ rfl (by rw [lk, hu])) (handed_of ru) ⟨v, H1, I1.tok _, ru, q⟩
end
end Mr.EI
namespace Mr.EI
open PySem PySem.W PySem.Calls PyProof.Rows PySem.HandSPX
/-- the class cl stands written so -/
def In (K : Frag) (cl : Str) : Prop := ∃ C f, nsIn K mainGlobals cl = some (some (.ref C)) ∧ ∀ mg : Str → Option Value, mg cl = some (.ref C) → Txt K mg cl C f
theorem in_of {K : Frag} {cl : Str} {C f : Addr} {n q : Str} {N : Addr} {bs bm : List Value} {sn : List Str} {sub : List Value} {ab : Bool} {col : Option Bool} {dd : Option Addr} {k0 k1 k2 k3 k5 : Option Value}
    {qn : Str} {oc : Value} {od : Option Addr} {doc pm : Value} {an : Option Addr} {cdv ct : Value} {osl : Array (Option Value)} (a b c d e h : Pos)
    (h1 : nsIn K mainGlobals cl = some (some (.ref C))) (h2 : K.lookup C = some (excClassObj n q C N bs bm true sn sub ab col dd k0 k1 k2 k3 k5 "ValueError.__new__")) (h3 : refsVE bm = true)
    (h4 : findIn K (.ref C) "__setattr__" = some (some (.builtin "object.__setattr__"))) (h5 : findIn K (.ref C) "__getattribute__" = some (some (.builtin "BaseException.__getattribute__"))) (h6 : findIn K (.ref C) "__getattr__" = some none)
    (h7 : findIn K (.ref C) "index" = some none) (h8 : findIn K (.ref C) "__init__" = some (some (.ref f))) (h9 : typeIn K (.ref f) = some (.type "function")) (h10 : keepIn K (.ref C) = true) (h11 : subIn K (.ref C) (.type "BaseException") = some true)
    (h12 : typeIn K (.ref C) = some (.type "type")) (h13 : hasDictIn K C = true) (h14 : K.lookup f = some ⟨oc, od, .func (fnOf "__init__" qn (prm a b) (txt c d e h) sco .none .none doc pm an cdv ct), osl⟩) (h15 : codeIn K cdv qn = true) : In K cl :=
  ⟨C, f, h1, fun mg hm => ⟨hm, ⟨n, q, N, bs, bm, sn, sub, ab, col, dd, k0, k1, k2, k3, k5, h2, h3⟩, h4, h5, h6, h7, h8, h9, h10, h11, h12, h13, ⟨qn, oc, od, doc, pm, an, cdv, ct, osl, a, b, c, d, e, h, h14, h15⟩⟩⟩
end Mr.EI
namespace Mr
noncomputable section
open PySem PySem.Spec PyProof.Rows L2
/-! ### raise -/
def sRaise (c : String) (f : EX) : SX := fun e s => (f e s).sbind e fun p s => .ex c p e s
/-! ### try: .., except C as n: .. -/
/-- is the own class c one of these -/
def subE (c d : String) : Bool := c == d || ["WordError", "ValueError", "Exception", "BaseException", "object"].contains d
def sTry (cs : List String) (d : String) (i : Nat) (h : SX) (k : String → PV → SX) : SX := fun e s => match h e s with
  | .ex c p e s => if (cs.contains c && decide (i < e.length)) = true then (if subE c d = true then (match k c p (e.set i none) s with
      | .nx e s => .nx (e.set i none) s
      | .rt p s => .rt p s
      | .bk e s => .bk (e.set i none) s
      | .ct e s => .ct (e.set i none) s
      | _ => .stuck) else .ex c p e s) else .stuck
  | r => r
def eFld (cs : List String) (fld : String) (c : String) (p : PV) : EX := fun _ s => if cs.contains c = true then (if attrOf c = Str.ofString fld then .ok p s else .stuck) else .stuck
def eIsE (cs : List String) (c d : String) : EX := fun _ s => if cs.contains c = true then .ok (.bl (subE c d)) s else .stuck
section
variable {K : PySem.W.Frag} {mg : MG} {g g' : G} {X : Cx} {W : WY} {pos : Pos} {f : EX}
theorem RelEnv.clear {B : Option (Nat × Addr × Addr × String × PV)} {env : Env} {σ : L2.St} (h : RelEnv K mg B g env σ) (i : Nat) : RelEnv K mg none g (env.set i none) (σ.set i none) := h.wipe [i]
theorem RelEnv.hold {env : Env} {σ : L2.St} {i : Nat} {a dd : Addr} {c : String} {p : PV} {w : V} {B : Option (Nat × Addr × Addr × String × PV)} (h : RelEnv K mg B g env σ) (hi : i < env.length) (e : g.H dd = some (.xd [(attrOf c, w)])) (r : RelP K mg g p w) :
    RelEnv K mg (some (i, a, dd, c, p)) g (env.set i none) (σ.set i (some (.ref a))) := by
  refine ⟨by simp [h.len], fun i' a' dd' c' p' z => ?_, fun j q z => ?_⟩
  · cases z
    exact ⟨List.getElem?_set_self (h.len ▸ hi), w, e, r⟩
  · by_cases hj : j = i
    · subst hj
      rw [List.getElem?_set_self hi] at z
      cases z
    · rw [List.getElem?_set_ne (Ne.symm hj)] at z
      obtain ⟨u, z1, z2⟩ := h.at_ j q z
      exact ⟨u, by rw [List.getElem?_set_ne (Ne.symm hj)]; exact z1, z2⟩
theorem is_try {cs : List String} {d : String} {x n : Str} {cv : Value} {i : Nat} {body suite : List Stmt} {b₀ : Stmt} {np pos' : Pos} {h : SX} {k : String → PV → SX} (hW : W.b = none) (hs : X.stack = X.env :: X.outer) (hf : X.env.frame = some X.env.locals) (hN : X.N.Nodup) (hi : X.N[i]? = some n)
    (hln : X.env.kindOf n = some .local) (hc : Names X x cv) (tk : Takes X W.w) (hx : ∀ c ∈ cs, ∀ C, X.mg (Str.ofString c) = some (.ref C) → PySem.W.exmOne X.K (.ref C) cv = some (subE c d))
    (hb : ∀ (V : WX) (pn : List (Addr × Obj)) (xe : Value → Shared → Prop), Takes (X.tr pn xe) V → PassesOwn (model X.prog X.w) X.A X.env xe → ISs (X.tr pn xe) ⟨V, none⟩ body h)
    (hsu : ∀ (a dd C : Addr) (oe : Obj) (c : String) (p : PV) (pn : List (Addr × Obj)), X.mg (Str.ofString c) = some (.ref C) → Zc (.ref C) (some dd) oe → (∃ vs, oe.data = .fields vs) → ISs (X.suite a ((a, oe) :: pn)) ⟨fun _ _ _ _ => False, some (i, a, dd, c, p)⟩ (b₀ :: suite) (k c p)) :
    IS X W (.Try body [.ExceptHandler (some (.Name x np)) (some n) (b₀ :: suite) pos'] [] [] pos) (sTry cs d i h k) := by
  refine PS.weak (ps_try_as (c := cv) (i := i) (tb := fun V => RdS X.K X.mg ⟨V, none⟩ h) (Wout := W.w)
    (ts := fun a cls od D σ H => ∃ (c : String) (C dd : Addr) (p : PV), cls = .ref C ∧ od = some dd ∧ X.mg (Str.ofString c) = some (.ref C) ∧ RdS X.K X.mg ⟨fun _ _ _ _ => False, some (i, a, dd, c, p)⟩ (k c p) D σ H)
    hs hf hN hi hln hc tk hb fun a oe cls od pn hz hd => ⟨fun pins s σ H D I ⟨c, C, dd, p, e1, e2, hm, q⟩ => ?_⟩) fun D σ H q => ?_
  · subst e1 e2
    exact (hsu a dd C oe c p pn hm hz hd).run pins s σ H D I q
  · obtain ⟨g, env, e, ok, re, q⟩ := q
    rw [hW] at re
    refine ⟨g, env, e, ok, re, ?_⟩
    unfold sTry at q
    revert q
    cases h env g.s with
    | nx e s => exact fun q g' σ' x' ok' es re' => q g' σ' x' ok' es (hW ▸ re')
    | rt p s => exact id
    | bk e s => exact fun q g' σ' x' ok' es re' => q g' σ' x' ok' es (hW ▸ re')
    | ct e s => exact fun q g' σ' x' ok' es re' => q g' σ' x' ok' es (hW ▸ re')
    | stuck => exact id
    | ex c p e1 s1 =>
      dsimp only
      intro q g1 cls od σ1 x1 ok1 es re1 r
      by_cases hcs : (cs.contains c && decide (i < e1.length)) = true
      · rw [if_pos hcs] at q
        simp only [Bool.and_eq_true, decide_eq_true_eq, List.contains_iff_mem] at hcs
        have r0 := r
        obtain ⟨C, dd, w, rfl, hm, rfl, hdd, rp⟩ := r
        refine ⟨subE c d, hx c hcs.1 C hm, fun hb a ha => ⟨c, C, dd, p, rfl, rfl, hm, g1, e1.set i none, rfl, ok1, re1.hold hcs.2 hdd rp, ?_⟩, fun hb => ?_⟩
        · rw [if_pos hb] at q
          subst es
          have q := OutS.back ok ok1 x1 q
          revert q
          cases k c p (e1.set i none) g1.s with
          | nx e s => exact fun q g' σ' x' ok' es re' => q g' _ x' ok' es (hW ▸ re'.clear i)
          | rt p s => exact id
          | bk e s => exact fun q g' σ' x' ok' es re' => q g' _ x' ok' es (hW ▸ re'.clear i)
          | ct e s => exact fun q g' σ' x' ok' es re' => q g' _ x' ok' es (hW ▸ re'.clear i)
          | ex c p e s => exact fun q => q.elim
          | stuck => exact id
        · rw [if_neg (by rw [hb]; decide)] at q
          exact q g1 (.ref C) (some dd) σ1 x1 ok1 es (hW ▸ re1) r0
      · rw [if_neg hcs] at q; exact q.elim
end
end
end Mr
namespace Mr
noncomputable section
open PySem PySem.Spec PySem.Calls PyProof.Rows PySem.W
section
variable {prog : Program} {w : World} {A : Around} {E : Value → Shared → Prop} {s : Shared} {K : Frag} {x D : Addr} {ox od : Obj}
/-- what a class D says of its instances' class -/
structure ClsF (K : Frag) (D : Addr) : Prop where
  m1 : findIn K (.ref D) "__getattribute__" = some (some (.builtin "BaseException.__getattribute__"))
  m2 : findIn K (.ref D) "__getattr__" = some none
  m3 : subIn K (.ref D) (.type "BaseException") = some true
  m4 : hasDictIn K D = true
  m5 : findIn K (.ref D) "__class__" = some (some (.builtin "object.__class__"))
  m6 : specialIn K (.builtin "object.__class__") "__get__" = some (some (.builtin "getset_descriptor.__get__"))
  m7 : takesIn K (.builtin "object.__class__") = some true
  m8 : mroIn K D (.type "object") = some true
theorem data_found {C : Addr} {nm : Str} {a g : Value} (c1 : (clsIn K C).isSome = true) (c2 : findIn K (.ref C) nm = some (some a)) (c3 : specialIn K a "__get__" = some (some g)) (c4 : takesIn K a = some true) : findObj K C (some od) nm = some (.bind g a) := by
  obtain ⟨cd, c1⟩ := Option.isSome_iff_exists.mp c1
  simp only [findObj, c1, c2, Option.bind_some]
  simp [c3, c4]
theorem class_of_inst {Q : Option Value → Shared → Prop} (T : ClsF K D) (ki : K.In s.heap) (J : InstAt s.heap x ox D (some od)) (fin : Q (some (.ref D)) { s with toks := s.toks + 1 }) : wpAny (model prog w) A (getAttr? (.ref x) "__class__") Q E s := by
  have fo : findObj K D (some od) "__class__" = some (.bind (.builtin "getset_descriptor.__get__") (.builtin "object.__class__")) := data_found (by obtain ⟨cd, q, _⟩ := any_some T.m4; rw [q]; rfl) T.m5 T.m6 T.m7
  obtain ⟨hp, g, d, t, os⟩ := s
  have k0 := J.type (M := model prog w)
  have k1 := looks_findIn (M := model prog w) ki T.m1
  have k2 := looks_findIn (M := model prog w) ki T.m2
  have k3 := looks_find (M := model prog w) ki J fo
  have k4 : Looks (model prog w) hp (isInstance (.ref x) (.type "BaseException")) true := k0.andThen (looks_subIn ki T.m3)
  have n2 : (Value.builtin "BaseException.__getattribute__" == Value.builtin "object.__getattribute__") = false := by decide +kernel
  have n0 : (false && onTheHeap (Value.builtin "BaseException.__getattribute__")) = false := rfl
  have n1 : (onTheHeap (Value.ref D) && Value.builtin "BaseException.__getattribute__" == Value.builtin "object.__getattribute__") = false := by rw [n2]; rfl
  unfold getAttr? getAttrBy? getAttrBy
  refine wpAny_bind (wpAny_mkText (wpAny_bind (wpAny_attempt (wpAny_holding (wpAny_bind (k0.at (wpAny_bind (k1.at ?_))))))))
  show wpAny _ _ (if (onTheHeap (Value.ref D) && Value.builtin "BaseException.__getattribute__" == Value.builtin "object.__getattribute__") = true then _ else _) _ _ _
  rw [n1, if_neg Bool.false_ne_true]
  unfold getAttrByItsOwn hookBefore
  refine wpAny_bind ?_
  rw [if_pos (show onTheHeap (Value.ref D) = true by rfl)]
  refine k2.at (wpAny_bind (wpAny_attempt (wpAny_holding ?_)))
  unfold callGetattribute
  rw [n0, if_neg Bool.false_ne_true]
  unfold boundAndCalled
  rw [PySem.F.excAttr_ValueError.ga.bind (Value.ref x)]
  refine wpAny_bind (wpAny_pure ?_)
  show wpAny _ _ (call (.builtin "BaseException.__getattribute__") [Value.ref x, Value.str "__class__" t]) _ _ _
  refine wpAny_call (codeAny_call_builtin (PySem.F.excAttr_ValueError.ga.plain) (PySem.F.entry_bexc_ga) ?_)
  refine @check_slot (model prog w) _ _ ⟨hp, g, d, t + 1, os⟩ "BaseException.__getattribute__" "BaseException" "__getattribute__" (Value.ref x) [Value.str "__class__" t] [] _ (by decide +kernel) (by decide +kernel) k4 (PySem.F.args_bexc_ga _ (.str "__class__" t)) ?_
  unfold Builtin.«object.__getattribute__»
  refine wpAny_bind (wpAny_of_eq (a := ((Value.ref x : Value), [Value.str ("__class__" : Str) t])) (by first | rfl | (simp only [slotArgs]; rfl)) ?_)
  refine wpAny_bind (wpAny_pure (wpAny_bind (k0.at (wpAny_bind (k3.at ?_)))))
  show wpAny _ _ (holding [Value.builtin "object.__class__"] (call (.builtin "getset_descriptor.__get__") [Value.builtin "object.__class__", .ref x, .ref D]) >>= ret) _ _ _
  refine wpAny_bind (wpAny_holding (wpAny_call (class_get (s := ⟨hp, g, d, t + 1, os⟩) (ox := ox) (od := some od) ki J T.m8 (wpAny_pure ?_))))
  show wpAny _ _ (handedOut (.ref D)) _ _ _
  rw [handedOut_of (v := Value.ref D) rfl]
  first
    | exact wpAny_pure (wpAny_pure fin)
    | exact wpAny_pure fin
    | exact wpAny_pure (wpAny_bind (wpAny_pure (wpAny_pure fin)))
theorem kit_inst (T : ClsF K D) : KitX K (.ref x) (.ref D) (fun h => InstAt h x ox D (some od)) where
  ty := fun _ _ _ J => J.type
  it := fun _ _ ki _ => by
    obtain ⟨cdD, z, _⟩ := any_some T.m4
    unfold clsIn at z
    split at z
    · rename_i ho
      intro A' Q' E' s' k q
      unfold isType loadHead
      exact wpAny_bind (wpAny_loadPart (k _ _ (ki _ _ ho)) (wpAny_pure q))
    · cases z
  ne := fun h tp dd its n sl ki z0 => by
    obtain ⟨cdD, z, _⟩ := any_some T.m4
    refine Bool.eq_false_iff.mpr fun q => ?_
    obtain rfl : D = tp := Value.ref.inj (beq_iff_eq.mp q)
    unfold clsIn at z
    split at z
    · rename_i ho
      have y := (ki _ _ ho).symm.trans z0
      cases y
    · cases z
  ca := fun ki J k => class_of_inst T ki J k
end
end
end Mr
namespace Mr
noncomputable section
open PySem PySem.Spec PyProof.Rows L2
section
variable {K : PySem.W.Frag} {mg : MG} {g g' : G} {X : Cx} {W : WY} {pos : Pos} {f : EX} {c : String} {C fI : Addr}
theorem call_isB {a D dd : Addr} {oe : Obj} {pn : List (Addr × Obj)} (T : ClsF X.K D) (hz : Zc (.ref D) (some dd) oe) (hf : ∃ vs, oe.data = .fields vs) :
    CallR (X.suite a ((a, oe) :: pn)) (.builtin "isinstance") (fun xs H Q => (∃ ps, H dd = some (.xd ps)) ∧ rIsE X.K D a xs H Q) := by
  intro pins s σ H xs us Q I r ⟨⟨ps, hdd⟩, c, cv, b, e0, hcv, e, q⟩
  subst e0
  rcases r with _ | @⟨_, _, _, _, rx, rr⟩
  rcases rr with _ | @⟨_, _, _, _, rt, rr⟩
  cases rr
  cases rx
  obtain rfl := hcv _ rt
  obtain ⟨pa, _⟩ := I.pin (a, oe) (List.mem_append.mpr (.inl List.mem_cons_self))
  obtain ⟨vs, hv⟩ := hf
  obtain ⟨m, ns, _⟩ : ObjOk X.prog X.w H s.heap dd (.xd ps) := I.hok dd _ hdd
  obtain ⟨od, gdd, _⟩ := lookIn_ns ns
  have J : PySem.W.InstAt s.heap a oe D (some od) := ⟨pa, hz.1, by unfold PySem.W.notCls; rw [hv] <;> rfl, by rw [hz.2]; exact gdd⟩
  exact PySem.W.kia_one (kit_inst T) I.kIn J e (fun z => nomatch z) fun tk => ⟨.bl b, H, I.kept (t' := tk) fun _ _ z => z, rfl, q⟩
/-- isinstance(e, T), e the error that is handled: cv the class -/
theorem ie_isE {cs : List String} {d : String} {i : Nat} {a dd D : Addr} {oe : Obj} {p : PV} {pn : List (Addr × Obj)} {w : WX} {x n : Str} {cv : Value} {vv : V} {p1 p2 p3 : Pos} (T : c ∈ cs → ClsF X.K D) (hz : Zc (.ref D) (some dd) oe) (hf : ∃ vs, oe.data = .fields vs)
    (hk : c ∈ cs → PySem.W.kitOne X.K (.ref D) cv = some (subE c d)) (ht : PE (X.suite a ((a, oe) :: pn)) (.Name x p3) (tC vv)) (hv : ∀ u, L2.RelV vv u → u = cv) (hg : Gl X "isinstance") (hm : X.mg "isinstance" = none)
    (hN : X.N[i]? = some n := by rfl) (hvis : Vis X.env.scope n := by first | exact Or.inl rfl | exact Or.inr (Or.inl rfl) | exact Or.inr (Or.inr rfl)) (hd : (n == ("__debug__" : Str)) = false := by decide) (hcd : (n == ("__classdict__" : Str)) = false := by decide)
    (he : starEach [.Name n p2, .Name x p3] X.env = (false, eval (.Name n p2) X.env) :: starEach [.Name x p3] X.env := by rfl) (he2 : starEach [.Name x p3] X.env = (false, eval (.Name x p3) X.env) :: starEach [] X.env := by rfl)
    (hpl : (backTo pos (starEach [.Name x p3] X.env)).any (·.1) = false := by rfl) :
    IE (X.suite a ((a, oe) :: pn)) ⟨w, some (i, a, dd, c, p)⟩ (.Call (.Name "isinstance" p1) [.Name n p2, .Name x p3] [] pos) (eIsE cs c d) := by
  by_cases hcs : c ∈ cs
  · refine PE.weak (pe_callB (call_isB (T hcs) hz hf) hg hm rfl (pa_cons (pe_var (i := i) (X := X.suite a ((a, oe) :: pn)) hN hvis hd hcd) (pa_cons ht pa_nil he2) he) (by decide) (by decide) he hpl) fun σ H Q q => ?_
    obtain ⟨g, env, rfl, ok, re, q⟩ := q
    obtain ⟨e1, w1, e2, _⟩ := re.er i a dd c p rfl
    refine ⟨_, e1, ⟨_, e2⟩, vv, cv, subE c d, rfl, hv, hk hcs, ?_⟩
    unfold eIsE at q
    rw [if_pos (by simpa using hcs)] at q
    exact OutA.ok ok q (by simp only [RelP])
  · refine ⟨fun pins s σ H Q I q => ?_⟩
    obtain ⟨g, env, rfl, ok, re, q⟩ := q
    unfold eIsE at q
    rw [if_neg (by simpa using hcs)] at q
    exact q.elim
theorem ie_given {cs : List String} {i : Nat} {a dd : Addr} {oe : Obj} {p : PV} {pn : List (Addr × Obj)} {w : WX} {n : Str} {p2 : Pos} (hT : c ∈ cs → attrOf c = Str.ofString "given" → ∃ cl fI, EG.Txt X.K X.mg cl C fI) (hz : Zc (.ref C) (some dd) oe) (hf : ∃ vs, oe.data = .fields vs)
    (hN : X.N[i]? = some n := by rfl) (hvis : Vis X.env.scope n := by first | exact Or.inl rfl | exact Or.inr (Or.inl rfl) | exact Or.inr (Or.inr rfl)) (hd : (n == ("__debug__" : Str)) = false := by decide) (hcd : (n == ("__classdict__" : Str)) = false := by decide)
    (hb : attributeBase (.Name n p2) "given" X.env (eval (.Name n p2) X.env) = eval (.Name n p2) X.env := by rfl) :
    IE (X.suite a ((a, oe) :: pn)) ⟨w, some (i, a, dd, c, p)⟩ (.Attribute (.Name n p2) "given" pos) (eFld cs "given" c p) := by
  by_cases hcs : c ∈ cs
  rotate_left
  · refine ⟨fun pins s σ H Q I q => ?_⟩
    obtain ⟨g, env, rfl, ok, re, q⟩ := q
    unfold eFld at q
    rw [if_neg (by simpa using hcs)] at q
    exact q.elim
  by_cases ha : attrOf c = Str.ofString "given"
  · obtain ⟨cl, fI, T⟩ := hT hcs ha
    refine PE.weak (EG.pe_fld T hz hf (pe_var (i := i) (X := X.suite a ((a, oe) :: pn)) hN hvis hd hcd) hb) fun σ H Q q => ?_
    obtain ⟨g, env, rfl, ok, re, q⟩ := q
    obtain ⟨e1, w1, e2, r⟩ := re.er i a dd c p rfl
    unfold eFld at q
    rw [if_pos (by simpa using hcs), if_pos ha] at q
    rw [ha] at e2
    exact ⟨_, e1, rfl, rfl, dd, w1, rfl, e2, OutA.ok ok q r⟩
  · refine ⟨fun pins s σ H Q I q => ?_⟩
    obtain ⟨g, env, rfl, ok, re, q⟩ := q
    unfold eFld at q
    rw [if_pos (by simpa using hcs), if_neg ha] at q
    exact q.elim
theorem ie_index {cs : List String} {i : Nat} {a dd : Addr} {oe : Obj} {p : PV} {pn : List (Addr × Obj)} {w : WX} {n : Str} {p2 : Pos} (hT : c ∈ cs → attrOf c = Str.ofString "index" → ∃ cl fI, EI.Txt X.K X.mg cl C fI) (hz : Zc (.ref C) (some dd) oe) (hf : ∃ vs, oe.data = .fields vs)
    (hN : X.N[i]? = some n := by rfl) (hvis : Vis X.env.scope n := by first | exact Or.inl rfl | exact Or.inr (Or.inl rfl) | exact Or.inr (Or.inr rfl)) (hd : (n == ("__debug__" : Str)) = false := by decide) (hcd : (n == ("__classdict__" : Str)) = false := by decide)
    (hb : attributeBase (.Name n p2) "index" X.env (eval (.Name n p2) X.env) = eval (.Name n p2) X.env := by rfl) :
    IE (X.suite a ((a, oe) :: pn)) ⟨w, some (i, a, dd, c, p)⟩ (.Attribute (.Name n p2) "index" pos) (eFld cs "index" c p) := by
  by_cases hcs : c ∈ cs
  rotate_left
  · refine ⟨fun pins s σ H Q I q => ?_⟩
    obtain ⟨g, env, rfl, ok, re, q⟩ := q
    unfold eFld at q
    rw [if_neg (by simpa using hcs)] at q
    exact q.elim
  by_cases ha : attrOf c = Str.ofString "index"
  · obtain ⟨cl, fI, T⟩ := hT hcs ha
    refine PE.weak (EI.pe_fld T hz hf (pe_var (i := i) (X := X.suite a ((a, oe) :: pn)) hN hvis hd hcd) hb) fun σ H Q q => ?_
    obtain ⟨g, env, rfl, ok, re, q⟩ := q
    obtain ⟨e1, w1, e2, r⟩ := re.er i a dd c p rfl
    unfold eFld at q
    rw [if_pos (by simpa using hcs), if_pos ha] at q
    rw [ha] at e2
    exact ⟨_, e1, rfl, rfl, dd, w1, rfl, e2, OutA.ok ok q r⟩
  · refine ⟨fun pins s σ H Q I q => ?_⟩
    obtain ⟨g, env, rfl, ok, re, q⟩ := q
    unfold eFld at q
    rw [if_pos (by simpa using hcs), if_neg ha] at q
    exact q.elim
/-! ### raise C(e) -/
theorem raise_of {σ : L2.St} {H : Hp} {D : Ends} {fld : Str} (hm : mg (Str.ofString c) = some (.ref C)) (hat : attrOf c = fld) (q : RdS K mg W (sRaise c f) D σ H) :
    RdL K mg W (eList [f]) σ H fun vs H1 => ∃ v, vs = [v] ∧ ∀ d, H1 d = none → W.w (.ref C) (some d) σ (upd H1 d (.xd [(fld, v)])) := by
  obtain ⟨g, env, rfl, ok, re, q⟩ := q
  refine ⟨g, env, rfl, ok, re, ?_⟩
  revert q
  simp only [sRaise, eList]
  cases f env g.s with
  | exc c p s' => exact fun q g' cls d x' ok' es r => q g' cls d σ x' ok' es (re.ext ok x') r
  | stuck => exact id
  | ok x s1 =>
    intro q g1 vs x1 ok1 e1 r
    simp only [RelPs] at r
    obtain ⟨v, _, rfl, r1, rfl⟩ := r
    refine ⟨v, rfl, fun d hd => ?_⟩
    have x2 := G.new_ext (g := g1) (u := .xd [(fld, v)]) hd
    have ok2 := G.new_ok (u := .xd [(fld, v)]) ok1 hd
    refine q (g1.new d (.xd [(fld, v)])) _ _ σ (x1.trans ok ok1 x2) ok2 e1 ((re.ext ok x1).ext ok1 x2) ⟨C, d, v, rfl, hm, rfl, ?_, r1.ext ok1 x2⟩
    rw [hat]; exact upd_same
theorem is_raiseG {a : Expr} {k : Nat} {p pos2 : Pos} (T : EG.Txt X.K X.mg (Str.ofString c) C fI) (hc : X.calm = true) (hr : Room k X.A) (tk : Takes X W.w) (ha : IE X W a f) (hg : Gl X (Str.ofString c)) (hat : attrOf c = Str.ofString "given" := by decide +kernel) (hn : (Str.ofString c == ("__debug__" : Str)) = false := by decide +kernel)
    (he : starEach [a] X.env = (false, eval a X.env) :: starEach [] X.env := by rfl) (hpl : (backTo pos (starEach [] X.env)).any (·.1) = false := by rfl) :
    IS X W (.Raise (some (.Call (.Name (Str.ofString c) p) [a] [] pos)) none pos2) (sRaise c f) :=
  PS.weak (ps_raise hc tk (EG.pmk T hr (ia_cons ha ia_nil he) hg hn he hpl)) fun D σ H q => raise_of T.g hat q
theorem is_raiseI {a : Expr} {k : Nat} {p pos2 : Pos} (T : EI.Txt X.K X.mg (Str.ofString c) C fI) (hc : X.calm = true) (hr : Room k X.A) (tk : Takes X W.w) (ha : IE X W a f) (hg : Gl X (Str.ofString c)) (hat : attrOf c = Str.ofString "index" := by decide +kernel) (hn : (Str.ofString c == ("__debug__" : Str)) = false := by decide +kernel)
    (he : starEach [a] X.env = (false, eval a X.env) :: starEach [] X.env := by rfl) (hpl : (backTo pos (starEach [] X.env)).any (·.1) = false := by rfl) :
    IS X W (.Raise (some (.Call (.Name (Str.ofString c) p) [a] [] pos)) none pos2) (sRaise c f) :=
  PS.weak (ps_raise hc tk (EI.pmk T hr (ia_cons ha ia_nil he) hg hn he hpl)) fun D σ H q => raise_of T.g hat q
end
end
end Mr
namespace Mr
noncomputable section
open PySem PySem.Spec PyProof.Rows
/-! ### enumerate -/
theorem meets_enumB {v : Value} {o : Obj} {H : Heap → Prop} (B : Begins v o H) : Meets (Builtin.«enumerate.__new__» ⟨[.type "enumerate", v], []⟩) (fun _ R s => H s.heap ∧
    R (.ok (.ret (.ref (s.heap.push o).objs.size))) { s with heap := (s.heap.push o).push { cls := .type "enumerate", data := .fields #[.none, .bool false, .ref s.heap.objs.size, rawInt 0, .none, .none] } }) := by
  refine .of_wp fun prog w A R s h => ?_
  obtain ⟨hp, gs, dr, tk, os⟩ := s
  obtain ⟨h0, h⟩ := h
  have hsub := sub_enumerate
  have begin_ : ∀ {A' : Around} {E : Value → Shared → Prop} {Q : Value → Shared → Prop}, Q (.ref hp.objs.size) ⟨hp.push o, gs, dr, tk, os⟩ → wpAny (model prog w) A' (pyIter v) Q E ⟨hp, gs, dr, tk, os⟩ :=
    fun q => B.iter prog w _ _ ⟨hp, gs, dr, tk, os⟩ _ h0 q
  wp_walk using begin_
  refine wpAny_stack_any fun st => wpAny_pure ?_
  split
  · rename_i c _ _ _ _ _
    cases (c == Value.type "enumerate") <;> (wp_walk using begin_; exact ⟨_, rfl, h⟩)
  · wp_walk using begin_
    exact ⟨_, rfl, h⟩
section
variable {prog : Program} {w : World} {A : Around} {E : Value → Shared → Prop} {s : Shared}
theorem enum_one {v : Value} {o : Obj} {H : Heap → Prop} {Q : Value → Shared → Prop} (B : Begins v o H) (h1 : H s.heap)
    (fin : ∀ h', IsEnum h' (s.heap.objs.size + 1) s.heap.objs.size 0 .none → h'.get? s.heap.objs.size = some o → (∀ b o, s.heap.get? b = some o → h'.get? b = some o) → Q (.ref (s.heap.objs.size + 1)) { s with heap := h' }) :
    wpAny (model prog w) A (call (.type "enumerate") [v]) Q E s := by
  refine callType_new F.called_enumerate (by decide) (F.typeCall_enumerate_1 _) (F.newCall_enumerate_1 _) (fun obj => F.args_object_init_2 obj _) F.entry_enumerate_new (meets_enumB B) ⟨h1, ?_⟩
  have sz : (s.heap.push o).objs.size = s.heap.objs.size + 1 := Heap.size_push ..
  show _ ∧ _
  rw [sz]
  have made : IsEnum ((s.heap.push o).push { cls := .type "enumerate", data := .fields #[.none, .bool false, .ref s.heap.objs.size, rawInt 0, .none, .none] }) (s.heap.objs.size + 1) s.heap.objs.size 0 .none := by
    have q := Heap.get?_push_size (s.heap.push o) (o := { cls := .type "enumerate", data := .fields #[.none, .bool false, .ref s.heap.objs.size, rawInt 0, .none, .none] }) rfl
    rw [sz] at q; exact q
  exact ⟨⟨_, made, rfl⟩, fin _ made (Heap.get?_push_of_some _ (Heap.get?_push_size _ B.free)) fun b o x => Heap.get?_push_of_some _ (Heap.get?_push_of_some _ x)⟩
end
end
end Mr
namespace Mr
noncomputable section
open PySem PySem.Spec PyProof.Rows L2
/-- an iterator over a thing that stands: its state by the turn, what it draws -/
structure Src (P : Program) (w : World) (K : PySem.W.Frag) (it : Addr) (J : It) (S : Nat → Heap → Prop) : Prop where
  keep : ∀ i h h', S i h → (∀ o, h.get? it = some o → h'.get? it = some o) → S i h'
  obj : ∀ i h, S i h → ∃ o, h.get? it = some o ∧ ∀ v, o.data ≠ .cell v
  draw : ∀ (X : Cx), X.prog = P → X.w = w → X.K = K → X.calm = true → ∀ (i : Nat) (pins : List (Addr × Obj)) (s : Shared) (σ : L2.St) (H : Hp), Inv X pins σ H s → S i s.heap → J.go i H →
    ∃ (fp : List Addr) (n : Nat) (Pd : Nat → Value → Prop) (St : Nat → Heap → Prop), Draws P w X.A.in1 it fp n Pd St ∧ St i s.heap ∧ i < n ∧ (∀ b ∈ fp, ∃ o, s.heap.get? b = some o ∧ o.cls ≠ .type "enumerate") ∧ (∀ h, St (i + 1) h → S (i + 1) h) ∧ ∀ u, Pd i u → ∃ x, RelV x u ∧ J.yld i H x H
  fin : ∀ (X : Cx), X.prog = P → X.w = w → X.K = K → X.calm = true → ∀ (i : Nat) (pins : List (Addr × Obj)) (s : Shared) (σ : L2.St) (H : Hp), Inv X pins σ H s → S i s.heap → J.stop i H →
    ∃ (fp : List Addr) (n : Nat) (Pd : Nat → Value → Prop) (St : Nat → Heap → Prop), Draws P w X.A.in1 it fp n Pd St ∧ St n s.heap
/-- with its index, from k on -/
def ItE (k : Int) (J : It) : It := ⟨J.go, fun i H v H' => ∃ T x, v = .ref T ∧ H T = none ∧ H' = upd H T (.tup [.int (k + (i : Nat)), x]) ∧ J.yld i H x H, J.stop⟩
theorem turn_en {P : Program} {w : World} {K : PySem.W.Frag} {elts : List Expr} {kk : Nat} {tpos : Pos} {e it : Addr} {J : It} {S : Nat → Heap → Prop} (k : Int) (D : Src P w K it J S) (hne : e ≠ it) :
    Turn P w K (.Tuple elts kk tpos) (ItE k J) [e, it] e (fun i h => (∃ old, IsEnum h e it (k + (i : Nat)) old) ∧ S i h) where
  mem := List.mem_cons_self
  obj := fun i h st b hb => by
    obtain ⟨⟨old, he⟩, hs⟩ := st
    rcases List.mem_cons.mp hb with rfl | hb
    · exact ⟨_, he, fun v q => nomatch q⟩
    · rw [List.mem_singleton.mp hb]; exact D.obj i h hs
  keep := fun i h h' st kp => by
    obtain ⟨⟨old, he⟩, hs⟩ := st
    exact ⟨⟨old, kp e (by simp) _ he⟩, D.keep i h h' hs fun o q => kp it (by simp) o q⟩
  item := by
    intro X hP hw hK hc i pins s σ H E I hf st hg
    subst hP hw hK
    obtain ⟨⟨old, he⟩, hs⟩ := st
    obtain ⟨fp, n, Pd, St, dr, hst, hlt, hfp, hnx, hy⟩ := D.draw X rfl rfl rfl hc i pins s σ H I hs hg
    have hef : e ∉ fp := fun z => by
      obtain ⟨o, q1, q2⟩ := hfp e z
      have q3 : s.heap.get? e = some _ := he
      rw [q1] at q3
      cases q3
      exact q2 rfl
    have le : e < s.heap.objs.size := Heap.lt_size he
    have li : it < s.heap.objs.size := by
      obtain ⟨o, q, _⟩ := D.obj i _ hs
      exact Heap.lt_size q
    refine wpAny_pyNext_enum_itemC dr he hst hlt hne hef fun u h' tk hu ho hs' hT hsz hk => ?_
    obtain ⟨x, rx, yx⟩ := hy u hu
    refine ⟨_, rfl, wpAny_letOwnedTupleGo_enum (s := { s with heap := h', toks := tk + 1 }) ho fun h'' he' sb => ?_⟩
    have gT : h''.get? s.heap.objs.size = some { cls := .type "tuple", data := .seq #[.int (k + (i : Nat)) tk, u] } := (sb.2 _ (Nat.ne_of_gt le)).trans hT
    have new : ObjOk X.prog X.w (upd H s.heap.objs.size (.tup [.int (k + (i : Nat)), x])) h'' s.heap.objs.size (.tup [.int (k + (i : Nat)), x]) :=
      ⟨by show 2 ≤ sizeLine; decide, [.int (k + (i : Nat)) tk, u], .cons ⟨_, rfl⟩ (.cons rx .nil), ⟨_, gT, rfl, _, rfl⟩⟩
    have I1 : Inv X pins σ (upd H s.heap.objs.size (.tup [.int (k + (i : Nat)), x])) { s with heap := h'', toks := tk + 1 } :=
      I.turnedNew (ch := [e, it]) (fun b ob hb q => (sb.2 b (fun z => hb (by simp [z]))).trans (hk b ob (fun z => hb (by simp [z])) (fun z => hb (by simp [z])) q)) hf (Nat.le_refl _) new
    refine ⟨.ref s.heap.objs.size, _, I1, rfl, ⟨_, x, rfl, I.hok.fresh (Nat.le_refl _), rfl, yx⟩, ⟨⟨u, ?_⟩, D.keep _ _ _ (hnx _ hs') fun o q => (sb.2 it (Ne.symm hne)).trans q⟩, fun b hb => ?_⟩
    · have z : k + ((i + 1 : Nat) : Int) = k + (i : Nat) + 1 := by omega
      rw [z]; exact he'
    · have hb' : b < s.heap.objs.size := by
        rcases List.mem_cons.mp hb with z | z
        · rw [z]; exact le
        · rw [List.mem_singleton.mp z]; exact li
      rw [upd_ne (Nat.ne_of_lt hb')]
      exact (hf b hb).1
  done := by
    intro X hP hw hK hc i pins s σ H E I hf st hg
    subst hP hw hK
    obtain ⟨⟨old, he⟩, hs⟩ := st
    obtain ⟨fp, n, Pd, St, dr, hst⟩ := D.fin X rfl rfl rfl hc i pins s σ H I hs hg
    obtain ⟨f0, f1, f2, f3, f4, f5⟩ := hf it (by simp)
    exact wpAny_pyNext_enum_endD dr he hst fun h' eb => ⟨rfl, I.turned (t' := s.toks) (fun b o hb q => eb b o hb q) f0 f1 f3 f4 f5⟩
  self := fun A i s Q E st h => let ⟨⟨_, he⟩, _⟩ := st; wpAny_pyIter_enum he h
/-- the things xs, which stand by P -/
def ItX (P : Hp → Prop) (xs : List V) : It := ⟨fun i H => P H ∧ i < xs.length, fun i H x H' => H' = H ∧ xs[i]? = some x, fun i H => P H ∧ xs.length ≤ i⟩
theorem src_tup {P : Program} {w : World} {K : PySem.W.Frag} (a it : Addr) (xs : List V) : Src P w K it (ItX (fun H => SqT K H a xs) xs) (fun i h => h.IsTupleIter it a i ∧ i ≤ xs.length) where
  keep := fun i h h' st k => ⟨st.1.at k, st.2⟩
  obj := fun i h st => let ⟨o, e, _, d⟩ := st.1; ⟨o, e, fun v z => by rw [d] at z; cases z⟩
  draw := fun X hP hw hK hc i pins s σ H I st hg => by
    subst hP hw hK
    obtain ⟨hq, hx⟩ := hg
    obtain ⟨its, rv, p, hz⟩ := I.tuple hq
    have hl := rv.length
    obtain ⟨o1, e1, c1, d1⟩ := id st.1
    obtain ⟨o2, e2, c2, n2, d2⟩ := id p
    have ne : a ≠ it := fun z => by rw [z, e1] at e2; cases e2; rw [c1] at c2; exact absurd c2 (by decide)
    refine ⟨_, _, _, _, Draws.tuple (show X.A.in1.handled = none from I.ok.hd hc) it a ne its.toArray, ⟨st.1, p⟩, by simp; omega, fun b hb => ?_, fun h q => ⟨q.1, hx⟩, fun u' q => ?_⟩
    · rcases List.mem_cons.mp hb with rfl | hb
      · exact ⟨o1, e1, by rw [c1]; decide⟩
      · rw [List.mem_singleton.mp hb]; exact ⟨o2, e2, by rw [c2]; decide⟩
    · obtain ⟨u, hu, ru⟩ := rv.get (i := i) (x := xs[i]) (by simp [hx])
      have q' : its[i]? = some u' := by simpa using q
      rw [hu] at q'; cases q'
      exact ⟨xs[i], ru, rfl, by simp [hx]⟩
  fin := fun X hP hw hK hc i pins s σ H I st hg => by
    subst hP hw hK
    obtain ⟨hq, hx⟩ := hg
    obtain ⟨its, rv, p, hz⟩ := I.tuple hq
    have hl := rv.length
    obtain ⟨o1, e1, c1, d1⟩ := id st.1
    obtain ⟨o2, e2, c2, n2, d2⟩ := id p
    have ne : a ≠ it := fun z => by rw [z, e1] at e2; cases e2; rw [c1] at c2; exact absurd c2 (by decide)
    have ei : i = its.length := by omega
    exact ⟨_, _, _, _, Draws.tuple (show X.A.in1.handled = none from I.ok.hd hc) it a ne its.toArray, ⟨by have := st.1; rw [ei] at this; simpa using this, p⟩⟩
theorem src_lst {P : Program} {w : World} {K : PySem.W.Frag} (a it : Addr) (xs : List V) : Src P w K it (ItX (fun H => SqL K H a xs) xs) (fun i h => h.IsListIter it a i ∧ i ≤ xs.length) where
  keep := fun i h h' st k => ⟨st.1.at k, st.2⟩
  obj := fun i h st => let ⟨o, e, _, d⟩ := st.1; ⟨o, e, fun v z => by rw [d] at z; cases z⟩
  draw := fun X hP hw hK hc i pins s σ H I st hg => by
    subst hP hw hK
    obtain ⟨hq, hx⟩ := hg
    obtain ⟨its, rv, p, hz⟩ := I.list hq
    have hl := rv.length
    obtain ⟨o1, e1, c1, d1⟩ := id st.1
    obtain ⟨o2, e2, c2, n2, d2⟩ := id p.isList
    have ne : a ≠ it := fun z => by rw [z, e1] at e2; cases e2; rw [c1] at c2; exact absurd c2 (by decide)
    refine ⟨_, _, _, _, Draws.list (show X.A.in1.handled = none from I.ok.hd hc) it a ne its.toArray, ⟨st.1, p.isList⟩, by simp; omega, fun b hb => ?_, fun h q => ⟨q.1, hx⟩, fun u' q => ?_⟩
    · rcases List.mem_cons.mp hb with rfl | hb
      · exact ⟨o1, e1, by rw [c1]; decide⟩
      · rw [List.mem_singleton.mp hb]; exact ⟨o2, e2, by rw [c2]; decide⟩
    · obtain ⟨u, hu, ru⟩ := rv.get (i := i) (x := xs[i]) (by simp [hx])
      have q' : its[i]? = some u' := by simpa using q
      rw [hu] at q'; cases q'
      exact ⟨xs[i], ru, rfl, by simp [hx]⟩
  fin := fun X hP hw hK hc i pins s σ H I st hg => by
    subst hP hw hK
    obtain ⟨hq, hx⟩ := hg
    obtain ⟨its, rv, p, hz⟩ := I.list hq
    have hl := rv.length
    obtain ⟨o1, e1, c1, d1⟩ := id st.1
    obtain ⟨o2, e2, c2, n2, d2⟩ := id p.isList
    have ne : a ≠ it := fun z => by rw [z, e1] at e2; cases e2; rw [c1] at c2; exact absurd c2 (by decide)
    have ei : i = its.length := by omega
    exact ⟨_, _, _, _, Draws.list (show X.A.in1.handled = none from I.ok.hd hc) it a ne its.toArray, ⟨by have := st.1; rw [ei] at this; simpa using this, p.isList⟩⟩
theorem src_str {P : Program} {w : World} {K : PySem.W.Frag} (it : Addr) (l : List Nat) (t : Tok) : Src P w K it (ItX (fun _ => True) (l.map fun c => V.str ⟨#[c]⟩)) (fun i h => h.IsStrIter it (strIterType ⟨l.toArray⟩) ⟨l.toArray⟩ t i ∧ i ≤ l.length) where
  keep := fun i h h' st k => by
    obtain ⟨⟨o, e, c, d⟩, z⟩ := st
    exact ⟨⟨o, k o e, c, d⟩, z⟩
  obj := fun i h st => let ⟨o, e, _, d⟩ := st.1; ⟨o, e, fun v z => by rw [d] at z; cases z⟩
  draw := fun X hP hw hK hc i pins s σ H I st hg => by
    subst hP hw hK
    obtain ⟨_, hx⟩ := hg
    obtain ⟨o1, e1, c1, d1⟩ := id st.1
    rw [List.length_map] at hx
    refine ⟨_, _, _, _, Draws.text (show X.A.in1.handled = none from I.ok.hd hc) it ⟨l.toArray⟩ t, st.1, by simpa using hx, fun b hb => ?_, fun h q => ⟨q, hx⟩, fun u' q => ?_⟩
    · rw [List.mem_singleton.mp hb]
      refine ⟨o1, e1, ?_⟩
      rw [c1]
      unfold strIterType
      split <;> decide
    · obtain ⟨c, tk, hc', rfl⟩ := q
      have z : l[i]? = some c := by simpa using hc'
      exact ⟨.str ⟨#[c]⟩, ⟨_, rfl⟩, rfl, by rw [List.getElem?_map, z]; rfl⟩
  fin := fun X hP hw hK hc i pins s σ H I st hg => by
    subst hP hw hK
    obtain ⟨_, hx⟩ := hg
    rw [List.length_map] at hx
    have ei : i = l.length := by omega
    exact ⟨_, _, _, _, Draws.text (show X.A.in1.handled = none from I.ok.hd hc) it ⟨l.toArray⟩ t, by have := st.1; rw [ei] at this; simpa using this⟩
/-! the values: with indexes -/
def enumL (k : Int) : List PV → List PV
  | [] => []
  | x :: xs => .tup [.int k, x] :: enumL (k + 1) xs
/-- what is walked by index: not a dict -/
def elemsS : PV → Option (List PV)
  | .tup l => some l
  | .lst l => some l
  | .scr l => some l
  | .str l => some (l.map fun c => .str [c])
  | _ => none
def iEn (f : EX) : Env → MS → Res (List PV) := fun e s => (f e s).bind fun x s => ofO ((elemsS x).map (enumL 0)) s
def iEn2 (f h : EX) : Env → MS → Res (List PV) := fun e s => (f e s).bind fun x s => (h e s).bind fun y s => ofO (match y with
  | .int k => if smallI k = true then (elemsS x).map (enumL k) else none
  | _ => none) s
theorem enumL_get (k : Int) : ∀ (l : List PV) (i : Nat), (enumL k l)[i]? = (l[i]?).map fun x => .tup [.int (k + (i : Nat)), x]
  | [], i => by simp [enumL]
  | x :: xs, 0 => by simp [enumL]
  | x :: xs, i + 1 => by
    simp only [enumL, List.getElem?_cons_succ, enumL_get (k + 1) xs i]
    have e : k + 1 + (i : Nat) = k + ((i + 1 : Nat) : Int) := by omega
    rw [e]
theorem enumL_length (k : Int) : ∀ l : List PV, (enumL k l).length = l.length
  | [] => rfl
  | x :: xs => by simp [enumL, enumL_length (k + 1) xs]
section
variable {K : PySem.W.Frag} {mg : MG} {g : G} {X : Cx} {W : WY} {pos : Pos}
theorem itRel_en {P : Hp → Prop} {l : List PV} {xs : List V} (k : Int) (h : ∀ g', Keeps g g' → g'.Ok K mg → P g'.H) (r : RelPs K mg g l xs) (ok : g.Ok K mg) : ItRel K mg g (enumL k l) (ItE k (ItX P xs)) := by
  intro g1 x1 ok1 i
  have hp := h g1 x1 ok1
  have hl := r.length
  refine ⟨fun p hq => ?_, fun hi => ⟨hp, by rw [enumL_length] at hi; omega⟩⟩
  rw [enumL_get] at hq
  obtain ⟨q, hq1, rfl⟩ := Option.map_eq_some_iff.mp hq
  obtain ⟨v, hv, rv⟩ := r.get' hq1
  refine ⟨⟨hp, (List.getElem?_eq_some_iff.mp hv).1⟩, fun v' H' hy => ?_⟩
  obtain ⟨T, y, rfl, hT, rfl, _, hy⟩ := hy
  rw [hv] at hy
  cases hy
  have x2 := G.new_ext (g := g1) (u := .tup [.int (k + (i : Nat)), v]) hT
  exact ⟨_, rfl, x2, G.new_ok ok1 hT, rfl, G.new_tup ok1 hT (RelPs.cons (by simp only [RelP]) (RelPs.cons (rv.keep x1) RelPs.nil))⟩
theorem begin_of {p : PV} {v : V} {u : Value} {l : List PV} {pins : List (Addr × Obj)} {σ : L2.St} {s : Shared} (I : Inv X pins σ g.H s) (ok : g.Ok X.K X.mg) (r : RelP X.K X.mg g p v) (ru : L2.RelV v u) (hl : elemsS p = some l) :
    ∃ (o : Obj) (Hb : Heap → Prop) (P : Hp → Prop) (xs : List V) (S : Addr → Nat → Heap → Prop), Begins u o Hb ∧ Hb s.heap ∧ (∀ it, Src X.prog X.w X.K it (ItX P xs) (S it)) ∧ (∀ it h, h.get? it = some o → S it 0 h) ∧ (∀ g', Keeps g g' → g'.Ok X.K X.mg → P g'.H) ∧ RelPs X.K X.mg g l xs := by
  unfold elemsS at hl
  split at hl
  · cases hl
    simp only [RelP] at r
    obtain ⟨a, vs, rfl, h1, h2⟩ := r
    obtain ⟨its, rv, p, hz⟩ := I.tuple (SqT.of h1)
    cases ru
    exact ⟨_, _, _, vs, _, begins_tuple a its.toArray, p, fun it => src_tup a it vs, fun it h e => ⟨⟨_, e, rfl, rfl⟩, Nat.zero_le _⟩, fun g' x' ok' => SqT.of (x'.tup a vs h1), h2⟩
  · cases hl
    simp only [RelP] at r
    obtain ⟨a, vs, rfl, ⟨h1, hz0⟩, h2⟩ := r
    obtain ⟨its, rv, p, hz⟩ := I.list (SqL.of h1)
    cases ru
    exact ⟨_, _, _, vs, _, begins_list a its.toArray, p.isList, fun it => src_lst a it vs, fun it h e => ⟨⟨_, e, rfl, rfl⟩, Nat.zero_le _⟩, fun g' x' ok' => SqL.of (x'.lst a vs h1 hz0).1, h2⟩
  · cases hl
    simp only [RelP] at r
    obtain ⟨a, vs, rfl, h1, h2⟩ := r
    obtain ⟨its, rv, p, hz⟩ := I.list h1.sq
    cases ru
    exact ⟨_, _, _, vs, _, begins_list a its.toArray, p.isList, fun it => src_lst a it vs, fun it h e => ⟨⟨_, e, rfl, rfl⟩, Nat.zero_le _⟩, fun g' x' ok' => ScrP.sq (g := g') (h1.imp (fun ⟨o, q⟩ => ⟨o, x'.frz a o _ q⟩) id), h2⟩
  · rename_i l'
    cases hl
    obtain rfl := relS r.d
    obtain ⟨t, rfl⟩ := ru
    refine ⟨_, _, _, _, _, begins_text ⟨l'.toArray⟩ t, trivial, fun it => src_str it l' t, fun it h e => ⟨⟨_, e, rfl, rfl⟩, Nat.zero_le _⟩, fun _ _ _ => trivial, ?_⟩
    clear I r
    induction l' with
    | nil => exact RelPs.nil
    | cons c l ih => exact RelPs.cons (by simp only [RelP]) ih
  · cases hl
theorem ii_en {elts : List Expr} {kk : Nat} {tpos : Pos} {e : Expr} {f : EX} {p : Pos} (hg : Gl X "enumerate") (hm : X.mg "enumerate" = none) (ha : IE X W e f) (hs : starEach [e] X.env = [(false, eval e X.env)] := by rfl) :
    II X W (.Tuple elts kk tpos) (.Call (.Name "enumerate" p) [e] [] pos) (iEn f) := by
  refine ⟨fun pins s σ H R I q => ?_⟩
  have q2 := RdA.seq (R := fun g p v => RelP X.K X.mg g p v) (f := f) (k := fun x e s => ofO ((elemsS x).map (enumL 0)) s) q
  have q3 : RdL X.K X.mg W (eList [f]) σ H fun vs H1 => ∃ v, vs = [v] ∧ ∃ p, ∃ g env, g.H = H1 ∧ g.Ok X.K X.mg ∧ RelEnv X.K X.mg W.b g env σ ∧ RelP X.K X.mg g p v ∧ OutA X.K X.mg (ItRel X.K X.mg) g σ W (ofO ((elemsS p).map (enumL 0)) g.s) R := by
    obtain ⟨g, env, rfl, ok, re, q2⟩ := q2
    refine ⟨g, env, rfl, ok, re, ?_⟩
    revert q2
    simp only [eList]
    cases f env g.s with
    | exc c p s' => exact id
    | stuck => exact id
    | ok x s1 =>
      intro q2 g1 vs x1 ok1 e1 r
      simp only [RelPs] at r
      obtain ⟨v, _, rfl, r1, rfl⟩ := r
      exact ⟨v, rfl, q2 g1 v x1 ok1 e1 r1⟩
  refine Call_ (ld_blt I hg hm boot_enumerate (PyProof.Rows.callWith_type1 (thn ((ia_cons ha ia_nil hs).run pos pins s σ H _ I q3) fun us s1 ⟨vs, H1, I1, r1, v, ev, p, g, env, eH, ok, re, r, q⟩ => ?_) hs rfl))
  subst ev eH
  rcases r1 with _ | @⟨_, u, _, _, rv, rn⟩
  cases rn
  cases hl : elemsS p with
  | none => rw [hl] at q; exact q.elim
  | some l =>
    rw [hl] at q
    obtain ⟨o, Hb, P, xs, S, B, hb, src, s0, hp, rl⟩ := begin_of I1 ok r rv hl
    refine enum_one B hb fun h' he hit hk => wpAny_pyIter_enum he ?_
    have I2 : Inv X pins σ g.H { s1 with heap := h' } := I1.kept (t' := s1.toks) hk
    refine ⟨s1.heap.objs.size + 1, [s1.heap.objs.size + 1, s1.heap.objs.size], _, _, g.H, rfl, I2, turn_en 0 (src s1.heap.objs.size) (Nat.succ_ne_self _), ⟨⟨.none, he⟩, s0 _ _ hit⟩, fun b hb => ?_, OutA.ok ok q (itRel_en 0 hp rl ok)⟩
    have lo : s1.heap.objs.size ≤ b := by
      rcases List.mem_cons.mp hb with z | z
      · rw [z]; exact Nat.le_add_right _ _
      · rw [List.mem_singleton.mp z]; exact Nat.le_refl _
    exact I1.fpOk lo (I1.hok.fresh lo)
theorem smallI_fit {k : Int} (h : smallI k = true) : -(2 ^ 63) ≤ k ∧ k < 2 ^ 63 := by
  have q := smallI_b h
  omega
theorem ii_en2 {elts : List Expr} {kk : Nat} {tpos : Pos} {e e2 : Expr} {f h : EX} {p : Pos} (hg : Gl X "enumerate") (hm : X.mg "enumerate" = none) (ha : IE X W e f) (hb : IE X W e2 h) (hs : starEach [e, e2] X.env = (false, eval e X.env) :: starEach [e2] X.env := by rfl)
    (hpl : (backTo pos (starEach [e2] X.env)).any (·.1) = false := by rfl) (hs2 : starEach [e2] X.env = (false, eval e2 X.env) :: starEach [] X.env := by rfl) : II X W (.Tuple elts kk tpos) (.Call (.Name "enumerate" p) [e, e2] [] pos) (iEn2 f h) := by
  refine ⟨fun pins s σ H R I q => ?_⟩
  let m : PV → PV → Option (List PV) := fun x y => match y with
    | .int k => if smallI k = true then (elemsS x).map (enumL k) else none
    | _ => none
  have q3 : RdL X.K X.mg W (eList [f, h]) σ H fun vs H1 => ∃ v v2, vs = [v, v2] ∧ ∃ p p2, ∃ g, g.H = H1 ∧ g.Ok X.K X.mg ∧ RelP X.K X.mg g p v ∧ RelP X.K X.mg g p2 v2 ∧ OutA X.K X.mg (ItRel X.K X.mg) g σ W (ofO (m p p2) g.s) R := by
    obtain ⟨g, env, rfl, ok, re, q2⟩ := q
    refine ⟨g, env, rfl, ok, re, ?_⟩
    unfold iEn2 at q2
    revert q2
    simp only [eList]
    cases f env g.s with
    | exc c p s' => exact id
    | stuck => exact id
    | ok x s1 =>
      simp only [bind_ok]
      cases h env s1 with
      | exc c p s' => exact id
      | stuck => exact id
      | ok y s2 =>
        intro q2 g1 vs x1 ok1 e1 r
        simp only [RelPs] at r
        obtain ⟨v, _, rfl, r1, v2, _, rfl, r2, rfl⟩ := r
        exact ⟨v, v2, rfl, x, y, g1, rfl, ok1, r1, r2, OutA.back ok ok1 x1 (e1 ▸ q2)⟩
  refine Call_ (ld_blt I hg hm boot_enumerate (PyProof.Rows.callWith_type1 (thn ((ia_cons ha (ia_cons hb ia_nil hs2) hs).run pos pins s σ H _ I q3) fun us s1 ⟨vs, H1, I1, r1, v, v2, ev, p, p2, g, eH, ok, r, r2, q⟩ => ?_) hs hpl))
  subst ev eH
  rcases r1 with _ | @⟨_, u, _, _, rv, rn⟩
  rcases rn with _ | @⟨_, u2, _, _, rv2, rn⟩
  cases rn
  cases p2 with
  | int k =>
    by_cases hk : smallI k = true
    · cases hl : elemsS p with
      | none => simp only [m, hk, if_true, hl] at q; exact q.elim
      | some l =>
        simp only [m, hk, if_true, hl] at q
        simp only [RelP] at r2
        subst r2
        obtain ⟨t, rfl⟩ := rv2
        obtain ⟨o, Hb, P, xs, S, B, hb, src, s0, hp, rl⟩ := begin_of I1 ok r rv hl
        obtain ⟨k1, k2⟩ := smallI_fit hk
        refine enum_begins B hb k1 k2 fun h' he hit hsz hk => wpAny_pyIter_enum he ?_
        have I2 : Inv X pins σ g.H { s1 with heap := h' } := I1.kept (t' := s1.toks) hk
        refine ⟨s1.heap.objs.size + 1, [s1.heap.objs.size + 1, s1.heap.objs.size], _, _, g.H, rfl, I2, turn_en k (src s1.heap.objs.size) (Nat.succ_ne_self _), ⟨⟨.none, by simpa using he⟩, s0 _ _ hit⟩, fun b hb => ?_, OutA.ok ok q (itRel_en k hp rl ok)⟩
        have lo : s1.heap.objs.size ≤ b := by
          rcases List.mem_cons.mp hb with z | z
          · rw [z]; exact Nat.le_add_right _ _
          · rw [List.mem_singleton.mp z]; exact Nat.le_refl _
        exact I1.fpOk lo (I1.hok.fresh lo)
    · simp only [m, hk] at q
      exact q.elim
  | _ => exact q.elim
end
end
end Mr
namespace L2
open PySem
theorem Room.u66 {k : Nat} {A : Around} (r : Room k A) : A.units + 66 < cLine := by have := r.un; omega
theorem Room.u1 {k : Nat} {A : Around} (r : Room k A) : A.units + 1 < cLine := by have := r.un; omega
end L2
namespace Mr
noncomputable section
open PySem PySem.Spec PyProof.Rows L2
/-! ### x[::-1] -/
theorem map_back {α : Type} (d : α) (l : List α) : (List.range l.length).map (fun k => l.getD (l.length - 1 - k) d) = l.reverse := by
  apply List.ext_getElem?
  intro i
  rw [List.getElem?_map]
  by_cases h : i < l.length
  · rw [List.getElem?_range h, List.getElem?_reverse h]
    have e : l.length - 1 - i < l.length := by omega
    simp [List.getD, List.getElem?_eq_getElem e]
  · rw [List.getElem?_eq_none_iff.mpr (by simpa using h), List.getElem?_eq_none_iff.mpr (by simpa using h)]
    rfl
theorem back_str (l : List Nat) : (⟨((PySem.Builtin.Str.strSliceIndices none none (-1) l.length).filterMap (l.toArray[·]?)).toArray⟩ : Str) = ⟨l.reverse.toArray⟩ := by
  apply TL.ext_tl
  show ((PySem.Builtin.Str.strSliceIndices none none (-1) l.length).filterMap (l.toArray[·]?)).toArray.toList = l.reverse.toArray.toList
  rw [picked_rev, List.toList_toArray, List.toList_toArray, filterMap_get, List.map_map, ← map_back 0 l]
  · apply List.map_congr_left
    intro k hk
    have hk' := List.mem_range.mp hk
    have e : l.length - 1 - k < l.length := by omega
    simp [Array.getD, List.getD, e]
  · intro i hi
    obtain ⟨k, hk, rfl⟩ := List.mem_map.mp hi
    have hk' := List.mem_range.mp hk
    simp
    omega
/-! a tuple, back to front -/
theorem fm_some {α β : Type} (f : α → Option β) (g : α → β) : ∀ l : List α, (∀ x ∈ l, f x = some (g x)) → l.filterMap f = l.map g
  | [], _ => rfl
  | x :: xs, h => by
    rw [List.filterMap_cons, h x List.mem_cons_self, fm_some f g xs fun y hy => h y (List.mem_cons_of_mem _ hy)]; rfl
theorem pick_back (xs : Array Value) : ((List.range xs.size).filterMap fun (k : Nat) => xs[((xs.size : Int) - 1 + (k : Int) * (-1)).toNat]?).toArray = xs.toList.reverse.toArray := by
  congr 1
  rw [fm_some _ (fun k => xs.toList.getD (xs.toList.length - 1 - k) default) _ fun k hk => ?_]
  · rw [← map_back default xs.toList, Array.length_toList]
  · have hk := List.mem_range.mp hk
    have e : ((xs.size : Int) - 1 + (k : Int) * (-1)).toNat = xs.size - 1 - k := by omega
    rw [e, Array.length_toList, List.getD_eq_getElem?_getD, Array.getElem?_toList, Array.getElem?_eq_getElem (by omega)]; rfl
section
variable {prog : Program} {w : World} {A : Around} {E : Value → Shared → Prop} {s : Shared}
theorem sliceApplied_back {sl : Addr} {vl vu vs : Value} {n : Nat} {Q : Int × Int × Nat → Shared → Prop} (hs : s.heap.IsSliceOf sl vl vu vs) (pl : IsPart vl none) (pu : IsPart vu none) (ps : IsPart vs (some (-1)))
    (h : Q ((n : Int) - 1, -1, n) s) : wpAny (model prog w) A (Builtin.Slice.sliceApplied (.ref sl) (pure (n : Int))) Q E s := by
  obtain ⟨os, hos, hcs, hds⟩ := id hs
  unfold Builtin.Slice.sliceApplied Builtin.Slice.sliceFields
  refine wpAny_bind (wpAny_bind (wpAny_field hos hds (x := vl) rfl (wpAny_bind (wpAny_field hos hds (x := vu) rfl (wpAny_bind (wpAny_field hos hds (x := vs) rfl (wpAny_pure ?_)))))))
  refine wpAny_bind (HT.slicePart_ ps ?_)
  show wpAny _ _ (if ((-1 : Int) == 0) = true then _ else _) _ _ s
  rw [if_neg (by decide)]
  refine wpAny_bind (HT.slicePart_ pl (wpAny_bind (HT.slicePart_ pu (wpAny_bind (wpAny_pure ?_)))))
  show wpAny _ _ (match Builtin.Slice.sliceAdjust none none (-1) (n : Int) with | (lo, hi) => pure (lo, (-1 : Int), Builtin.Slice.slicePlaces lo hi (-1))) _ _ s
  have e : Builtin.Slice.sliceAdjust none none (-1) (n : Int) = ((n : Int) - 1, -1) := rfl
  have e2 : Builtin.Slice.slicePlaces ((n : Int) - 1) (-1) (-1) = n := by
    unfold Builtin.Slice.slicePlaces
    rw [if_neg (by decide)]
    split
    · have : ((n : Int) - 1 - -1 - 1) / -(-1) = (n : Int) - 1 := by
        rw [show -(-1 : Int) = 1 from rfl, Int.ediv_one]; omega
      rw [this]; omega
    · omega
  rw [e]
  show wpAny _ _ (pure ((n : Int) - 1, (-1 : Int), Builtin.Slice.slicePlaces ((n : Int) - 1) (-1) (-1))) _ _ s
  rw [e2]
  exact wpAny_pure h
theorem getItem_tuple_back {t sl : Addr} {items : Array Value} {vl vu vs : Value} {Q : Value → Shared → Prop} (ht : IsTup s.heap t items) (hs : s.heap.IsSliceOf sl vl vu vs) (pl : IsPart vl none) (pu : IsPart vu none) (ps : IsPart vs (some (-1)))
    (h : Q (.ref s.heap.objs.size) { s with heap := s.heap.push { cls := .type "tuple", data := .seq items.toList.reverse.toArray } })
    (hsz : items.size ≤ sizeLine) : wpAny (model prog w) A (getItem (.ref t) (.ref sl)) Q E s := by
  have htake : sizeOk (.seq items.toList.reverse.toArray) := by
    show items.toList.reverse.toArray.size ≤ sizeLine
    rw [List.size_toArray, List.length_reverse, Array.length_toList]
    exact hsz
  obtain ⟨os, hos, hcs, hds⟩ := id hs
  have hTs : s.TypeIs (.ref sl) "slice" := ⟨os, hos, hcs⟩
  unfold getItem
  try with_reducible refine wpAny_holding ?_
  first | refine wpAny_bind (wpAny_pure ?_) | skip
  refine wpAny_bind (wpAny_sequenceKey ht.typeIs (by decide) ?_)
  refine wpAny_bind (wpAny_callSpecial?_slot (name := Str.ofString "__getitem__") ht.typeIs PyProof.Rows.slot_tuple_getitem
    (wpAny_call_entry PyProof.Rows.slot_tuple_getitem ht.typeIs PyProof.Rows.entry_tuple_getitem ?_ (PyProof.Rows.args_tuple_getitem _ _)))
  show wpAny _ _ (Builtin.Tuple.tupleItemsOf (.ref t) >>= _) _ _ s
  refine wpAny_bind (tupleItemsOf_ ht ?_)
  refine wpAny_bind (wpAny_typeOf hTs ?_)
  rw [if_pos (by decide)]
  refine wpAny_bind (sliceApplied_back hs pl pu ps ?_)
  have hno : ¬ ((((items.size : Int) - 1) == 0 && (-1 : Int) == 1 && items.size == items.size) = true) := by
    intro q
    rw [Bool.and_eq_true, Bool.and_eq_true] at q
    exact absurd (eq_of_beq q.1.2) (by decide)
  show wpAny _ _ (if (((items.size : Int) - 1) == 0 && (-1 : Int) == 1 && items.size == items.size) = true then _ else _) _ _ s
  rw [if_neg hno, pick_back]
  first
    | exact wpAny_bind (m := Builtin.Tuple.tupleExact _) (wpAny_newObj_type (wpAny_pure ⟨_, rfl, wpAny_pure h⟩) htake)
    | exact wpAny_bind (m := Builtin.Tuple.tupleExact _) (wpAny_newObj_type (wpAny_bind (wpAny_pure (wpAny_pure ⟨_, rfl, wpAny_pure h⟩))) htake)
    | exact wpAny_bind (wpAny_bind (m := Builtin.Tuple.tupleExact _) (wpAny_newObj_type (wpAny_pure (wpAny_pure ⟨_, rfl, wpAny_pure h⟩)) htake))
    | exact wpAny_bind (wpAny_bind (m := Builtin.Tuple.tupleExact _) (wpAny_newObj_type (wpAny_pure ⟨_, rfl, wpAny_pure h⟩) htake))
end
section
variable {K : PySem.W.Frag} {mg : MG} {g : G} {X : Cx} {W : WY} {pos : Pos} {e : Expr} {f : EX}
/-- what stands of x[::-1], x a list or a text -/
def RevM (K : PySem.W.Frag) (mg : MG) : V → Hp → VK → Prop := fun x H Q => ∃ g p z, g.H = H ∧ g.Ok K mg ∧ RelD K mg g p x ∧ pRev p = some z ∧ ∀ g' v, Ext g g' → g'.Ok K mg → g'.s = g.s → RelP K mg g' z v → Q v g'.H
theorem pe_rev {k : Nat} {p1 p2 p3 : Pos} {te : TE} (he : PE X e te) : PE X (.Subscript e (.Slice none none (some (.UnaryOp .USub (.Constant (.int 1) k p1) p2)) p3) pos) (fun σ H Q => te σ H fun x H1 => RevM X.K X.mg x H1 Q) := by
  refine ⟨fun pins s σ H Q I h => ?_⟩
  refine Subscript_ (thn (he.run pins s σ H _ I h) fun v s1 ⟨x, H1, I1, r1, g, p, z, eH, ok, rd, hz, q⟩ => ?_)
  have hst : L2.PO X (some (.UnaryOp .USub (.Constant (.int 1) k p1) p2)) (tPart (tUn (rU fun i => .int (-i)) (tC (.int 1)))) := po_some (pe_un un_neg pe_int)
  refine wpAny_Slice (thn (po_none.run pins s1 σ H1 (fun o H2 => o = none ∧ H2 = H1) I1 ⟨rfl, rfl⟩) fun vl s2 ⟨l, H2, I2, pl, el, e2⟩ => ?_)
  subst el e2
  refine thn (po_none.run pins s2 σ H2 (fun o H3 => o = none ∧ H3 = H2) I2 ⟨rfl, rfl⟩) fun vu s3 ⟨u, H3, I3, pu, eu, e3⟩ => ?_
  subst eu e3
  refine thn (hst.run pins s3 σ H3 (fun o H4 => o = some (-1) ∧ H4 = H3) I3 ⟨1, rfl, -1, rfl, rfl, rfl⟩) fun vs s4 ⟨o, H4, I4, ps, eo, e4⟩ => ?_
  subst eo e4
  have I5 : Inv X pins σ H4 { s4 with heap := s4.heap.push { cls := .type "slice", data := .fields #[vl, vu, vs] } } := I4.kept (t' := s4.toks) fun b ob z => Heap.get?_push_of_some _ z
  subst eH
  show wpAny (model X.prog X.w) X.A (subscriptTail e (.Slice none none (some (.UnaryOp .USub (.Constant (.int 1) k p1) p2)) p3) v (.ref s4.heap.objs.size)) (EP X pins σ Q) X.xe _
  unfold pRev at hz
  split at hz
  · rename_i l
    split at hz
    · rename_i hl
      cases hz
      obtain rfl := relS rd
      obtain ⟨t, rfl⟩ := r1
      obtain ⟨l1, rfl, e1⟩ := IsPart.raw pl
      obtain ⟨l2, rfl, e2⟩ := IsPart.raw pu
      obtain ⟨l3, rfl, e3⟩ := IsPart.raw ps
      cases l1 with
      | some _ => cases e1
      | none =>
        cases l2 with
        | some _ => cases e2
        | none =>
          cases l3 with
          | none => cases e3
          | some it =>
            obtain ⟨i, tt⟩ := it
            cases e3
            refine tail_any (ops := [.str ⟨l.toArray⟩ t, .ref s4.heap.objs.size]) (typeIs_str _ _ _) (PySem.F.slot_str_getitem.lookup) ?_ (by with_unfolding_all rfl)
            refine wpAny_getItem_str_slice (l := none) (u := none) (st := some (-1, tt)) ⟨_, Heap.get?_push_size _ rfl, rfl, rfl⟩ rfl ?_
            have hne : ¬ (((((some ((-1 : Int), tt)).map (·.1)).getD 1 == 1) && (slicePicked ⟨l.toArray⟩ none none (some (-1, tt))).length == (⟨l.toArray⟩ : Str).length) = true) := by simp
            unfold sliceMade
            rw [if_neg hne]
            have eb : (⟨((slicePicked ⟨l.toArray⟩ none none (some ((-1 : Int), tt))).filterMap ((⟨l.toArray⟩ : Str).cps[·]?)).toArray⟩ : Str) = ⟨l.reverse.toArray⟩ := back_str l
            rw [eb]
            refine ⟨by rw [strlen, List.length_reverse]; exact toSz hl, .str _, g.H, I5.tok _, ⟨_, rfl⟩, fin_str ok q⟩
    · cases hz
  · rename_i l
    cases hz
    obtain ⟨a, xs, rfl, h1, h2⟩ := relL rd
    cases r1
    obtain ⟨its, r, ht, hz⟩ := I5.list (SqL.of h1)
    have hlen := r.length
    refine tail_any (ops := [.ref a, .ref s4.heap.objs.size]) ht.isList.typeIs (PySem.slot_list_getitem.lookup) ?_ (by with_unfolding_all rfl)
    refine wpAny_getItem_list_slice ht.isList (Heap.IsSliceOf.new _ vl vu vs) pl pu ps (by decide) ?_ (by rw [List.size_toArray]; omega)
    rw [PySem.W.krv_pick]
    refine ⟨.ref _, _, I5.laid (t' := s4.toks) (o := .lst xs.reverse) (fun b ob z => Heap.get?_push_of_some _ z) (Nat.le_refl _) ⟨by rw [List.length_reverse]; exact hz, _, 0, r.reverse, Heap.get?_push_size _ rfl⟩, rfl, ?_⟩
    exact fin_lst ok h2.reverse q _ (I5.hok.fresh (Nat.le_refl _))
  · rename_i l
    cases hz
    obtain ⟨a, xs, rfl, h1, h2⟩ := relT rd
    cases r1
    obtain ⟨its, r, ht, hz⟩ := I5.tuple (SqT.of h1)
    have hlen := r.length
    refine tail_any (ops := [.ref a, .ref s4.heap.objs.size]) ht.typeIs (PyProof.Rows.slot_tuple_getitem.lookup) ?_ (by with_unfolding_all rfl)
    refine getItem_tuple_back ht (Heap.IsSliceOf.new _ vl vu vs) pl pu ps ?_ (by rw [List.size_toArray]; omega)
    refine ⟨.ref _, _, I5.laid (t' := s4.toks) (o := .tup xs.reverse) (fun b ob z => Heap.get?_push_of_some _ z) (Nat.le_refl _) ⟨by rw [List.length_reverse]; exact hz, _, r.reverse, IsTup.new _ _⟩, rfl, ?_⟩
    exact fin_tup ok h2.reverse q _ (I5.hok.fresh (Nat.le_refl _))
  · cases hz
theorem ie_rev {k : Nat} {p1 p2 p3 : Pos} (he : IE X W e f) : IE X W (.Subscript e (.Slice none none (some (.UnaryOp .USub (.Constant (.int 1) k p1) p2)) p3) pos) (eUn pRev f) :=
  PE.weak (pe_rev he) fun σ H Q q => by
    refine (RdA.seq (R := fun g p v => RelP X.K X.mg g p v) (f := f) (k := fun x e s => ofO (pRev (deref s x)) s) q).imp fun v H1 q => ?_
    obtain ⟨p, g, env, rfl, ok, re, r, q⟩ := q
    cases hz : pRev (deref g.s p) with
    | none => rw [hz] at q; exact q.elim
    | some z =>
      rw [hz] at q
      exact ⟨g, _, z, rfl, ok, r.deref ok, hz, fun g' w x' ok' es r' => q g' w x' ok' es r'⟩
end
/-! ### what is given of the top -/
section
variable {P : Program} {w : World} {K : PySem.W.Frag} {mg : MG} {base : Heap}
theorem Def.zero {k : Nat} {x y : Str} {st : Stmt} {ps : List Str} (F : ∃ f fd, mg y = some (.ref f) ∧ Fun K x x st f fd) (hb : ∀ {f : Addr} {fd : FuncData}, Fun K x x st f fd → Binds K fd ps []) : Def P w K mg base k y st ps (fun _ _ => .stuck) := by
  obtain ⟨f, fd, hm, F⟩ := F
  exact ⟨x, f, fd, hm, F.kp, F, hb F, ⟨fun _ _ _ _ h => h.1, fun _ _ _ _ _ _ _ _ _ _ _ _ _ h => (h.2.elim fun _ h => h.elim fun _ h => h.2.2.2.elim)⟩⟩
/-- what is known of each class of errors that the text names -/
structure Errs (K : PySem.W.Frag) (mg : MG) (cs : List String) : Prop where
  cls : ∀ c ∈ cs, ∀ D, mg (Str.ofString c) = some (.ref D) → ClsF K D
  given : ∀ c ∈ cs, ∀ D, mg (Str.ofString c) = some (.ref D) → attrOf c = Str.ofString "given" → ∃ cl f, EG.Txt K mg cl D f
  index : ∀ c ∈ cs, ∀ D, mg (Str.ofString c) = some (.ref D) → attrOf c = Str.ofString "index" → ∃ cl f, EI.Txt K mg cl D f
theorem Errs.nil : Errs K mg [] := ⟨fun _ h => (nomatch h), fun _ h => (nomatch h), fun _ h => (nomatch h)⟩
theorem Errs.consG {c : String} {cs : List String} {C f : Addr} (h : Errs K mg cs) (T : EG.Txt K mg (Str.ofString c) C f) (k : ClsF K C) (hc : attrOf c ≠ Str.ofString "index" := by decide +kernel) : Errs K mg (c :: cs) where
  cls := fun d hd D hm => by
    rcases List.mem_cons.mp hd with rfl | hd
    · rw [T.g] at hm; cases hm; exact k
    · exact h.cls d hd D hm
  given := fun d hd D hm ha => by
    rcases List.mem_cons.mp hd with rfl | hd
    · rw [T.g] at hm; cases hm; exact ⟨_, _, T⟩
    · exact h.given d hd D hm ha
  index := fun d hd D hm ha => by
    rcases List.mem_cons.mp hd with rfl | hd
    · exact absurd ha hc
    · exact h.index d hd D hm ha
theorem Errs.consI {c : String} {cs : List String} {C f : Addr} (h : Errs K mg cs) (T : EI.Txt K mg (Str.ofString c) C f) (k : ClsF K C) (hc : attrOf c ≠ Str.ofString "given" := by decide +kernel) : Errs K mg (c :: cs) where
  cls := fun d hd D hm => by
    rcases List.mem_cons.mp hd with rfl | hd
    · rw [T.g] at hm; cases hm; exact k
    · exact h.cls d hd D hm
  given := fun d hd D hm ha => by
    rcases List.mem_cons.mp hd with rfl | hd
    · exact absurd ha hc
    · exact h.given d hd D hm ha
  index := fun d hd D hm ha => by
    rcases List.mem_cons.mp hd with rfl | hd
    · rw [T.g] at hm; cases hm; exact ⟨_, _, T⟩
    · exact h.index d hd D hm ha
theorem pa_str : PlainAttrs "str" := PySem.F.plainAttrs_str
end
end
end Mr
namespace Mr
noncomputable section
open PySem PySem.Spec PyProof.Rows L2
/-! ### == of dicts, too, where they are the same -/
def flatEq : PV → PV → Bool
  | .non, .non => true
  | .bl a, .bl b => a == b
  | .int a, .int b => a == b
  | .str a, .str b => a == b
  | _, _ => false
def dsame : List PV → List PV → List PV → List PV → Bool
  | k :: ks, v :: vs, ls, ws => (match dget ls ws k with
    | some w => flatEq v w
    | none => false) && dsame ks vs ls ws
  | _, _, _, _ => true
def pEq2 (x y : PV) : Option Bool := match x, y with
  | .dct false ks vs, .dct false ls ws => if (ks.length == ls.length && dsame ks vs ls ws) = true then some true else none
  | x, y => pEq x y
def pNe2 (x y : PV) : Option Bool := (pEq2 x y).map (!·)
section
variable {K : PySem.W.Frag} {mg : MG} {g : G} {X : Cx}
theorem flatEq_rel {p q : PV} {v w : V} (h : flatEq p q = true) (r : RelP K mg g p v) (r2 : RelP K mg g q w) : v = w ∧ flatB v = true := by
  cases p <;> cases q <;> simp_all [flatEq, RelP, flatB]
theorem dsame_rel {ls : List (Key × V)} {ws : List PV} (rw_ : RelPs K mg g ws (ls.map (·.2))) : ∀ {ks : List (Key × V)} {vs : List PV}, RelPs K mg g vs (ks.map (·.2)) →
    dsame (ks.map fun q => pvKey q.1) vs (ls.map fun q => pvKey q.1) ws = true → ∀ p ∈ ks, valV ls p.1 = some p.2 ∧ flatB p.2 = true
  | [], vs, _, _ => fun p hp => nomatch hp
  | q :: ks, vs, r, h => by
    cases vs with
    | nil => simp [RelPs] at r
    | cons v vs =>
      simp only [List.map_cons, RelPs] at r
      obtain ⟨u, rs, e, r1, r2⟩ := r
      cases e
      simp only [List.map_cons, dsame, Bool.and_eq_true] at h
      intro p hp
      rcases List.mem_cons.mp hp with rfl | hp
      · cases hd : dget (ls.map fun q => pvKey q.1) ws (pvKey p.1) with
        | none => rw [hd] at h; exact absurd h.1 (by simp)
        | some w =>
          rw [hd] at h
          obtain ⟨v2, e2, r3⟩ := (dget_k (k := p.1) rw_).1 w hd
          obtain ⟨e3, e4⟩ := flatEq_rel h.1 r1 r3
          exact ⟨by rw [e2, e3], e4⟩
      · exact dsame_rel rw_ r2 h.2 p hp
theorem pEq2_some {x y : PV} {b : Bool} (h : pEq2 x y = some b) : pEq x y = some b ∨ (b = true ∧ ∃ ks vs ls ws, x = .dct false ks vs ∧ y = .dct false ls ws ∧ ks.length = ls.length ∧ dsame ks vs ls ws = true) := by
  unfold pEq2 at h
  split at h
  · split at h
    · rename_i hc
      cases h
      simp only [Bool.and_eq_true, beq_iff_eq] at hc
      exact .inr ⟨rfl, _, _, _, _, rfl, rfl, hc.1, hc.2⟩
    · cases h
  · exact .inl h
theorem eq_dct {pins : List (Addr × Obj)} {s : Shared} {σ : L2.St} {x y : V} {v u : Value} {ks vs ls ws : List PV} (I : L2.Inv X pins σ g.H s) (rx : L2.RelV x v) (ry : L2.RelV y u) (r1 : RelD X.K X.mg g (.dct false ks vs) x) (r2 : RelD X.K X.mg g (.dct false ls ws) y)
    (hl : ks.length = ls.length) (hd : dsame ks vs ls ws = true) : ∃ (a b : Addr) (kvs lvs : List (Key × V)), v = .ref a ∧ u = .ref b ∧ Rd g.H a (.dK kvs) ∧ Rd g.H b (.dK lvs) ∧ kvs.length = lvs.length ∧ ∀ p ∈ kvs, valV lvs p.1 = some p.2 ∧ flatB p.2 = true := by
  simp only [RelD] at r1 r2
  obtain ⟨a, rfl, ⟨_, kvs, h1, rfl, h3⟩ | ⟨z, _⟩⟩ := r1
  · obtain ⟨b, rfl, ⟨_, lvs, k1, rfl, k3⟩ | ⟨z, _⟩⟩ := r2
    · cases rx
      cases ry
      exact ⟨a, b, kvs, lvs, rfl, rfl, h1, k1, by simpa using hl, dsame_rel k3 h3 hd⟩
    · cases z
  · cases z
theorem o_eq2 (hu : X.A.units + 64 < cLine) : OpR X (compareOp .Eq) (OpM X.K X.mg fun x y => (pEq2 x y).map .bl) := cm_of fun pins s σ x y v u Q g px py b ok I rx ry r1 r2 hm q => by
  rcases pEq2_some hm with hm | ⟨rfl, ks, vs, ls, ws, rfl, rfl, hl, hd⟩
  · obtain ⟨h1, h2, h3, rfl⟩ := pEq_some hm
    obtain ⟨as, q1⟩ := Dp.reads I _ x v (r1.dp h1) rx
    obtain ⟨bs, q2⟩ := Dp.reads I _ y u (r2.dp h2) ry
    refine SeqAt.eq_plain q1 q2 (toD_plain px) (toD_plain py) (by rw [toD_dep, toD_dep]; omega) ?_
    rw [toD_eqv px py h1 h2]
    exact ⟨.bl _, g.H, I, rfl, q⟩
  · obtain ⟨a, b, kvs, lvs, rfl, rfl, e1, e2, hlen, hp⟩ := eq_dct I rx ry r1 r2 hl hd
    obtain ⟨_, ya, va, ra, da⟩ := dk_rd I.hok e1
    obtain ⟨_, yb, vb, rb, db⟩ := dk_rd I.hok e2
    have hv : va.length = vb.length := by rw [← ra.length, ← rb.length]; exact hlen
    exact PySem.W.keq_eq (knd := mixKind X.prog X.w) (r := true) ya yb da db (by omega) (fun _ => hits_all rb ra hp) (L2.fin_bl I q (by simp [hv]))
theorem o_ne2 (hu : X.A.units + 64 < cLine) : OpR X (compareOp .NotEq) (OpM X.K X.mg fun x y => (pNe2 x y).map .bl) := cm_of fun pins s σ x y v u Q g px py b ok I rx ry r1 r2 hm q => by
  obtain ⟨c, hm2, rfl⟩ := Option.map_eq_some_iff.mp hm
  rcases pEq2_some hm2 with hm2 | ⟨rfl, ks, vs, ls, ws, rfl, rfl, hl, hd⟩
  · obtain ⟨h1, h2, h3, rfl⟩ := pEq_some hm2
    obtain ⟨as, q1⟩ := Dp.reads I _ x v (r1.dp h1) rx
    obtain ⟨bs, q2⟩ := Dp.reads I _ y u (r2.dp h2) ry
    refine SeqAt.ne_plain q1 q2 (toD_plain px) (toD_plain py) (by rw [toD_dep, toD_dep]; omega) ?_
    rw [toD_eqv px py h1 h2]
    exact ⟨.bl _, g.H, I, rfl, q⟩
  · obtain ⟨a, b, kvs, lvs, rfl, rfl, e1, e2, hlen, hp⟩ := eq_dct I rx ry r1 r2 hl hd
    obtain ⟨_, ya, va, ra, da⟩ := dk_rd I.hok e1
    obtain ⟨_, yb, vb, rb, db⟩ := dk_rd I.hok e2
    have hv : va.length = vb.length := by rw [← ra.length, ← rb.length]; exact hlen
    exact PySem.W.keq_ne (knd := mixKind X.prog X.w) (r := true) ya yb da db (by omega) (fun _ => hits_all rb ra hp) (L2.fin_bl I q (by simp [hv]))
end
end
end Mr
namespace Mr
noncomputable section
open PySem PySem.Spec PyProof.Rows L2
/-! ### the end -/
def FnIn (K : PySem.W.Frag) (y x : Str) (st : Stmt) : Prop := ∃ (f : Addr) (oc : Value) (od an : Option Addr) (osl : Array (Option Value)) (kV doc pm cdv ct : Value), PySem.W.nsIn K mainGlobals y = some (some (.ref f)) ∧
  K.lookup f = some ⟨oc, od, .func (PySem.W.fnOf x x (defArgs st) (defBody st) (defScope st) .none kV doc pm an cdv ct), osl⟩ ∧ PySem.W.codeIn K cdv x = true ∧ PySem.W.keepIn K (.ref f) = true
section
variable {K : PySem.W.Frag} {mg : MG} {h : Heap} {x y : Str} {st : Stmt}
theorem fn_in {f : Addr} {oc : Value} {od an : Option Addr} {osl : Array (Option Value)} {kV doc pm cdv ct : Value} (a : PySem.W.nsIn K mainGlobals y = some (some (.ref f)))
    (l : K.lookup f = some ⟨oc, od, .func (PySem.W.fnOf x x (defArgs st) (defBody st) (defScope st) .none kV doc pm an cdv ct), osl⟩) (c : PySem.W.codeIn K cdv x = true) (k : PySem.W.keepIn K (.ref f) = true) : FnIn K y x st := ⟨f, oc, od, an, osl, kV, doc, pm, cdv, ct, a, l, c, k⟩
theorem FnIn.get (X : K.In h) (G : h.Ns mainGlobals mg) (F : FnIn K y x st) : ∃ f fd, mg y = some (.ref f) ∧ Fun K x x st f fd := by
  obtain ⟨f, oc, od, an, osl, kV, doc, pm, cdv, ct, a, l, c, k⟩ := F
  exact ⟨f, _, PySem.W.mg_of X G a, fun_mk (st := st) l c k⟩
/-- two classes of errors -/
theorem cls_pair {D C : Addr} {b : Bool} (h1 : PySem.W.subIn K (.ref C) (.type "BaseException") = some true) (hd : PySem.W.hasDictIn K C = true) (ht : PySem.W.typeIn K (.ref C) = some (.type "type")) (h4 : PySem.W.subIn K (.ref D) (.ref C) = some b) (he : D = C → b = true) :
    PySem.W.exmOne K (.ref D) (.ref C) = some b ∧ PySem.W.kitOne K (.ref D) (.ref C) = some b := by
  refine ⟨PySem.W.exm_ref h1 hd ht h4, ?_⟩
  unfold PySem.W.kitOne
  by_cases e : D = C
  · rw [he e, e, if_pos (by simp)]
  · rw [if_neg (by simpa using e)]
    obtain ⟨cd, hc, _⟩ := PySem.W.any_some hd
    have e2 : ((PySem.W.clsIn K C).isSome && PySem.W.typeIn K (.ref C) == some (.type "type")) = true := by rw [hc, ht] <;> rfl
    show (if ((PySem.W.clsIn K C).isSome && PySem.W.typeIn K (.ref C) == some (.type "type")) = true then PySem.W.subIn K (.ref D) (.ref C) else none) = some b
    rw [if_pos e2]
    exact h4
end
/-- what the class cl says of its instances' class -/
def ClsIn (K : PySem.W.Frag) (cl : Str) : Prop := ∃ C, PySem.W.nsIn K mainGlobals cl = some (some (.ref C)) ∧ ClsF K C
theorem clsIn_of {K : PySem.W.Frag} {cl : Str} {C : Addr} (h0 : PySem.W.nsIn K mainGlobals cl = some (some (.ref C))) (h1 : PySem.W.findIn K (.ref C) "__getattribute__" = some (some (.builtin "BaseException.__getattribute__"))) (h2 : PySem.W.findIn K (.ref C) "__getattr__" = some none)
    (h3 : PySem.W.subIn K (.ref C) (.type "BaseException") = some true) (h4 : PySem.W.hasDictIn K C = true) (h5 : PySem.W.findIn K (.ref C) "__class__" = some (some (.builtin "object.__class__")))
    (h6 : PySem.W.specialIn K (.builtin "object.__class__") "__get__" = some (some (.builtin "getset_descriptor.__get__"))) (h7 : PySem.W.takesIn K (.builtin "object.__class__") = some true) (h8 : PySem.W.mroIn K C (.type "object") = some true) : ClsIn K cl := ⟨C, h0, ⟨h1, h2, h3, h4, h5, h6, h7, h8⟩⟩
/-- a class of errors and one that may be asked for -/
def PairIn (K : PySem.W.Frag) (d c : Str) (b : Bool) : Prop := ∃ D C, PySem.W.nsIn K mainGlobals d = some (some (.ref D)) ∧ PySem.W.nsIn K mainGlobals c = some (some (.ref C)) ∧ PySem.W.exmOne K (.ref D) (.ref C) = some b ∧ PySem.W.kitOne K (.ref D) (.ref C) = some b
theorem pairIn_of {K : PySem.W.Frag} {d c : Str} {D C : Addr} {b : Bool} (a1 : PySem.W.nsIn K mainGlobals d = some (some (.ref D))) (a2 : PySem.W.nsIn K mainGlobals c = some (some (.ref C))) (h1 : PySem.W.subIn K (.ref C) (.type "BaseException") = some true) (hd : PySem.W.hasDictIn K C = true)
    (ht : PySem.W.typeIn K (.ref C) = some (.type "type")) (h4 : PySem.W.subIn K (.ref D) (.ref C) = some b) (he : D = C → b = true) : PairIn K d c b := ⟨D, C, a1, a2, cls_pair h1 hd ht h4 he⟩
section
variable {K : PySem.W.Frag} {mg : MG} {h : Heap}
theorem pairs_get {c : String} {cs : List String} (X : K.In h) (G : h.Ns mainGlobals mg) (n : ∃ C, PySem.W.nsIn K mainGlobals (Str.ofString c) = some (some (.ref C))) (a : ∀ d ∈ cs, PairIn K (Str.ofString d) (Str.ofString c) (subE d c)) :
    ∃ C, mg (Str.ofString c) = some (.ref C) ∧ ∀ d ∈ cs, ∀ D, mg (Str.ofString d) = some (.ref D) → PySem.W.exmOne K (.ref D) (.ref C) = some (subE d c) ∧ PySem.W.kitOne K (.ref D) (.ref C) = some (subE d c) := by
  obtain ⟨C, n⟩ := n
  refine ⟨C, PySem.W.mg_of X G n, fun d hd D hm => ?_⟩
  obtain ⟨D', C', e1, e2, e3⟩ := a d hd
  rw [PySem.W.mg_of X G e1] at hm
  cases hm
  rw [n] at e2
  cases e2
  exact e3
theorem errs_G {c : String} {cs : List String} (X : K.In h) (G : h.Ns mainGlobals mg) (a : EG.In K (Str.ofString c)) (b : ClsIn K (Str.ofString c)) (r : Errs K mg cs) (hc : attrOf c ≠ Str.ofString "index" := by decide +kernel) : Errs K mg (c :: cs) := by
  obtain ⟨C, f, n, T⟩ := a
  obtain ⟨C', n', k⟩ := b
  rw [n] at n'
  cases n'
  exact r.consG (T mg (PySem.W.mg_of X G n)) k hc
theorem errs_I {c : String} {cs : List String} (X : K.In h) (G : h.Ns mainGlobals mg) (a : EI.In K (Str.ofString c)) (b : ClsIn K (Str.ofString c)) (r : Errs K mg cs) (hc : attrOf c ≠ Str.ofString "given" := by decide +kernel) : Errs K mg (c :: cs) := by
  obtain ⟨C, f, n, T⟩ := a
  obtain ⟨C', n', k⟩ := b
  rw [n] at n'
  cases n'
  exact r.consI (T mg (PySem.W.mg_of X G n)) k hc
theorem err_G {cl : Str} (X : K.In h) (G : h.Ns mainGlobals mg) (a : EG.In K cl) : ∃ C f, EG.Txt K mg cl C f := by
  obtain ⟨C, f, n, T⟩ := a
  exact ⟨C, f, T mg (PySem.W.mg_of X G n)⟩
theorem err_I {cl : Str} (X : K.In h) (G : h.Ns mainGlobals mg) (a : EI.In K cl) : ∃ C f, EI.Txt K mg cl C f := by
  obtain ⟨C, f, n, T⟩ := a
  exact ⟨C, f, T mg (PySem.W.mg_of X G n)⟩
theorem glob_get {x : Str} {v : Tok → Value} (X : K.In h) (G : h.Ns mainGlobals mg) (a : ∃ t, PySem.W.nsIn K mainGlobals x = some (some (v t))) : ∃ t, mg x = some (v t) := a.imp fun _ q => PySem.W.mg_of X G q
end
theorem n_in {K : PySem.W.Frag} {x : Str} {C : Addr} (h : PySem.W.nsIn K mainGlobals x = some (some (.ref C))) : ∃ C, PySem.W.nsIn K mainGlobals x = some (some (.ref C)) := ⟨C, h⟩
theorem gs_in {K : PySem.W.Frag} {x y : Str} {t : Tok} (h : PySem.W.nsIn K mainGlobals x = some (some (.str y t))) : ∃ t, PySem.W.nsIn K mainGlobals x = some (some (.str y t)) := ⟨t, h⟩
theorem gi_in {K : PySem.W.Frag} {x : Str} {i : Int} {t : Tok} (h : PySem.W.nsIn K mainGlobals x = some (some (.int i t))) : ∃ t, PySem.W.nsIn K mainGlobals x = some (some (.int i t)) := ⟨t, h⟩
/-- the law's promise at its script -/
def LawSp (K : PySem.W.Frag) : Sp := fun vs H Q _ => ∃ (a : Addr) (ns : List Int), vs = [.ref a] ∧ ns.length ≤ 63 ∧ (∀ z ∈ ns, Builtin.Int.intBits z ≤ 1048576) ∧ Only H ∧ SqL K H a (ns.map V.int) ∧ ∀ H', Q (.bl true) H'
def ms0 : MS := ⟨0, fun _ => none⟩
theorem ints_rel {K : PySem.W.Frag} {mg : MG} {g : G} : ∀ ns : List Int, RelPs K mg g (ns.map PV.int) (ns.map V.int)
  | [] => RelPs.nil
  | n :: r => RelPs.cons (by simp only [RelP]) (ints_rel r)
theorem law_walk {l : PySem.W.OpenLaw} {k : Nat} {q : Program} {loose : List Str} {XP : (Str → Option Value) → Heap → Prop} {YP : World → Heap → Prop} {d : DefRec} {K : Params → PySem.W.Frag} {st : Stmt} {F : FN} {Top : PySem.W.Frag → MG → Prop}
    (hn : l.most = some 63) (hdf : d.params.defaults = []) (hd : d.name = "law") (hr : Room k callerA) (hY : ∀ (w : World) (h : Heap), YP w h → (K w.params).In h)
    (D : ∀ {P : Program} {w : World} {K : PySem.W.Frag} {mg : MG} {base : Heap}, Top K mg → Def P w K mg base k "law" st ["script"] F)
    (hb : ∀ (nm : Str) (kV doc pm : Value) (an : Option Addr) (cdv ct : Value) (u : Value), bindArgs (PySem.W.fnOf nm nm (defArgs st) (defBody st) (defScope st) .none kV doc pm an cdv ct) ⟨[u], []⟩ = pure [(("script" : Str), u)])
    (T : ∀ (w : World) (mg : MG) (h : Heap), (K w.params).In h → h.Ns mainGlobals mg → Top (K w.params) mg)
    (pure_ : ∀ ns : List Int, ns.length ≤ 63 → (∀ z ∈ ns, Builtin.Int.intBits z ≤ 1048576) → ∃ s, F [.scr (ns.map PV.int)] ms0 = .ok (.bl true) s) :
    PySem.W.WalkO q loose XP YP l.row.toRowW d [] (fun f vs => PySem.call f vs) := by
  refine walk_ofB (n := 63) (k := k) (x := "script") (CX := fun w => L2.CX l.prog w) (sp := fun w => LawSp (K w.params)) hn (by decide) hdf hr hY (fun w mg fa h KX G hmg => ?_) (fun w H a ns hl hbits hO hS => ⟨a, ns, rfl, hl, hbits, hO, hS, fun _ => rfl⟩) (fun w H s e s' ⟨_, _, _, _, _, _, _, _, _, _, _, _, z⟩ => z)
  have TT := T w mg h KX G
  obtain ⟨nm, f, fd, hm, hk, F0, hbd, hF⟩ := (D (P := l.prog) (w := w) (base := h) TT).ex
  rw [hd, hm] at hmg
  cases hmg
  refine ⟨fd, fun s u => ?_, fun base hb1 hb2 => ?_⟩
  · obtain ⟨oc, od, kV, doc, pm, an, cdv, ct, osl, rfl, _⟩ := F0.ex
    exact .of_eq (hb nm kV doc pm an cdv ct u)
  · obtain ⟨nm2, f2, fd2, hm2, hk2, F2, hbd2, hF2⟩ := (D (P := l.prog) (w := w) (base := base) TT).ex
    rw [hm] at hm2
    cases hm2
    have efd : fd2 = fd := by
      obtain ⟨oc, od, kV, doc, pm, an, cdv, ct, osl, rfl, lk, _⟩ := F0.ex
      obtain ⟨oc2, od2, kV2, doc2, pm2, an2, cdv2, ct2, osl2, rfl, lk2, _⟩ := F2.ex
      have e := Option.some.inj (lk.symm.trans lk2)
      injection e with _ _ e3 _
      injection e3 with e4
      exact e4.symm
    subst efd
    refine hF2.imp fun vs H Q E ⟨a, ns, ev, hl, hbits, hO, hS, hQ⟩ => ?_
    subst ev
    obtain ⟨s, hs⟩ := pure_ ns hl hbits
    refine ⟨rfl, ⟨H, fun _ => False, fun _ => 0, ms0⟩, [.scr (ns.map PV.int)], rfl, ⟨fun _ _ => rfl, fun _ _ h => absurd rfl h, fun _ h => absurd rfl h, fun _ h => h.elim, fun _ _ h => nomatch h⟩, ?_, ?_⟩
    · refine RelPs.cons ?_ RelPs.nil
      simp only [RelP]
      refine ⟨a, _, rfl, ?_, ints_rel ns⟩
      rcases hS with (h1 | h1) | h1
      · rcases hO a with z | ⟨o, xs, z⟩
        · rw [z] at h1; cases h1
        · rw [z] at h1; cases h1
      · exact .inl h1
      · exact .inr h1
    · show (match F [.scr (ns.map PV.int)] ms0 with
        | .ok p s' => _
        | .exc c p s' => _
        | .stuck => False)
      rw [hs]
      intro g' v x ok es r
      simp only [RelP] at r
      subst r
      exact hQ _
end
end Mr
namespace Mr
noncomputable section
open PySem PySem.Spec PyProof.Rows L2
/-! ### plain evaluation -/
section
variable {α β : Type} {e : Env} {s : MS} {f h k : EX} {fs : List EX} {p q : PV} {c d : ET} {i : Nat}
@[simp] theorem ap_var : eVar i e s = match e[i]? with
  | some (some p) => .ok p s
  | _ => .stuck := rfl
@[simp] theorem ap_c : eC p e s = .ok p s := rfl
@[simp] theorem ap_bin {op : PV → PV → Option PV} : eBin op f h e s = (f e s).bind fun x s => (h e s).bind fun y s => ofO (op (deref s x) (deref s y)) s := rfl
@[simp] theorem ap_cm {m : PV → PV → Option Bool} : eCm m f h e s = (f e s).bind fun x s => (h e s).bind fun y s => ofO ((m (deref s x) (deref s y)).map .bl) s := rfl
@[simp] theorem ap_un {m : PV → Option PV} : eUn m f e s = (f e s).bind fun x s => ofO (m (deref s x)) s := rfl
@[simp] theorem ap_tru : tTru f e s = (f e s).bind fun x s => ofO (truth (deref s x)) s := rfl
@[simp] theorem ap_tcm {m : PV → PV → Option Bool} : tCm m f h e s = (f e s).bind fun x s => (h e s).bind fun y s => ofO (m (deref s x) (deref s y)) s := rfl
@[simp] theorem ap_and2 : tAnd2 c d e s = (c e s).bind fun b s => if b = true then d e s else .ok false s := rfl
@[simp] theorem ap_or2 : tOr2 c d e s = (c e s).bind fun b s => if b = true then .ok true s else d e s := rfl
@[simp] theorem ap_nt : tNt c e s = (c e s).bind fun b s => .ok (!b) s := rfl
@[simp] theorem ap_eand : eAnd2 f h e s = (f e s).bind fun x s => (ofO (truth (deref s x)) s).bind fun b s => if b = true then h e s else .ok x s := rfl
@[simp] theorem ap_eor : eOr2 f h e s = (f e s).bind fun x s => (ofO (truth (deref s x)) s).bind fun b s => if b = true then .ok x s else h e s := rfl
@[simp] theorem ap_ent : eNt f e s = (f e s).bind fun x s => (ofO (truth (deref s x)) s).bind fun b s => .ok (.bl (!b)) s := rfl
@[simp] theorem ap_if : eIf c f h e s = (c e s).bind fun b s => if b = true then f e s else h e s := rfl
@[simp] theorem ap_nil : eList [] e s = .ok [] s := rfl
@[simp] theorem ap_cons : eList (f :: fs) e s = (f e s).bind fun x s => (eList fs e s).bind fun xs s => .ok (x :: xs) s := rfl
@[simp] theorem ap_tup : eTup fs e s = (eList fs e s).bind fun xs s => if xs.length ≤ LIM then .ok (.tup xs) s else .stuck := rfl
@[simp] theorem ap_lst : eLst fs e s = (eList fs e s).bind fun xs s => if xs.length ≤ LIM then .ok (.lst xs) s else .stuck := rfl
@[simp] theorem ap_lstM : eLstM fs e s = (eList fs e s).bind fun xs s => if xs.length ≤ LIM then .ok (.obj s.n) (s.new (.lst xs)) else .stuck := rfl
@[simp] theorem ap_call {F : FN} : eCall F fs e s = (eList fs e s).bind fun xs s => F xs s := rfl
@[simp] theorem ap_b {m : List PV → Option PV} : eB m fs e s = (eList fs e s).bind fun xs s => ofO (m (xs.map (deref s))) s := rfl
@[simp] theorem ap_mt {T : String} {m : PV → List PV → Option PV} : eMt T m f fs e s = (f e s).bind fun o s => if recv T (deref s o) = true then (eList fs e s).bind fun xs s => ofO (m (deref s o) (xs.map (deref s))) s else .stuck := rfl
@[simp] theorem ap_cut {l u : EO} : eCut f l u e s = (f e s).bind fun x s => (l e s).bind fun l s => (u e s).bind fun u s => ofO (pCut (deref s x) l u) s := rfl
@[simp] theorem ap_none : oNone e s = .ok none s := rfl
@[simp] theorem ap_chain {m m' : PV → PV → Option Bool} : eChain m m' f h k e s = (f e s).bind fun x s => (h e s).bind fun y s => (ofO (m (deref s x) (deref s y)) s).bind fun b s =>
  if b = true then (k e s).bind fun z s => (ofO (m' (deref s y) (deref s z)) s).bind fun b s => .ok (.bl b) s else .ok (.bl false) s := rfl
@[simp] theorem ap_comp {vs : List Nat} {fi : Env → MS → Res (List PV)} {as : AS} {tt : ET} : eComp vs fi as tt f e s = (fi e s).bind fun xs s => if xs.length ≤ LIM then (compM as tt f (wipeE e vs) xs s).calm.bind fun ys s => .ok (.lst ys) s else .stuck := rfl
@[simp] theorem ap_seq : iSeq f e s = (f e s).bind fun x s => ofO (elems x) s := rfl
@[simp] theorem ap_rng {m : List PV → Option (List PV)} : iRng m fs e s = (eList fs e s).bind fun xs s => ofO (m xs) s := rfl
@[simp] theorem ap_en : iEn f e s = (f e s).bind fun x s => ofO ((elemsS x).map (enumL 0)) s := rfl
@[simp] theorem ap_yes : tYs e s = .ok true s := rfl
@[simp] theorem ap_osome : oSome f e s = (f e s).bind fun x s => ofO (oInt x) s := rfl
@[simp] theorem lift_some {d : Int} : (do let a ← some d; pure (some a) : Option (Option Int)) = some (some d) := rfl
@[simp] theorem oInt_int {z : Int} : oInt (.int z) = some z := rfl
/-! statements -/
variable {u v : SX}
@[simp] theorem ap_snil : sNil e s = .nx e s := rfl
@[simp] theorem ap_sret : sRet f e s = (f e s).sbind e fun x s => .rt x s := rfl
@[simp] theorem ap_sdo : sDo f e s = (f e s).sbind e fun _ s => .nx e s := rfl
@[simp] theorem ap_sif : sIf c u v e s = (c e s).sbind e fun b s => if b = true then u e s else v e s := rfl
@[simp] theorem ap_sset {as : AS} : sSet f as e s = (f e s).sbind e fun x s => match as x e s with
  | some (e, s) => .nx e s
  | none => .stuck := rfl
@[simp] theorem ap_sfor {fi : Env → MS → Res (List PV)} {as : AS} : sFor fi as u e s = (fi e s).sbind e fun xs s => forM as u xs e s := rfl
@[simp] theorem ap_sraise {x : String} : sRaise x f e s = (f e s).sbind e fun p s => .ex x p e s := rfl
@[simp] theorem ap_par {is : List Nat} : sPar is fs e s = (eList fs e s).sbind e fun xs s => match setAll is xs e with
  | some e => .nx e s
  | none => .stuck := rfl
/-- one after the other -/
def SRes.then (r : SRes) (k : SX) : SRes := match r with
  | .nx e s => k e s
  | r => r
@[simp] theorem ap_sseq : sSeq u v e s = (u e s).then v := by
  unfold sSeq SRes.then; cases u e s <;> rfl
@[simp] theorem then_nx : (SRes.nx e s).then u = u e s := rfl
@[simp] theorem then_rt : (SRes.rt p s).then u = .rt p s := rfl
@[simp] theorem then_ex {x : String} : (SRes.ex x p e s).then u = .ex x p e s := rfl
@[simp] theorem then_bk : (SRes.bk e s).then u = .bk e s := rfl
@[simp] theorem then_ct : (SRes.ct e s).then u = .ct e s := rfl
@[simp] theorem then_st : SRes.stuck.then u = .stuck := rfl
@[simp] theorem ap_name : aName i p e s = some (e.set i (some p), s) := rfl
@[simp] theorem d_non : deref s .non = .non := rfl
@[simp] theorem d_bl {b : Bool} : deref s (.bl b) = .bl b := rfl
@[simp] theorem d_int {z : Int} : deref s (.int z) = .int z := rfl
@[simp] theorem d_str {l : List Nat} : deref s (.str l) = .str l := rfl
@[simp] theorem d_tup {l : List PV} : deref s (.tup l) = .tup l := rfl
@[simp] theorem d_lst {l : List PV} : deref s (.lst l) = .lst l := rfl
@[simp] theorem d_scr {l : List PV} : deref s (.scr l) = .scr l := rfl
@[simp] theorem d_dct {t : Bool} {a b : List PV} : deref s (.dct t a b) = .dct t a b := rfl
@[simp] theorem d_ty {t : String} : deref s (.ty t) = .ty t := rfl
@[simp] theorem t_bl {b : Bool} : truth (.bl b) = some b := rfl
@[simp] theorem t_non : truth .non = some false := rfl
def SRes.fin (r : SRes) : Res PV := match r with
  | .rt v s => .ok v s
  | .nx _ s => .ok .non s
  | .ex c p _ s => .exc c p s
  | _ => .stuck
theorem defF_ap {n : Nat} {args : List PV} : defF n u args s = (u (startE n args) s).fin := by
  unfold defF SRes.fin; cases u (startE n args) s <;> rfl
@[simp] theorem fin_rt : (SRes.rt p s).fin = .ok p s := rfl
@[simp] theorem fin_nx : (SRes.nx e s).fin = .ok .non s := rfl
@[simp] theorem fin_ex {x : String} : (SRes.ex x p e s).fin = .exc x p s := rfl
end
end
end Mr
namespace Mr
noncomputable section
open PySem PySem.Spec PyProof.Rows L2
/-! ### min, max of what is walked -/
def minV (x : PV) (xs : List PV) : PV := xs.foldl (fun a y => if ltB y a = true then y else a) x
def maxV (x : PV) (xs : List PV) : PV := xs.foldl (fun a y => if ltB a y = true then y else a) x
def comparable (l : List PV) : Bool := isDs l && (l.all fun x => l.all fun y => alikeB x y) && (l.all fun x => !isNon x) && decide (deps l ≤ 60)
def bMinL : List PV → Option PV
  | [.lst (x :: l)] | [.tup (x :: l)] => if comparable (x :: l) = true then some (minV x l) else none
  | _ => none
def bMaxL : List PV → Option PV
  | [.lst (x :: l)] | [.tup (x :: l)] => if comparable (x :: l) = true then some (maxV x l) else none
  | _ => none
section
variable {K : PySem.W.Frag} {mg : MG} {g : G} {X : Cx}
mutual
theorem toD_inj : ∀ p q : PV, isD p = true → isD q = true → toD p = toD q → p = q
  | .non, q, _, hq, h => by cases q <;> simp_all [toD, isD]
  | .bl b, q, _, hq, h => by cases q <;> simp_all [toD, isD]
  | .int b, q, _, hq, h => by cases q <;> simp_all [toD, isD]
  | .str b, q, _, hq, h => by cases q <;> simp_all [toD, isD]
  | .tup l, q, hp, hq, h => by
    cases q with
    | tup m => rw [toDs_inj l m (by simpa [isD] using hp) (by simpa [isD] using hq) (by simpa [toD] using h)]
    | _ => simp_all [toD, isD]
  | .lst l, q, hp, hq, h => by
    cases q with
    | lst m => rw [toDs_inj l m (by simpa [isD] using hp) (by simpa [isD] using hq) (by simpa [toD] using h)]
    | _ => simp_all [toD, isD]
  | .dct _ _ _, _, hp, _, _ => by simp [isD] at hp
  | .set _, _, hp, _, _ => by simp [isD] at hp
  | .scr _, _, hp, _, _ => by simp [isD] at hp
  | .obj _, _, hp, _, _ => by simp [isD] at hp
  | .fn _, _, hp, _, _ => by simp [isD] at hp
  | .clo _ _, _, hp, _, _ => by simp [isD] at hp
  | .ty _, _, hp, _, _ => by simp [isD] at hp
theorem toDs_inj : ∀ l m : List PV, isDs l = true → isDs m = true → toDs l = toDs m → l = m
  | [], m, _, _, h => by cases m <;> simp_all [toDs]
  | x :: xs, m, hl, hm, h => by
    cases m with
    | nil => simp [toDs] at h
    | cons y ys =>
      simp only [isDs, Bool.and_eq_true] at hl hm
      simp only [toDs, List.cons.injEq] at h
      rw [toD_inj x y hl.1 hm.1 h.1, toDs_inj xs ys hl.2 hm.2 h.2]
end
theorem toDs_map : ∀ l : List PV, toDs l = l.map toD
  | [] => rfl
  | x :: xs => by simp only [toDs, List.map_cons, toDs_map xs]
structure Cp (l : List PV) : Prop where
  d : isDs l = true
  al : ∀ x ∈ l, ∀ y ∈ l, alikeB x y = true
  k : ∀ x ∈ l, isNon x = false
  dp : deps l ≤ 60
theorem cp_of {l : List PV} (h : comparable l = true) : Cp l := by
  unfold comparable at h
  simp only [Bool.and_eq_true, decide_eq_true_eq, List.all_eq_true, Bool.not_eq_true'] at h
  obtain ⟨⟨⟨h1, h2⟩, h3⟩, h4⟩ := h
  exact ⟨h1, h2, h3, h4⟩
theorem Cp.alike {l : List PV} (h : Cp l) : PySem.W.AlikeAll (toDs l) := by
  rw [toDs_map]
  refine ⟨fun d hd d' hd' => ?_, fun d hd => ?_⟩
  · obtain ⟨x, hx, rfl⟩ := List.mem_map.mp hd
    obtain ⟨y, hy, rfl⟩ := List.mem_map.mp hd'
    rw [toD_alike x y (isDs_mem h.d x hx) (isDs_mem h.d y hy)]
    exact h.al x hx y hy
  · obtain ⟨x, hx, rfl⟩ := List.mem_map.mp hd
    have h1 := h.k x hx
    have h2 := isDs_mem h.d x hx
    cases x <;> simp_all [isNon, isD, toD]
theorem fold_toD (f : PV → PV → Bool) (f' : PyData → PyData → Bool) {l : List PV} (hf : ∀ x ∈ l, ∀ y ∈ l, f' (toD x) (toD y) = f x y) : ∀ (xs : List PV) (x : PV), x ∈ l → (∀ y ∈ xs, y ∈ l) →
    (xs.foldl (fun a y => if f y a = true then y else a) x ∈ l) ∧ toD (xs.foldl (fun a y => if f y a = true then y else a) x) = (toDs xs).foldl (fun a y => if f' y a = true then y else a) (toD x)
  | [], x, hx, _ => ⟨hx, rfl⟩
  | y :: ys, x, hx, hy => by
    simp only [List.foldl_cons, toDs]
    have hyl := hy y List.mem_cons_self
    rw [hf y hyl x hx]
    by_cases c : f y x = true
    · rw [if_pos c, if_pos c]
      exact fold_toD f f' hf ys y hyl fun z hz => hy z (List.mem_cons_of_mem _ hz)
    · rw [if_neg c, if_neg c]
      exact fold_toD f f' hf ys x hx fun z hz => hy z (List.mem_cons_of_mem _ hz)
theorem min_toD {x : PV} {l : List PV} (h : Cp (x :: l)) : minV x l ∈ x :: l ∧ toD (minV x l) = PySem.W.minD (toD x) (toDs l) :=
  fold_toD (fun a b => ltB a b) (fun a b => PySem.W.dataLt a b) (fun a ha b hb => toD_lt a b (isDs_mem h.d a ha) (isDs_mem h.d b hb) (h.al a ha b hb)) l x List.mem_cons_self fun y hy => List.mem_cons_of_mem _ hy
theorem max_toD {x : PV} {l : List PV} (h : Cp (x :: l)) : maxV x l ∈ x :: l ∧ toD (maxV x l) = PySem.W.maxD (toD x) (toDs l) :=
  fold_toD (fun a b => ltB b a) (fun a b => PySem.W.dataLt b a) (fun a ha b hb => toD_lt b a (isDs_mem h.d b hb) (isDs_mem h.d a ha) (h.al b hb a ha)) l x List.mem_cons_self fun y hy => List.mem_cons_of_mem _ hy
/-- the item that is told -/
theorem best_fin {pins : List (Addr × Obj)} {s : Shared} {σ : L2.St} {l : List PV} {vs : List V} {us : List Value} {Q : VK} {z : PV} {m : PyData} (I : L2.Inv X pins σ g.H s) (ok : g.Ok X.K X.mg) (r : RelPs X.K X.mg g l vs) (rv : Vals vs us) (hl : Cp l) (hz : z ∈ l) (ez : toD z = m)
    (q : ∀ g' v, Ext g g' → g'.Ok X.K X.mg → g'.s = g.s → RelP X.K X.mg g' z v → Q v g'.H) {i : Nat} {v : Value} {h' : Heap} {tk : Nat} {bs : List Addr} (hv : us.toArray[i]? = some v) (hr : Reads h' v m bs) (hk : ∀ b o, s.heap.get? b = some o → h'.get? b = some o) : EP X pins σ Q v { s with heap := h', toks := tk } := by
  have I2 : L2.Inv X pins σ g.H { s with heap := h', toks := tk } := I.kept hk
  have hv' : us[i]? = some v := by simpa using hv
  have hi : i < us.length := (List.getElem?_eq_some_iff.mp hv').1
  obtain ⟨w, hw⟩ : ∃ w, vs[i]? = some w := ⟨vs[i]'(by rw [rv.length]; exact hi), by simp⟩
  obtain ⟨p, hp, rp⟩ := r.get hw
  obtain ⟨u, hu, ru⟩ := rv.get hw
  rw [hv'] at hu
  cases hu
  have hpl := List.mem_of_getElem? hp
  obtain ⟨as, q1⟩ := Dp.reads I2 _ w v (RelP.dp p w (isDs_mem hl.d p hpl) rp) ru
  have e : toD p = m := (q1.unique _ _ hr).1
  have ep : p = z := toD_inj p z (isDs_mem hl.d p hpl) (isDs_mem hl.d z hz) (by rw [e, ez])
  subst ep
  exact ⟨w, g.H, I2, ru, q g w (Ext.refl g) ok rfl rp⟩
theorem c_minL (hu : X.A.units + 66 < cLine) (hc : X.calm = true) : CallR X (.builtin "min") (CalM X.K X.mg bMinL) := by
  intro pins s σ H xs us Q I r ⟨g, ps, z, eH, ok, rd, hz, q⟩
  subst eH
  unfold bMinL at hz
  split at hz
  · split at hz
    · rename_i x l hl
      cases hz
      have hb := cp_of hl
      obtain ⟨v, rfl, r1⟩ := rd.one
      obtain ⟨a, vs, rfl, h1, h2⟩ := relL r1
      obtain ⟨u, rfl, ru⟩ := vals1 r
      cases ru
      obtain ⟨us, rv, pl, hz⟩ := I.list (SqL.of h1)
      obtain ⟨as, hr⟩ := Dp.readsAll I _ vs us (RelPs.dp _ vs hb.d h2) rv
      obtain ⟨m1, m2⟩ := min_toD hb
      refine PySem.W.min_list_data (x := toD x) (xs := toDs l) (I.ok.hd hc) pl.isList hr hb.alike (by rw [show toD x :: toDs l = toDs (x :: l) from rfl, toDs_dep]; have := hb.dp; omega) fun i v h' tk bs e1 e2 e3 => ?_
      exact best_fin I ok h2 rv hb m1 m2 q e1 e2 e3
    · cases hz
  · split at hz
    · rename_i x l hl
      cases hz
      have hb := cp_of hl
      obtain ⟨v, rfl, r1⟩ := rd.one
      obtain ⟨a, vs, rfl, h1, h2⟩ := relT r1
      obtain ⟨u, rfl, ru⟩ := vals1 r
      cases ru
      obtain ⟨us, rv, pl, hz⟩ := I.tuple (SqT.of h1)
      obtain ⟨as, hr⟩ := Dp.readsAll I _ vs us (RelPs.dp _ vs hb.d h2) rv
      obtain ⟨m1, m2⟩ := min_toD hb
      refine PySem.W.min_tuple_data (x := toD x) (xs := toDs l) (I.ok.hd hc) pl hr hb.alike (by rw [show toD x :: toDs l = toDs (x :: l) from rfl, toDs_dep]; have := hb.dp; omega) fun i v h' tk bs e1 e2 e3 => ?_
      exact best_fin I ok h2 rv hb m1 m2 q e1 e2 e3
    · cases hz
  · cases hz
theorem c_maxL (hu : X.A.units + 66 < cLine) (hc : X.calm = true) : CallR X (.builtin "max") (CalM X.K X.mg bMaxL) := by
  intro pins s σ H xs us Q I r ⟨g, ps, z, eH, ok, rd, hz, q⟩
  subst eH
  unfold bMaxL at hz
  split at hz
  · split at hz
    · rename_i x l hl
      cases hz
      have hb := cp_of hl
      obtain ⟨v, rfl, r1⟩ := rd.one
      obtain ⟨a, vs, rfl, h1, h2⟩ := relL r1
      obtain ⟨u, rfl, ru⟩ := vals1 r
      cases ru
      obtain ⟨us, rv, pl, hz⟩ := I.list (SqL.of h1)
      obtain ⟨as, hr⟩ := Dp.readsAll I _ vs us (RelPs.dp _ vs hb.d h2) rv
      obtain ⟨m1, m2⟩ := max_toD hb
      refine PySem.W.max_list_data (x := toD x) (xs := toDs l) (I.ok.hd hc) pl.isList hr hb.alike (by rw [show toD x :: toDs l = toDs (x :: l) from rfl, toDs_dep]; have := hb.dp; omega) fun i v h' tk bs e1 e2 e3 => ?_
      exact best_fin I ok h2 rv hb m1 m2 q e1 e2 e3
    · cases hz
  · split at hz
    · rename_i x l hl
      cases hz
      have hb := cp_of hl
      obtain ⟨v, rfl, r1⟩ := rd.one
      obtain ⟨a, vs, rfl, h1, h2⟩ := relT r1
      obtain ⟨u, rfl, ru⟩ := vals1 r
      cases ru
      obtain ⟨us, rv, pl, hz⟩ := I.tuple (SqT.of h1)
      obtain ⟨as, hr⟩ := Dp.readsAll I _ vs us (RelPs.dp _ vs hb.d h2) rv
      obtain ⟨m1, m2⟩ := max_toD hb
      refine PySem.W.max_tuple_data (x := toD x) (xs := toDs l) (I.ok.hd hc) pl hr hb.alike (by rw [show toD x :: toDs l = toDs (x :: l) from rfl, toDs_dep]; have := hb.dp; omega) fun i v h' tk bs e1 e2 e3 => ?_
      exact best_fin I ok h2 rv hb m1 m2 q e1 e2 e3
    · cases hz
  · cases hz
end
end
end Mr
namespace Mr
noncomputable section
open PySem PySem.Spec PyProof.Rows L2
/-! ### list.index, append, extend, pop -/
def isB : PV → Bool
  | .bl _ => true
  | _ => false
def mIndexL : PV → List PV → Option PV
  | .lst l, [x] => if (isAt x && l.all isAt) = true then (l.findIdx? (fun y => aeq y x)).map fun i => .int (i : Nat) else if (isB x && l.all isB) = true then (l.findIdx? (fun y => eqB y x)).map fun i => .int (i : Nat) else none
  | _, _ => none
abbrev MutF := MS → List PV → List PV → Option (PV × List PV)
def eMut (m : MutF) (fo : EX) (fs : List EX) : EX := fun e s => (fo e s).bind fun o s => match o with
  | .obj i => match s.m i with
    | some (.lst _) => (eList fs e s).bind fun xs s => match s.m i with
      | some (.lst l) => match m s l xs with
        | some (z, l') => .ok z (s.put i (.lst l'))
        | none => .stuck
      | _ => .stuck
    | _ => .stuck
  | _ => .stuck
def uAppend : MutF := fun _ l xs => match xs with
  | [x] => if l.length < LIM then some (.non, l ++ [x]) else none
  | _ => none
def uExtend : MutF := fun s l xs => match xs with
  | [x] => match deref s x with
    | .lst z => if l.length + z.length ≤ LIM then some (.non, l ++ z) else none
    | _ => none
  | _ => none
def uPop : MutF := fun _ l xs => match xs with
  | [] => (l[l.length - 1]?).map fun z => (z, l.dropLast)
  | _ => none
def MutM (K : PySem.W.Frag) (mg : MG) (m : MutF) : V → List V → Hp → VK → Prop := fun x vs H Q =>
  ∃ g i l ps z l', g.H = H ∧ g.Ok K mg ∧ x = .ref (g.ρ i) ∧ g.s.m i = some (.lst l) ∧ RelPs K mg g ps vs ∧ m g.s l ps = some (z, l') ∧
    ∀ g' v, Ext g g' → g'.Ok K mg → g'.s = g.s.put i (.lst l') → RelP K mg g' z v → Q v g'.H
section
variable {K : PySem.W.Frag} {mg : MG} {g : G} {X : Cx} {W : WY} {pos : Pos} {a o : Expr} {es : List Expr} {f fo : EX} {fs : List EX} {m : MutF} {id : String} {name : Str} {apos cpos : Pos}
theorem isAt_flat {p : PV} {v : V} (h : isAt p = true) (r : RelP K mg g p v) : flatV v = true := by
  cases p <;> simp_all [isAt, RelP, flatV]
theorem aeq_eqV {p q : PV} {v w : V} (hp : isAt p = true) (hq : isAt q = true) (r : RelP K mg g p v) (r2 : RelP K mg g q w) : eqV v w = aeq p q := by
  cases p <;> cases q <;> simp_all [isAt, RelP, eqV, aeq]
  rename_i a b
  rw [Bool.eq_iff_iff]
  simp
theorem isB_flat {p : PV} {v : V} (h : isB p = true) (r : RelP K mg g p v) : flatV v = true := by
  cases p <;> simp_all [isB, RelP, flatV]
theorem eqB_eqV {p q : PV} {v w : V} (hp : isB p = true) (hq : isB q = true) (r : RelP K mg g p v) (r2 : RelP K mg g q w) : eqV v w = eqB p q := by
  cases p <;> cases q <;> simp_all [isB, RelP, eqV, eqB]
theorem findIdx_some {l : List PV} {p : PV → Bool} : ∀ {i : Nat}, l.findIdx? p = some i → ∃ z, l[i]? = some z ∧ p z = true ∧ ∀ m z', m < i → l[m]? = some z' → p z' = false := by
  induction l with
  | nil => intro i h; simp at h
  | cons x l ih =>
    intro i h
    rw [List.findIdx?_cons] at h
    by_cases c : p x = true
    · rw [if_pos c] at h
      cases h
      exact ⟨x, rfl, c, fun m z' hm => absurd hm (Nat.not_lt_zero m)⟩
    · rw [if_neg c] at h
      obtain ⟨j, hj, rfl⟩ := Option.map_eq_some_iff.mp h
      obtain ⟨z, h1, h2, h3⟩ := ih hj
      refine ⟨z, h1, h2, fun m z' hm e => ?_⟩
      cases m with
      | zero => simp at e; subst e; simpa using c
      | succ m => exact h3 m z' (by omega) (by simpa using e)
theorem m_indexL : MtR X "list.index" (MtM' X.K X.mg mIndexL) := by
  intro pins s σ H x xs v us Q I rx rv ⟨g, p, ps, z, eH, ok, r1, r2, hz, q⟩
  subst eH
  unfold mIndexL at hz
  split at hz
  · rename_i l y
    split at hz
    · rename_i hat
      simp only [Bool.and_eq_true] at hat
      obtain ⟨i, hi, rfl⟩ := Option.map_eq_some_iff.mp hz
      obtain ⟨b, vs, rfl, h1, h2⟩ := relL r1
      obtain ⟨w, rfl, r3⟩ := r2.one
      have hw : RelP X.K X.mg g y w := by cases y <;> first | exact r3 | simp [isAt] at hat
      obtain ⟨zz, e1, e2, e3⟩ := findIdx_some hi
      obtain ⟨vz, e4, r4⟩ := h2.get' e1
      have hall := List.all_eq_true.mp hat.2
      refine mt_index pins s σ g.H _ _ v us Q I rx rv ⟨b, vs, w, i, vz, rfl, rfl, SqL.of h1, isAt_flat hat.1 hw, ?_, e4, ?_, fun m z' hm e => ?_, fin_int ok q⟩
      · rw [List.all_eq_true]
        intro u hu
        obtain ⟨j, hj⟩ := List.getElem?_of_mem hu
        obtain ⟨pj, hpj, rj⟩ := h2.get hj
        exact isAt_flat (hall pj (List.mem_of_getElem? hpj)) rj
      · rw [aeq_eqV (hall zz (List.mem_of_getElem? e1)) hat.1 r4 hw]; exact e2
      · obtain ⟨pj, hpj, rj⟩ := h2.get e
        rw [aeq_eqV (hall pj (List.mem_of_getElem? hpj)) hat.1 rj hw]
        exact e3 m pj hm hpj
    · split at hz
      · rename_i hat
        simp only [Bool.and_eq_true] at hat
        obtain ⟨i, hi, rfl⟩ := Option.map_eq_some_iff.mp hz
        obtain ⟨b, vs, rfl, h1, h2⟩ := relL r1
        obtain ⟨w, rfl, r3⟩ := r2.one
        have hw : RelP X.K X.mg g y w := by cases y <;> first | exact r3 | simp [isB] at hat
        obtain ⟨zz, e1, e2, e3⟩ := findIdx_some hi
        obtain ⟨vz, e4, r4⟩ := h2.get' e1
        have hall := List.all_eq_true.mp hat.2
        refine mt_index pins s σ g.H _ _ v us Q I rx rv ⟨b, vs, w, i, vz, rfl, rfl, SqL.of h1, isB_flat hat.1 hw, ?_, e4, ?_, fun m z' hm e => ?_, fin_int ok q⟩
        · rw [List.all_eq_true]
          intro u hu
          obtain ⟨j, hj⟩ := List.getElem?_of_mem hu
          obtain ⟨pj, hpj, rj⟩ := h2.get hj
          exact isB_flat (hall pj (List.mem_of_getElem? hpj)) rj
        · rw [eqB_eqV (hall zz (List.mem_of_getElem? e1)) hat.1 r4 hw]; exact e2
        · obtain ⟨pj, hpj, rj⟩ := h2.get e
          rw [eqB_eqV (hall pj (List.mem_of_getElem? hpj)) hat.1 rj hw]
          exact e3 m pj hm hpj
      · cases hz
  · cases hz
theorem eMut_of {σ : L2.St} {H : Hp} {Q : VK} (q : RdE K mg W (eMut m fo fs) σ H Q) : RdE K mg W fo σ H fun x H1 => tyV K "list" x H1 ∧ RdL K mg W (eList fs) σ H1 fun xs H2 => MutM K mg m x xs H2 Q := by
  refine (RdA.seq (R := fun g p v => RelP K mg g p v) (f := fo) (k := fun o e s => match o with
    | .obj i => match s.m i with
      | some (.lst _) => (eList fs e s).bind fun xs s => match s.m i with
        | some (.lst l) => match m s l xs with
          | some (z, l') => .ok z (s.put i (.lst l'))
          | none => .stuck
        | _ => .stuck
      | _ => .stuck
    | _ => .stuck) q).imp fun x H1 q => ?_
  obtain ⟨p, g, env, rfl, ok, re, r, q⟩ := q
  cases p with
  | obj i =>
    dsimp only at q
    cases hm : g.s.m i with
    | none => rw [hm] at q; exact q.elim
    | some st =>
      rw [hm] at q
      cases st with
      | lst l0 =>
        dsimp only at q
        obtain ⟨vs, h1, h2⟩ := ok.obj i _ hm
        have r0 := r
        simp only [RelP] at r
        obtain ⟨hlt, rfl⟩ := r
        refine ⟨Or.inl ⟨rfl, vs, SqL.of h1⟩, g, env, rfl, ok, re, ?_⟩
        revert q
        cases eList fs env g.s with
        | exc c p s' => exact id
        | stuck => exact id
        | ok ys s2 =>
          intro q g2 vs2 x2 ok2 e2 r2
          subst e2
          have q := OutA.back ok ok2 x2 q
          simp only [bind_ok] at q
          have r0' := r0.ext ok x2
          simp only [RelP] at r0'
          cases hm2 : g2.s.m i with
          | none => rw [hm2] at q; exact q.elim
          | some st2 =>
            rw [hm2] at q
            cases st2 with
            | lst l =>
              dsimp only at q
              cases hz : m g2.s l ys with
              | none => rw [hz] at q; exact q.elim
              | some zl =>
                obtain ⟨z, l'⟩ := zl
                rw [hz] at q
                dsimp only at q
                exact ⟨g2, i, l, ys, z, l', rfl, ok2, r0'.2, hm2, r2, hz, fun g' v x' ok' es r' => q g' v x' ok' es r'⟩
            | _ => exact q.elim
      | _ => exact q.elim
  | _ => exact q.elim
theorem ie_mut (slot : Slot "list" name id) (hty : typeOf (.builtin id) = pure (.type "method_descriptor")) (hm : MtR X id (MutM X.K X.mg m)) (ho : IE X W o fo) (ha : IA X W (a :: es) (eList fs))
    (hbase : attributeBase o name X.env (eval o X.env) = eval o X.env := by rfl)
    (hfew : ((backTo cpos (starEach (a :: es) X.env)).all (fun x => !x.1) && (backToKw cpos (keywordEach [] X.env)).all (fun x => x.1.isSome)
      && decide ((a :: es).length + ([] : List Keyword).length + (if ([] : List Keyword).isEmpty then 0 else 1) < 30)) = true := by rfl)
    (hline : (apos.endLine == cpos.line) = true := by rfl) (hs : starEach (a :: es) X.env = (false, eval a X.env) :: starEach es X.env := by rfl) (hplain : (backTo cpos (starEach es X.env)).any (·.1) = false := by rfl) :
    IE X W (.Call (.Attribute o name apos) (a :: es) [] cpos) (eMut m fo fs) :=
  PE.weak (pe_bm PySem.F.plainAttrs_list slot hty hm ho ha hbase hfew hline hs hplain) fun σ H Q q => eMut_of q
theorem ie_mut0 (slot : Slot "list" name id) (hty : typeOf (.builtin id) = pure (.type "method_descriptor")) (hm : MtR X id (MutM X.K X.mg m)) (ho : IE X W o fo)
    (hbase : attributeBase o name X.env (eval o X.env) = eval o X.env := by rfl) (hline : (apos.endLine == cpos.line) = true := by rfl) : IE X W (.Call (.Attribute o name apos) [] [] cpos) (eMut m fo []) :=
  PE.weak (pe_bm0 PySem.F.plainAttrs_list slot hty hm ho hbase hline) fun σ H Q q => by
    unfold tBM0
    refine (eMut_of q).imp fun x H1 ⟨t, q⟩ => ⟨t, ?_⟩
    exact RdA.pure (R := fun g p v => RelPs X.K X.mg g p v) (p := []) (v := []) (fun g => RelPs.nil) q
/-- a written list -/
theorem mut_fin {g : G} {i : Nat} {l l' : List PV} {vs' : List V} {z : PV} {Q : VK} {w : V} (ok : g.Ok K mg) (hm : g.s.m i = some (.lst l)) (r' : RelPs K mg g l' vs') (rz : RelP K mg g z w)
    (q : ∀ g' v, Ext g g' → g'.Ok K mg → g'.s = g.s.put i (.lst l') → RelP K mg g' z v → Q v g'.H) : Q w (upd g.H (g.ρ i) (.lst vs')) := by
  have hl : g.s.m i ≠ none := by rw [hm]; simp
  have x := put_ext (u := .lst vs') (o := .lst l') hl
  exact q (g.put i (.lst vs') (.lst l')) w x (put_ok ok hl ⟨_, upd_same, r'.ext ok x⟩) rfl (rz.ext ok x)
theorem u_append : MtR X "list.append" (MutM X.K X.mg uAppend) := by
  intro pins s σ H x xs v us Q I rx rv ⟨g, i, l, ps, z, l', eH, ok, ex, hm, r, hz, q⟩
  subst eH ex
  unfold uAppend at hz
  split at hz
  · rename_i y
    split at hz
    · rename_i hlen
      cases hz
      obtain ⟨vs, h1, h2⟩ := ok.obj i _ hm
      simp only [RelPs] at r
      obtain ⟨w, rs, rfl, r1, rfl⟩ := r
      exact mt_append pins s σ g.H _ _ v us Q I rx rv ⟨_, vs, w, rfl, rfl, h1, by rw [← h2.length, ← sizeLIM]; exact hlen, mut_fin ok hm (h2.append (RelPs.cons r1 RelPs.nil)) (by simp only [RelP]) q⟩
    · cases hz
  · cases hz
theorem u_extend : MtR X "list.extend" (MutM X.K X.mg uExtend) := by
  intro pins s σ H x xs v us Q I rx rv ⟨g, i, l, ps, z, l', eH, ok, ex, hm, r, hz, q⟩
  subst eH ex
  unfold uExtend at hz
  split at hz
  · rename_i y
    split at hz
    · rename_i zs hy
      split at hz
      · rename_i hlen
        cases hz
        obtain ⟨vs, h1, h2⟩ := ok.obj i _ hm
        simp only [RelPs] at r
        obtain ⟨w, rs, rfl, r1, rfl⟩ := r
        have rd := r1.deref ok
        rw [hy] at rd
        obtain ⟨b, ws, rfl, h3, h4⟩ := relL rd
        exact mt_extend pins s σ g.H _ _ v us Q I rx rv ⟨_, b, vs, ws, rfl, rfl, h1, h3, by rw [← h2.length, ← h4.length, ← sizeLIM]; exact hlen, mut_fin ok hm (h2.append h4) (by simp only [RelP]) q⟩
      · cases hz
    · cases hz
  · cases hz
theorem RelPs.dropLast {l : List PV} {vs : List V} (h : RelPs K mg g l vs) : RelPs K mg g l.dropLast vs.dropLast := by
  rw [List.dropLast_eq_take, List.dropLast_eq_take, h.length]
  exact h.take _
theorem u_pop : MtR X "list.pop" (MutM X.K X.mg uPop) := by
  intro pins s σ H x xs v us Q I rx rv ⟨g, i, l, ps, z, l', eH, ok, ex, hm, r, hz, q⟩
  subst eH ex
  unfold uPop at hz
  split at hz
  · obtain ⟨y, hy, e⟩ := Option.map_eq_some_iff.mp hz
    cases e
    obtain ⟨vs, h1, h2⟩ := ok.obj i _ hm
    simp only [RelPs] at r
    subst r
    obtain ⟨w, hw, rw_⟩ := h2.get' hy
    rw [h2.length] at hw
    exact mt_pop pins s σ g.H _ _ v us Q I rx rv ⟨_, vs, w, rfl, rfl, h1, hw, mut_fin ok hm h2.dropLast rw_ q⟩
  · cases hz
end
end
end Mr
namespace Mr
noncomputable section
open PySem PySem.Spec PyProof.Rows L2
/-! ### str.index of one sign -/
def mIndexS : PV → List PV → Option PV
  | .str a, [.str [c]] => if c ∈ a then some (.int (a.idxOf c : Nat)) else none
  | _, _ => none
open PySem.StrLaws PySem.Builtin.Str in
theorem occ_stay (s sub : Str) (hi : Nat) : ∀ (l : List Nat) (st : Array Nat × Nat), st.fst.size = 1 → (forIn l st (occBody s sub hi 1)).run.fst = st.fst
  | [], st, h => by simp
  | a :: l, st, h => by
    rw [List.forIn_cons]
    have hn : ¬ (((st.fst.size < 1 ∧ st.snd ≤ a) ∧ a + sub.length ≤ hi) ∧ subAt s sub a = true) := fun q => by have := q.1.1.1; omega
    unfold occBody
    rw [if_neg hn]
    exact occ_stay s sub hi l _ h
open PySem.StrLaws PySem.Builtin.Str in
theorem occ_first (s sub : Str) (hi i : Nat) : ∀ (l r : List Nat) (free : Nat), (∀ j ∈ l, free ≤ j) → free ≤ i → (∀ j ∈ l, ¬ (j + sub.length ≤ hi ∧ subAt s sub j = true)) → i + sub.length ≤ hi → subAt s sub i = true →
    (forIn (l ++ i :: r) ((#[] : Array Nat), free) (occBody s sub hi 1)).run.fst = #[i]
  | [], r, free, _, hf, _, h1, h2 => by
    rw [List.nil_append, List.forIn_cons]
    have hc : (((((#[] : Array Nat), free).fst.size < 1 ∧ ((#[] : Array Nat), free).snd ≤ i) ∧ i + sub.length ≤ hi) ∧ subAt s sub i = true) := ⟨⟨⟨by simp, hf⟩, h1⟩, h2⟩
    have e : occBody s sub hi 1 i ((#[] : Array Nat), free) = pure (ForInStep.yield ((#[] : Array Nat).push i, i + sub.length)) := by
      unfold occBody; rw [if_pos hc]
    rw [e]
    exact occ_stay s sub hi r ((#[] : Array Nat).push i, i + sub.length) (by simp)
  | a :: l, r, free, hl, hf, hn, h1, h2 => by
    rw [List.cons_append, List.forIn_cons]
    have hc : ¬ (((((#[] : Array Nat), free).fst.size < 1 ∧ ((#[] : Array Nat), free).snd ≤ a) ∧ a + sub.length ≤ hi) ∧ subAt s sub a = true) := fun q => hn a List.mem_cons_self ⟨q.1.2, q.2⟩
    have e : occBody s sub hi 1 a ((#[] : Array Nat), free) = pure (ForInStep.yield ((#[] : Array Nat), free)) := by
      unfold occBody; rw [if_neg hc]
    rw [e]
    exact occ_first s sub hi i l r free (fun j hj => hl j (List.mem_cons_of_mem _ hj)) hf (fun j hj => hn j (List.mem_cons_of_mem _ hj)) h1 h2
theorem occ_idx (a : List Nat) (c : Nat) (h : c ∈ a) : Builtin.Str.occurrences ⟨a.toArray⟩ ⟨#[c]⟩ 0 (⟨a.toArray⟩ : Str).length 1 = [a.idxOf c] := by
  have hi : a.idxOf c < a.length := List.idxOf_lt_length_of_mem h
  have hlen : (⟨a.toArray⟩ : Str).length = a.length := strlen a
  have at_ : ∀ j, (j + (⟨#[c]⟩ : Str).length ≤ (⟨a.toArray⟩ : Str).length ∧ Builtin.Str.subAt ⟨a.toArray⟩ ⟨#[c]⟩ j = true) ↔ a[j]? = some c := fun j => by
    rw [StrLaws.subAt_one]
  have hit := (at_ (a.idxOf c)).mpr (by rw [List.getElem?_eq_getElem hi]; congr 1; exact List.getElem_idxOf hi)
  have hr : List.range' 0 ((⟨a.toArray⟩ : Str).length + 1 - 0) = List.range' 0 (a.idxOf c) ++ a.idxOf c :: List.range' (a.idxOf c + 1) (a.length - a.idxOf c) := by
    rw [hlen]
    have e : a.length + 1 - 0 = a.idxOf c + (a.length - a.idxOf c + 1) := by omega
    rw [e, ← List.range'_append_1, List.range'_succ]
    simp
  rw [StrLaws.occ_eq, hr, occ_first _ _ _ (a.idxOf c) _ _ 0 (fun _ _ => Nat.zero_le _) (Nat.zero_le _) (fun j hj q => ?_) hit.1 hit.2]
  have hj' : j < a.idxOf c := by rw [List.mem_range'_1] at hj; omega
  have e := (at_ j).mp q
  have hjl : j < a.length := by omega
  rw [List.getElem?_eq_getElem hjl] at e
  have q2 := List.not_of_lt_findIdx (p := (· == c)) (xs := a) hj'
  rw [Option.some.inj e] at q2
  simp at q2
section
variable {K : PySem.W.Frag} {mg : MG} {g : G} {X : Cx}
theorem m_indexS : MtR X "str.index" (MtM' X.K X.mg mIndexS) := by
  intro pins s σ H x xs v us Q I rx rv ⟨g, p, ps, z, eH, ok, r1, r2, hz, q⟩
  subst eH
  unfold mIndexS at hz
  split at hz
  · rename_i a c
    split at hz
    · rename_i hm
      cases hz
      obtain ⟨w, rfl, r3⟩ := r2.one
      obtain rfl := relS r1
      obtain rfl := relS r3
      exact mt_sindex pins s σ g.H _ _ v us Q I rx rv ⟨⟨a.toArray⟩, ⟨#[c]⟩, a.idxOf c, [], rfl, rfl, occ_idx a c hm, fin_int ok q⟩
    · cases hz
  · cases hz
/-! ### sorted of a text -/
def bSortS : List PV → Option PV
  | [.str a] => if a.length < 64 then some (.lst (((a.map fun c => [c]).mergeSort leL).map .str)) else none
  | [.lst l] => bSorted [.lst l]
  | [.dct t ks vs] => bSorted [.dct t ks vs]
  | _ => none
theorem c_sortS (hu : X.A.units + 66 < cLine) (hcalm : X.calm = true) : CallR X (.builtin "sorted") (CalM X.K X.mg bSortS) := by
  intro pins s σ H xs us Q I r ⟨g, ps, z, eH, ok, rd, hz, q⟩
  unfold bSortS at hz
  split at hz
  · rename_i a
    subst eH
    split at hz
    · rename_i h64
      cases hz
      obtain ⟨v, rfl, r1⟩ := rd.one
      obtain rfl := relS r1
      obtain ⟨u, rfl, ru⟩ := vals1 r
      obtain ⟨t, rfl⟩ := ru
      refine PySem.Calls.call_function_entry PyProof.Rows.kind_sorted PyProof.Rows.plain_sorted PyProof.Rows.entry_sorted (PyProof.Rows.args_sorted1 _) ?_
      unfold Builtin.«sorted»
      refine wpAny_bind (m := checkCount "sorted" 1 1 _) (wpAny_pure ?_)
      refine wpAny_bind (PySem.wpAny_collect_str (A := X.A.in1) (I.ok.hd hcalm) _ t (fun s' acc hk hg hd hos hacc => ?_) (by rw [← sizeLIM]; show a.toArray.size ≤ LIM; rw [LIM_eq, List.size_toArray]; omega))
      obtain ⟨hp, gn, dr, tk, os⟩ := s'
      dsimp only at hk hg hd hos
      subst hg hd hos
      have hv := signs_vals hacc
      have hal : acc.toList.length = (a.map fun c => mkS [c]).length := by
        have := hv.length
        simpa using this.symm
      have hS : StrsAre acc.toList (a.map fun c => mkS [c]) := strs_at hal fun j v e => by
        obtain ⟨c, u, e1, e2⟩ := hacc.2 j v (by rw [← Array.getElem?_toList]; exact e)
        have e1' : a[j]? = some c := by simpa using e1
        exact ⟨mkS [c], u, by rw [List.getElem?_map, e1']; rfl, e2⟩
      have h64' : (a.map fun c => mkS [c]).length < 64 := by simpa using h64
      have I1 : L2.Inv X pins σ g.H { s with heap := hp, toks := tk } := I.kept hk
      refine wpAny_bind (wpAny_newList ?_ (by rw [hal, sizeLine_eq]; omega))
      have hoL : (hp.push (seqObj "list" acc.toList.toArray 0)).get? hp.objs.size = some (seqObj "list" acc.toList.toArray 0) := Heap.get?_push_size _ rfl
      show wpAny _ _ _ _ _ { s with heap := hp.push (seqObj "list" acc.toList.toArray 0), toks := tk }
      refine wpAny_bind (wpAny_holding (wpAny_call_entry PyProof.Rows.slot_list_sort ⟨_, hoL, rfl⟩ PyProof.Rows.entry_list_sort
        (list_sort_treeK strKind_oneLt (s := { s with heap := hp.push (seqObj "list" acc.toList.toArray 0), toks := tk }) hoL hS.keysOf (fun v₁ v₂ rest e => keyKind_strs (by rw [← e]; exact hS)) (by rw [hal]; exact h64') fun st' hp' hs => ⟨_, rfl, ?_⟩)
        (PyProof.Rows.args_list_sort _)))
      obtain ⟨ys, g1, g2, g3⟩ := sorted_out_str hS hp' hs
      obtain ⟨e', he'⟩ := PyProof.Rows.sortedHeap_at (vs := acc.toList) (out := (arrOf st').map (·.2)) hoL
      have hlen : (ys.map V.str).length ≤ sizeLine := by
        rw [List.length_map, g2.length_eq, sizeLine_eq]; omega
      have e1 := sorted_strs_uniq (ss := a.map fun c => [c]) (ys := ys.map fun s => s.cps.toList) (by
        have := g2.map fun s : Str => s.cps.toList
        rw [List.map_map] at this
        exact this) (List.pairwise_map.mpr (sortedS_pw ys g3))
      have e2 : ys.map V.str = ((ys.map fun s => s.cps.toList).map mkS).map V.str := by
        rw [List.map_map, List.map_map]
        apply List.map_congr_left
        intro y _
        simp [mkS]
      refine wpAny_pure ⟨_, rfl, .ref hp.objs.size, upd g.H hp.objs.size (.lst (ys.map V.str)), I1.laid (t' := tk) (fun b u e => ?_) (Nat.le_refl _)
        (show ObjOk X.prog X.w _ _ _ (.lst (ys.map V.str)) from ⟨hlen, ((arrOf st').map (·.2)).toList, e', vals_of_strs g1, by rw [Array.toArray_toList]; exact he'⟩), rfl, ?_⟩
      · have hb : b < hp.objs.size := Heap.lt_size e
        rw [PyProof.Rows.sortedHeap_old (Nat.ne_of_lt hb) (by rw [size_push']; exact Nat.lt_succ_of_lt hb)]
        exact Heap.get?_push_of_some _ e
      · rw [← e1] at q
        rw [e2]
        exact fin_lst ok (RelPs.strs _) q _ (I1.hok.fresh (Nat.le_refl _))
    · cases hz
  · exact c_sorted hu hcalm pins s σ H xs us Q I r ⟨g, _, z, eH, ok, rd, hz, q⟩
  · exact c_sorted hu hcalm pins s σ H xs us Q I r ⟨g, _, z, eH, ok, rd, hz, q⟩
  · cases hz
end
end
end Mr
namespace Mr
noncomputable section
open PySem PySem.Spec PyProof.Rows L2
/-! ### comprehensions of two clauses -/
def compM2 (as : AS) (tt : ET) (fi1 : Env → MS → Res (List PV)) (as1 : AS) (tt1 : ET) (te : EX) (vs1 : List Nat) (env : Env) : List PV → MS → Res (List PV)
  | [], s => .ok [] s
  | x :: xs, s => match as x env s with
    | none => .stuck
    | some (e, s) => (tt e s).bind fun b s => if b = true then (fi1 e s).bind fun ys s => (compM as1 tt1 te (wipeE e vs1) ys s).bind fun zs s => (compM2 as tt fi1 as1 tt1 te vs1 env xs s).bind fun ws s => .ok (zs ++ ws) s
      else compM2 as tt fi1 as1 tt1 te vs1 env xs s
def eComp2 (vs vs1 : List Nat) (fi : Env → MS → Res (List PV)) (as : AS) (tt : ET) (fi1 : Env → MS → Res (List PV)) (as1 : AS) (tt1 : ET) (te : EX) : EX := fun e s => (fi e s).bind fun xs s => (compM2 as tt fi1 as1 tt1 te vs1 (wipeE e vs) xs s).calm.bind fun ys s => if ys.length ≤ LIM then .ok (.lst ys) s else .stuck
theorem Keeps.trans {a b c : G} (x : Keeps a b) (y : Keeps b c) : Keeps a c :=
  ⟨Nat.le_trans x.n y.n, fun i h => (y.ρ i (Nat.lt_of_lt_of_le h x.n)).trans (x.ρ i h), fun p vs h => y.tup p vs (x.tup p vs h), fun p o u h => y.frz p o u (x.frz p o u h), fun p i j h => y.rng p i j (x.rng p i j h), fun p vs h z => let ⟨h1, z1⟩ := x.lst p vs h z; y.lst p vs h1 z1⟩
theorem Keeps.refl (a : G) : Keeps a a := ⟨Nat.le_refl _, fun _ _ => rfl, fun _ _ h => h, fun _ _ _ h => h, fun _ _ _ h => h, fun _ _ h z => ⟨h, z⟩⟩
theorem RelEnv.keep {K : PySem.W.Frag} {mg : MG} {g g' : G} {env : Env} {σ : L2.St} (x : Keeps g g') (h : RelEnv K mg none g env σ) : RelEnv K mg none g' env σ :=
  ⟨h.len, fun i a dd c p e => (nomatch e), fun i p e => let ⟨v, q, r⟩ := h.at_ i p e; ⟨v, q, r.keep x⟩⟩
section
variable {K : PySem.W.Frag} {mg : MG} {X : Cx} {W : WY} {fi fi1 : Env → MS → Res (List PV)} {as as1 : AS} {tt tt1 : ET} {te : EX} {ts ts1 : List Nat}
/-- what is to come, of a list that grows at D -/
def Fin2 (K : PySem.W.Frag) (mg : MG) (g : G) (Q : VK) (acc : List PV) (r : Res (List PV)) : Prop := match r with
  | .ok ys s' => (acc ++ ys).length ≤ LIM ∧ ∀ g' v, Ext g g' → g'.Ok K mg → g'.s = s' → RelP K mg g' (.lst (acc ++ ys)) v → Q v g'.H
  | _ => False
theorem fin2_bind {α : Type} {g : G} {Q : VK} {acc : List PV} {r : Res α} {k : α → MS → Res (List PV)} (h : Fin2 K mg g Q acc (r.bind k)) : ∃ a s, r = .ok a s ∧ Fin2 K mg g Q acc (k a s) := by
  cases r with
  | ok a s => exact ⟨a, s, rfl, h⟩
  | exc c p s => exact h.elim
  | stuck => exact h.elim
theorem tLc2_of {σ : L2.St} {H : Hp} {Q : VK} {vs vs1 : List Nat} (hts : ∀ i ∈ ts, i ∈ vs) (hts1 : ∀ i ∈ ts1, i ∈ vs1) (q : RdE K mg W (eComp2 vs vs1 fi as tt fi1 as1 tt1 te) σ H Q) :
    tLc2 (RdA K mg (ItRel K mg) W fi) (RdG K mg none ts as) (RdT K mg W0 tt) (RdA K mg (ItRel K mg) W0 fi1) (RdG K mg none ts1 as1) (RdT K mg W0 tt1) (RdE K mg W0 te) vs vs1 σ H Q := by
  unfold tLc2
  refine (RdA.seq (R := ItRel K mg) (f := fi) (k := fun xs e s => (compM2 as tt fi1 as1 tt1 te vs1 (wipeE e vs) xs s).calm.bind fun ys s => if ys.length ≤ LIM then Res.ok (PV.lst ys) s else Res.stuck) q).imp fun J H1 q => ?_
  obtain ⟨xs, g, env, rfl, ok, re, J0, q⟩ := q
  intro D hD
  let P : Nat → Hp → Prop := fun i H => ∃ g1 acc accV, g1.H = H ∧ g1.Ok K mg ∧ Ext g g1 ∧ Hid g1 D accV ∧ RelPs K mg g1 acc accV ∧ Fin2 K mg g Q acc (compM2 as tt fi1 as1 tt1 te vs1 (wipeE env vs) (xs.drop i) g1.s)
  refine ⟨fun i m H => m = xs.length - i ∧ i ≤ xs.length ∧ P i H, ⟨xs.length, by simp, Nat.zero_le _, ?_⟩, ?_⟩
  · have h0 : Hid (g.new D (.lst [])) D [] := ⟨upd_same, fun z => ok.zd D z hD, fun ⟨i, hi, e⟩ => by
      obtain ⟨o, e2, _⟩ := ok.kind ⟨i, hi, e⟩
      rw [hD] at e2; cases e2⟩
    refine ⟨g.new D (.lst []), [], [], rfl, G.new_ok ok hD, G.new_ext hD, h0, RelPs.nil, ?_⟩
    rw [List.drop_zero]
    show Fin2 K mg g Q [] (compM2 as tt fi1 as1 tt1 te vs1 (wipeE env vs) xs g.s)
    revert q
    cases compM2 as tt fi1 as1 tt1 te vs1 (wipeE env vs) xs g.s with
    | exc c p s' => exact id
    | stuck => exact id
    | ok ys s' =>
      simp only [Res.calm, bind_ok]
      intro q
      by_cases hl : ys.length ≤ LIM
      · rw [if_pos hl] at q
        exact ⟨by simpa using hl, fun g' v x' ok' es r => q g' v x' ok' es (by simpa using r)⟩
      · rw [if_neg hl] at q; exact q.elim
  · rintro i m H ⟨rfl, hi, g1, acc, accV, rfl, ok1, x1, hid, ra, fin⟩
    by_cases hlt : i < xs.length
    · obtain ⟨p, hp⟩ : ∃ p, xs[i]? = some p := ⟨xs[i], by simp [hlt]⟩
      have J1 := J0 g1 (x1.keeps ok) ok1 i
      obtain ⟨hgo, hy⟩ := J1.1 p hp
      refine .inr ⟨hgo, P (i + 1), fun H' h => ⟨xs.length - (i + 1), by omega, rfl, hlt, h⟩, fun x H' hyl => ?_⟩
      obtain ⟨g2, rfl, x2, ok2, e2, rp⟩ := hy x H' hyl
      have hdrop : xs.drop i = p :: xs.drop (i + 1) := by
        rw [List.drop_eq_getElem_cons hlt]
        congr 1
        exact (List.getElem?_eq_some_iff.mp hp).2
      rw [hdrop] at fin
      simp only [compM2] at fin
      cases ha : as p (wipeE env vs) g1.s with
      | none => rw [ha] at fin; exact fin.elim
      | some es =>
        obtain ⟨env', s3⟩ := es
        rw [ha] at fin
        dsimp only at fin
        have x12 := x1.trans ok ok1 x2
        have hid2 := hid.ext ok1 x2
        refine ⟨g2, p, wipeE env vs, env', s3, rfl, ok2, rp, (re.ext ok x12).wipe vs, by rw [e2]; exact ha, fun g3 σ3 x3 ok3 e3 re3 k3 l3 => ?_⟩
        have x13 := x12.trans ok ok2 x3
        have hid3 := hid2.ext ok2 x3
        have l3' : σ3.length = (L2.wipe σ vs).length := l3
        refine ⟨by
          rw [wipe_congr (σ := L2.wipe σ vs) l3' (fun j hj => k3 j fun z => hj (hts j z))]
          exact wipe_congr (L2.wipe_length σ vs) (fun j hj => L2.wipe_out hj), g3, env', rfl, ok3, re3, ?_⟩
        subst e3
        obtain ⟨b, s4, ht, fin⟩ := fin2_bind fin
        rw [ht]
        intro g4 b' x4 ok4 e4 hb
        subst hb
        have x14 := x13.trans ok ok3 x4
        have hid4 := hid3.ext ok3 x4
        have ra4 := ((ra.ext ok1 x2).ext ok2 x3).ext ok3 x4
        cases b with
        | false =>
          simp only [if_neg Bool.false_ne_true] at fin ⊢
          subst e4
          exact ⟨g4, acc, accV, rfl, ok4, x14, hid4, ra4, fin⟩
        | true =>
          simp only [if_true] at fin ⊢
          subst e4
          obtain ⟨ys, s5, hf, fin⟩ := fin2_bind fin
          refine ⟨g4, env', rfl, ok4, re3.ext ok3 x4, ?_⟩
          rw [hf]
          intro g5 J5 x5 ok5 e5 JR
          subst e5
          have x15 := x14.trans ok ok4 x5
          have hid5 := hid4.ext ok4 x5
          have ra5 := ra4.ext ok4 x5
          have re5 := (re3.ext ok3 x4).ext ok4 x5
          let P1 : Nat → Hp → Prop := fun j H => ∃ g1 acc accV, g1.H = H ∧ g1.Ok K mg ∧ Ext g g1 ∧ Keeps g5 g1 ∧ Hid g1 D accV ∧ RelPs K mg g1 acc accV ∧
            Fin2 K mg g Q acc ((compM as1 tt1 te (wipeE env' vs1) (ys.drop j) g1.s).bind fun zs s => (compM2 as tt fi1 as1 tt1 te vs1 (wipeE env vs) (xs.drop (i + 1)) s).bind fun ws s => .ok (zs ++ ws) s)
          refine ⟨fun j m H => m = ys.length - j ∧ j ≤ ys.length ∧ P1 j H, ⟨ys.length, by simp, Nat.zero_le _, g5, acc, accV, rfl, ok5, x15, Keeps.refl g5, hid5, ra5, ?_⟩, ?_⟩
          · rw [List.drop_zero]; exact fin
          · rintro j m H ⟨rfl, hj, g6, acc6, accV6, rfl, ok6, x16, y6, hid6, ra6, fin6⟩
            by_cases hjlt : j < ys.length
            · obtain ⟨y, hy⟩ : ∃ y, ys[j]? = some y := ⟨ys[j], by simp [hjlt]⟩
              have J6 := JR g6 y6 ok6 j
              obtain ⟨hgo6, hy6⟩ := J6.1 y hy
              refine .inr ⟨hgo6, P1 (j + 1), fun H' h => ⟨ys.length - (j + 1), by omega, rfl, hjlt, h⟩, fun x H' hyl => ?_⟩
              obtain ⟨g7, rfl, x7, ok7, e7, ry⟩ := hy6 x H' hyl
              have hdrop6 : ys.drop j = y :: ys.drop (j + 1) := by
                rw [List.drop_eq_getElem_cons hjlt]
                congr 1
                exact (List.getElem?_eq_some_iff.mp hy).2
              rw [hdrop6] at fin6
              simp only [compM] at fin6
              cases ha1 : as1 y (wipeE env' vs1) g6.s with
              | none => rw [ha1] at fin6; exact fin6.elim
              | some es =>
                obtain ⟨env7, s7⟩ := es
                rw [ha1] at fin6
                dsimp only at fin6
                have y7 := y6.trans (x7.keeps ok6)
                have x17 := x16.trans ok ok6 x7
                have hid7 := hid6.ext ok6 x7
                refine ⟨g7, y, wipeE env' vs1, env7, s7, rfl, ok7, ry, (re5.keep y7).wipe vs1, by rw [e7]; exact ha1, fun g8 σ8 x8 ok8 e8 re8 k8 l8 => ?_⟩
                have y8 := y7.trans (x8.keeps ok7)
                have x18 := x17.trans ok ok7 x8
                have hid8 := hid7.ext ok7 x8
                have l8' : σ8.length = (L2.wipe σ3 vs1).length := l8
                refine ⟨by
                  rw [wipe_congr (σ := L2.wipe σ3 vs1) l8' (fun j hj => k8 j fun z => hj (hts1 j z))]
                  exact wipe_congr (L2.wipe_length σ3 vs1) (fun j hj => L2.wipe_out hj), g8, env7, rfl, ok8, re8, ?_⟩
                subst e8
                -- the item's own reading
                revert fin6
                cases htt : tt1 env7 g8.s with
                | exc c p s' => exact fun h => h.elim
                | stuck => exact fun h => h.elim
                | ok b s9 =>
                  simp only [bind_ok]
                  intro fin6 g9 b' x9 ok9 e9 hb
                  subst hb
                  have y9 := y8.trans (x9.keeps ok8)
                  have x19 := x18.trans ok ok8 x9
                  have hid9 := hid8.ext ok8 x9
                  have ra9 := ((ra6.ext ok6 x7).ext ok7 x8).ext ok8 x9
                  cases b with
                  | false =>
                    simp only [if_neg Bool.false_ne_true] at fin6 ⊢
                    subst e9
                    exact ⟨g9, acc6, accV6, rfl, ok9, x19, y9, hid9, ra9, fin6⟩
                  | true =>
                    simp only [if_true] at fin6 ⊢
                    subst e9
                    refine ⟨g9, env7, rfl, ok9, re8.ext ok8 x9, ?_⟩
                    revert fin6
                    cases hte : te env7 g9.s with
                    | exc c p s' => exact fun h => h.elim
                    | stuck => exact fun h => h.elim
                    | ok z s10 =>
                      simp only [bind_ok]
                      intro fin6 g10 v x10 ok10 e10 rz
                      subst e10
                      have hid10 := hid9.ext ok9 x10
                      have ra10 := ra9.ext ok9 x10
                      have y10 := y9.trans (x10.keeps ok9)
                      have x110 := x19.trans ok ok9 x10
                      -- the rest computes
                      have fin7 : Fin2 K mg g Q (acc6 ++ [z]) ((compM as1 tt1 te (wipeE env' vs1) (ys.drop (j + 1)) g10.s).bind fun zs s => (compM2 as tt fi1 as1 tt1 te vs1 (wipeE env vs) (xs.drop (i + 1)) s).bind fun ws s => .ok (zs ++ ws) s) := by
                        revert fin6
                        cases compM as1 tt1 te (wipeE env' vs1) (ys.drop (j + 1)) g10.s with
                        | exc c p s' => exact id
                        | stuck => exact id
                        | ok zs s11 =>
                          simp only [bind_ok]
                          cases compM2 as tt fi1 as1 tt1 te vs1 (wipeE env vs) (xs.drop (i + 1)) s11 with
                          | exc c p s' => exact id
                          | stuck => exact id
                          | ok ws s12 =>
                            simp only [bind_ok]
                            rintro ⟨f1, f2⟩
                            refine ⟨by simpa using f1, fun g' w x' ok' es r => f2 g' w x' ok' es (by simpa using r)⟩
                      refine ⟨accV6, hid10.at_, ?_, g10.re D (accV6 ++ [v]), acc6 ++ [z], accV6 ++ [v], rfl, hid10.ok ok10, Hid.extRe x110 hD, y10.trans hid10.keeps, hid10.re, (ra10.append (RelPs.cons rz RelPs.nil)).keep hid10.keeps, fin7⟩
                      · rw [← sizeLIM, ← ra6.length]
                        have : (acc6 ++ [z]).length ≤ LIM := by
                          revert fin7
                          cases (compM as1 tt1 te (wipeE env' vs1) (ys.drop (j + 1)) g10.s).bind fun zs s => (compM2 as tt fi1 as1 tt1 te vs1 (wipeE env vs) (xs.drop (i + 1)) s).bind fun ws s => Res.ok (zs ++ ws) s with
                          | exc c p s' => exact fun h => h.elim
                          | stuck => exact fun h => h.elim
                          | ok ws s12 =>
                            rintro ⟨f1, _⟩
                            rw [List.length_append] at f1
                            omega
                        rw [List.length_append] at this
                        have e1 : ([z] : List PV).length = 1 := rfl
                        omega
            · have e : j = ys.length := by omega
              subst e
              refine .inl ⟨(JR g6 y6 ok6 _).2 (Nat.le_refl _), ?_⟩
              rw [List.drop_length] at fin6
              simp only [compM, bind_ok, List.nil_append] at fin6
              refine ⟨g6, acc6, accV6, rfl, ok6, x16, hid6, ra6, ?_⟩
              revert fin6
              cases compM2 as tt fi1 as1 tt1 te vs1 (wipeE env vs) (xs.drop (i + 1)) g6.s <;> exact id
    · have e : i = xs.length := by omega
      subst e
      refine .inl ⟨(J0 g1 (x1.keeps ok) ok1 _).2 (Nat.le_refl _), ?_⟩
      rw [List.drop_length] at fin
      simp only [compM2] at fin
      obtain ⟨f1, f2⟩ := fin
      rw [List.append_nil] at f2
      refine f2 (g1.seal D) (.ref D) (seal_ext x1 hD) (hid.seal_ok ok1) rfl ?_
      simp only [RelP]
      exact ⟨D, accV, rfl, ⟨hid.at_, .inr rfl⟩, ra.keep seal_keeps⟩
/-- [elt for tg in iter if .. for tg1 in iter1 if ..]: a list that nobody changes -/
theorem ie_lc2 {elt tg iter tg1 iter1 : Expr} {ifs ifs1 : List Expr} {scope : Scope} {own : List (Str × Nat)} {vs1 : List Nat} {pos : Pos} (hc : X.calm = true) (hN : X.N.Nodup) (hi : II X W tg iter fi) (ok : BlkOk X.N X.env.scope scope own) (hv : ∀ i ∈ vs1, i ∈ own.map (·.2))
    (hg : ∀ (s : Shared) (H : Hp) (C : Addr) (cl : List (Str × Addr)) (fp : List Addr), IG (X.blk s H scope (compEnvC scope cl C X.env) fp) none tg ts as) (ht : ∀ (s : Shared) (H : Hp) (C : Addr) (cl : List (Str × Addr)) (fp : List Addr), ITs (X.blk s H scope (compEnvC scope cl C X.env) fp) W0 ifs tt)
    (hi1 : ∀ (s : Shared) (H : Hp) (C : Addr) (cl : List (Str × Addr)) (fp : List Addr), II (X.blk s H scope (compEnvC scope cl C X.env) fp) W0 tg1 iter1 fi1)
    (hg1 : ∀ (s : Shared) (H : Hp) (C : Addr) (cl : List (Str × Addr)) (fp : List Addr), IG (X.blk s H scope (compEnvC scope cl C X.env) fp) none tg1 ts1 as1) (ht1 : ∀ (s : Shared) (H : Hp) (C : Addr) (cl : List (Str × Addr)) (fp : List Addr), ITs (X.blk s H scope (compEnvC scope cl C X.env) fp) W0 ifs1 tt1)
    (he : ∀ (s : Shared) (H : Hp) (C : Addr) (cl : List (Str × Addr)) (fp : List Addr), IE (X.blk s H scope (compEnvC scope cl C X.env) fp) W0 elt te) (hts : ∀ i ∈ ts, i ∈ own.map (·.2) := by decide) (hts1 : ∀ i ∈ ts1, i ∈ vs1 := by decide)
    (hs : ∀ x, foldedSetIterable iter X.env x = pure x := by intro _; rfl) (hs1 : ∀ env x, foldedSetIterable iter1 env x = pure x := by intro _ _; rfl) :
    IE X W (.ListComp elt [⟨tg, iter, ifs, 0⟩, ⟨tg1, iter1, ifs1, 0⟩] scope pos) (eComp2 (own.map (·.2)) vs1 fi as tt fi1 as1 tt1 te) :=
  PE.weak (pe_lc2 hc hN hi ok hv hg ht hi1 hg1 ht1 he hs hs1) fun σ H Q q => tLc2_of hts hts1 q
/-- name = [.. for .. for ..] on one line -/
theorem is_nameLc2 {i : Nat} {y : Str} {py : Pos} {elt tg iter tg1 iter1 : Expr} {ifs ifs1 : List Expr} {scope : Scope} {own : List (Str × Nat)} {vs1 : List Nat} {pos spos : Pos} (hc : X.calm = true) (hN : X.N.Nodup) (hy : X.N[i]? = some y) (hyl : X.env.scope.names.lookup y = some .local)
    (hsw : swapsWith (.ListComp elt [⟨tg, iter, ifs, 0⟩, ⟨tg1, iter1, ifs1, 0⟩] scope pos) (some (.Name y py)) spos.line X.env = pure true) (hi : II X W tg iter fi) (ok : BlkOk X.N X.env.scope scope own) (hv : ∀ i ∈ vs1, i ∈ own.map (·.2))
    (hg : ∀ (s : Shared) (H : Hp) (C : Addr) (cl : List (Str × Addr)) (fp : List Addr), IG (X.blk s H scope (compEnvC scope cl C X.env) fp) none tg ts as) (ht : ∀ (s : Shared) (H : Hp) (C : Addr) (cl : List (Str × Addr)) (fp : List Addr), ITs (X.blk s H scope (compEnvC scope cl C X.env) fp) W0 ifs tt)
    (hi1 : ∀ (s : Shared) (H : Hp) (C : Addr) (cl : List (Str × Addr)) (fp : List Addr), II (X.blk s H scope (compEnvC scope cl C X.env) fp) W0 tg1 iter1 fi1)
    (hg1 : ∀ (s : Shared) (H : Hp) (C : Addr) (cl : List (Str × Addr)) (fp : List Addr), IG (X.blk s H scope (compEnvC scope cl C X.env) fp) none tg1 ts1 as1) (ht1 : ∀ (s : Shared) (H : Hp) (C : Addr) (cl : List (Str × Addr)) (fp : List Addr), ITs (X.blk s H scope (compEnvC scope cl C X.env) fp) W0 ifs1 tt1)
    (he : ∀ (s : Shared) (H : Hp) (C : Addr) (cl : List (Str × Addr)) (fp : List Addr), IE (X.blk s H scope (compEnvC scope cl C X.env) fp) W0 elt te) (hts : ∀ i ∈ ts, i ∈ own.map (·.2) := by decide) (hts1 : ∀ i ∈ ts1, i ∈ vs1 := by decide)
    (hs : ∀ x, foldedSetIterable iter X.env x = pure x := by intro _; rfl) (hs1 : ∀ env x, foldedSetIterable iter1 env x = pure x := by intro _ _; rfl) (hB : ∀ b, W.b = some b → b.1 ≠ i := by intro b h; cases h <;> (dsimp only; decide)) :
    IS X W (.Assign [.Name y py] (.ListComp elt [⟨tg, iter, ifs, 0⟩, ⟨tg1, iter1, ifs1, 0⟩] scope pos) spos) (sSet (eComp2 (own.map (·.2)) vs1 fi as tt fi1 as1 tt1 te) (aName i)) := PS.weak (ps_setLc2 hc hN hy hyl hsw hi ok hv hg ht hi1 hg1 ht1 he hs hs1) fun D σ H q => by
  unfold tAsg
  have q1 := RdS.seq (R := fun g p v => RelP X.K X.mg g p v) (d := fun x e s => match aName i x e s with
    | some (e, s) => .nx e s
    | none => .stuck) q
  refine tLc2_of hts hts1 (q1.imp fun v H1 q => ?_)
  obtain ⟨p, g, env, rfl, ok, re, r, q⟩ := q
  exact q g _ (Ext.refl g) ok rfl (re.set i r hB)
end
end
end Mr
namespace Mr
noncomputable section
open PySem PySem.Spec PyProof.Rows L2
/-! ### min of two, texts too -/
def bMin2X : List PV → Option PV
  | [.int i, .int j] => some (.int (if j < i then j else i))
  | [.str a, .str b] => some (.str (if b < a then b else a))
  | _ => none
section
variable {prog : Program} {w : World} {A : Around} {E : Value → Shared → Prop} {s : Shared} {X : Cx}
theorem rc_lt_str {x y : Str} {t u : Tok} {Q : Value → Shared → Prop} (hu : A.units + 1 < cLine) (h : Q (.bool (decide (x.cps.toList < y.cps.toList))) s) : wpAny (model prog w) A (richCompare .Lt (.str x t) (.str y u)) Q E s := by
  have e : PySem.W.dataLt (.str x) (.str y) = decide (x.cps.toList < y.cps.toList) := by
    have := toD_lt (.str x.cps.toList) (.str y.cps.toList) rfl rfl rfl
    simp only [toD, ltB] at this
    exact this
  exact PySem.W.rcLt_alike (.str x) (.str y) A s _ _ _ _ (.str x t) (.str y u) rfl (by simp) (by simp [PyData.depth]; omega) prog w E Q (by rw [e]; exact h)
theorem min_two_strs {a b : Str} {t u : Tok} {Q : Value → Shared → Prop} (hu : A.units + 2 < cLine) (hh : A.handled = none)
    (h : ∀ h' tk, (∀ c o, s.heap.get? c = some o → h'.get? c = some o) → Q (if b.cps.toList < a.cps.toList then .str b u else .str a t) { s with heap := h', toks := tk }) :
    wpAny (model prog w) A (call (.builtin "min") [.str a t, .str b u]) Q E s := by
  have hT : (s.heap.push { cls := .type "tuple", data := .seq #[.str a t, .str b u] }).IsTuple s.heap.objs.size #[.str a t, .str b u] := ⟨_, Heap.get?_push_size _ rfl, rfl, 0, rfl⟩
  refine call_min_two (wpAny_pyIter_tuple hT ?_)
  have hsz : (s.heap.push { cls := .type "tuple", data := .seq #[.str a t, .str b u] }).objs.size = s.heap.objs.size + 1 := Heap.size_push ..
  refine ⟨_, [_, s.heap.objs.size], [_], _, _, _, fun i j => decide ((if i = 0 then a else b).cps.toList < (if j = 0 then a else b).cps.toList), rfl, Walks.tuple (A := A.in1) hh _ s.heap.objs.size (by rw [hsz]; exact Nat.ne_of_lt (Nat.lt_succ_self _)) #[.str a t, .str b u],
    ⟨⟨_, Heap.get?_push_size _ rfl, rfl, rfl⟩, hT.push _⟩, fun c hc => ?_, by simp, fun i j vi vj s' Q E hi hj hQ => ?_, fun v h' tk hP hk => ?_⟩
  · show c < ((s.heap.push _).push _).objs.size
    rw [Heap.size_push, hsz]
    rcases List.mem_cons.mp hc with rfl | hc
    · rw [hsz]; exact Nat.lt_succ_self _
    · rcases List.mem_cons.mp hc with rfl | hc
      · exact Nat.lt_succ_of_lt (Nat.lt_succ_self _)
      · cases hc
  · have at_ : ∀ (i : Nat) (v : Value), (#[Value.str a t, Value.str b u])[i]? = some v → ∃ tk, v = .str (if i = 0 then a else b) tk := fun i v e => by
      match i, e with
      | 0, e => simp at e; exact ⟨t, by rw [← e]; rfl⟩
      | 1, e => simp at e; exact ⟨u, by rw [← e]; rfl⟩
      | i + 2, e => simp at e
    obtain ⟨t1, rfl⟩ := at_ i vi hi
    obtain ⟨t2, rfl⟩ := at_ j vj hj
    exact rc_lt_str (by show A.units + 1 + 1 < cLine; omega) hQ
  · have hold : ∀ c o, s.heap.get? c = some o → h'.get? c = some o := fun c o e => by
      refine hk c o (fun hm => ?_) (Heap.get?_push_of_some _ (Heap.get?_push_of_some _ e))
      rcases List.mem_cons.mp hm with e1 | hm
      · have := Heap.lt_size e; rw [e1, hsz] at this; exact Nat.lt_irrefl _ (Nat.lt_of_succ_lt this)
      · cases hm
    have := h h' tk hold
    have hv : v = if b.cps.toList < a.cps.toList then Value.str b u else Value.str a t := by
      have hP' : (#[Value.str a t, Value.str b u])[argBest (fun i j => decide ((if i = 0 then a else b).cps.toList < (if j = 0 then a else b).cps.toList)) 1]? = some v := hP
      by_cases hba : b.cps.toList < a.cps.toList
      · have e : argBest (fun i j => decide ((if i = 0 then a else b).cps.toList < (if j = 0 then a else b).cps.toList)) 1 = 1 := by simp [argBest, hba]
        rw [e] at hP'
        rw [if_pos hba]
        simpa using hP'.symm
      · have e : argBest (fun i j => decide ((if i = 0 then a else b).cps.toList < (if j = 0 then a else b).cps.toList)) 1 = 0 := by simp [argBest, hba]
        rw [e] at hP'
        rw [if_neg hba]
        simpa using hP'.symm
    rw [hv]; exact this
theorem c_min2X (hu : X.A.units + 66 < cLine) (hc : X.calm = true) : CallR X (.builtin "min") (CalM X.K X.mg bMin2X) := by
  intro pins s σ H xs us Q I r ⟨g, ps, z, eH, ok, rd, hz, q⟩
  subst eH
  unfold bMin2X at hz
  split at hz
  · cases hz
    obtain ⟨v, w, rfl, r1, r2⟩ := rd.two
    obtain rfl := relI r1
    obtain rfl := relI r2
    exact call_min2 hc pins s σ g.H _ us Q I r ⟨_, _, rfl, fin_int ok q⟩
  · rename_i a b
    cases hz
    obtain ⟨v, w, rfl, r1, r2⟩ := rd.two
    obtain rfl := relS r1
    obtain rfl := relS r2
    obtain ⟨u, w', rfl, ⟨t, rfl⟩, ⟨t', rfl⟩⟩ := vals2 r
    refine min_two_strs (by omega) (I.ok.hd hc) fun h' tk k => ⟨.str ⟨(if b < a then b else a).toArray⟩, g.H, I.kept k, ?_, fin_str ok q⟩
    by_cases hba : b < a
    · rw [if_pos hba, if_pos hba]; exact ⟨_, rfl⟩
    · rw [if_neg hba, if_neg hba]; exact ⟨_, rfl⟩
  · cases hz
/-! ### list.count over data -/
def mCountL : PV → List PV → Option PV
  | .lst l, [x] => if (isD x && isDs l && decide (min (deps l) (dep x) ≤ 60)) = true then some (.int ((l.countP fun y => eqB y x : Nat) : Int)) else none
  | _, _ => none
theorem toDs_count (d : PV) (hd : isD d = true) : ∀ l : List PV, isDs l = true → (toDs l).countP (fun y => PyData.eqv y (toD d)) = l.countP fun y => eqB y d
  | [], _ => rfl
  | x :: xs, h => by
    simp only [isDs, Bool.and_eq_true] at h
    simp only [toDs, List.countP_cons, toD_eqv x d h.1 hd, toDs_count d hd xs h.2]
theorem m_countL (hu : X.A.units + 66 < cLine) : MtR X "list.count" (MtM' X.K X.mg mCountL) := by
  intro pins s σ H x xs v us Q I rx rv ⟨g, p, ps, z, eH, ok, r1, r2, hz, q⟩
  subst eH
  unfold mCountL at hz
  split at hz
  · rename_i l y
    split at hz
    · rename_i hc
      cases hz
      simp only [Bool.and_eq_true, decide_eq_true_eq] at hc
      obtain ⟨⟨hd, hds⟩, hdep⟩ := hc
      obtain ⟨b, vs, rfl, h1, h2⟩ := relL r1
      obtain ⟨w, rfl, r3⟩ := r2.one
      cases rx
      obtain ⟨u, rfl, ru⟩ := vals1 rv
      obtain ⟨its, rvs, pl, hz⟩ := I.list (SqL.of h1)
      obtain ⟨as, hr⟩ := Dp.readsAll I _ vs its (RelPs.dp _ vs hds h2) rvs
      obtain ⟨bs, hrx⟩ := Dp.reads I _ w u (r3.dp hd) ru
      refine PySem.SeqAt.count_list_data pl.isList hr hrx (toDs_plain l) (toD_plain y) (by rw [toDs_dep, toD_dep]; omega) ?_
      rw [toDs_count y hd l hds]
      exact ⟨.int ((l.countP fun z => eqB z y : Nat) : Int), g.H, I.tok _, ⟨_, rfl⟩, fin_int ok q⟩
    · cases hz
  · cases hz
end
end
end Mr
namespace Mr
noncomputable section
open PySem PySem.Spec PyProof.Rows L2
/-! ### a range as a value -/
def bRange1 : List PV → Option PV
  | [.int j] => some (.set [.int 0, .int j])
  | _ => none
def bRange2 : List PV → Option PV
  | [.int i, .int j] => some (.set [.int i, .int j])
  | _ => none
/-- whether a number is odd -/
def pAnd1 : PV → PV → Option PV
  | .int i, .int j => if 0 ≤ i ∧ j = 1 then some (.int (i % 2)) else none
  | _, _ => none
section
variable {K : PySem.W.Frag} {mg : MG} {g : G} {X : Cx}
theorem o_and1 : OpR X (binaryOp .BitAnd) (OpM X.K X.mg pAnd1) := by
  intro pins s σ H x y v u Q I rx ry ⟨g, px, py, z, eH, ok, r1, r2, hz, q⟩
  subst eH
  unfold pAnd1 at hz
  split at hz
  · split at hz
    · rename_i hl
      obtain ⟨hl, rfl⟩ := hl
      cases hz
      obtain rfl := relI r1
      obtain rfl := relI r2
      rename_i i
      obtain ⟨n, rfl⟩ : ∃ n : Nat, i = (n : Int) := ⟨i.toNat, by omega⟩
      refine op_odd pins s σ g.H _ _ v u Q I rx ry ⟨n, rfl, rfl, ?_⟩
      have := fin_int ok q
      rw [Int.natCast_emod]; exact this
    · cases hz
  · cases hz
theorem fin_rng (ok : g.Ok K mg) {i j : Int} {Q : VK} (q : ∀ g' v, Ext g g' → g'.Ok K mg → g'.s = g.s → RelP K mg g' (.set [.int i, .int j]) v → Q v g'.H) : ∀ p, g.H p = none → Q (.ref p) (upd g.H p (.rng i j)) := fun p hp =>
  q (g.new p (.rng i j)) _ (G.new_ext hp) (G.new_ok ok hp) rfl (by simp only [RelP]; exact ⟨i, j, p, rfl, rfl, upd_same⟩)
theorem c_range2 : CallR X (.type "range") (CalM X.K X.mg bRange2) := by
  intro pins s σ H xs us Q I r ⟨g, ps, z, eH, ok, rd, hz, q⟩
  subst eH
  unfold bRange2 at hz
  split at hz
  · cases hz
    obtain ⟨v, w, rfl, r1, r2⟩ := rd.two
    obtain rfl := relI r1
    obtain rfl := relI r2
    exact cr_range2 pins s σ g.H _ us Q I r ⟨_, _, rfl, fun p hp => fin_rng ok q p hp⟩
  · cases hz
theorem c_range1 : CallR X (.type "range") (CalM X.K X.mg bRange1) := by
  intro pins s σ H xs us Q I r ⟨g, ps, z, eH, ok, rd, hz, q⟩
  subst eH
  unfold bRange1 at hz
  split at hz
  · cases hz
    obtain ⟨v, rfl, r1⟩ := rd.one
    obtain rfl := relI r1
    obtain ⟨u, rfl, ru⟩ := vals1 r
    obtain ⟨t, rfl⟩ := ru
    refine call_range_1 ⟨.ref s.heap.objs.size, upd g.H s.heap.objs.size (.rng 0 _), I.laid (t' := s.toks + 1 + 1) (fun b o e => Heap.get?_push_of_some _ e) (Nat.le_refl _) ?_, rfl, fin_rng ok q _ (I.hok.fresh (Nat.le_refl _))⟩
    exact ⟨s.toks, t, s.toks + 1, Heap.get?_push_size _ rfl⟩
  · cases hz
end
end
end Mr
namespace Mr
noncomputable section
open PySem PySem.Spec PyProof.Rows L2
/-! ### zip of two lists, of two tuples; lists of ranges; {} that stays -/
def zipP : List PV → List PV → List PV
  | x :: xs, y :: ys => .tup [x, y] :: zipP xs ys
  | _, _ => []
def zipM : List PV → Option (List PV)
  | [.lst a, .lst b] => some (zipP a b)
  | [.tup a, .tup b] => some (zipP a b)
  | _ => none
theorem zipP_get : ∀ (a b : List PV) (i : Nat) (p : PV), (zipP a b)[i]? = some p → ∃ x y, a[i]? = some x ∧ b[i]? = some y ∧ p = .tup [x, y]
  | x :: xs, y :: ys, 0, p, h => by
    simp only [zipP, List.getElem?_cons_zero, Option.some.injEq] at h
    exact ⟨x, y, rfl, rfl, h.symm⟩
  | x :: xs, y :: ys, i + 1, p, h => by
    simp only [zipP, List.getElem?_cons_succ] at h ⊢
    exact zipP_get xs ys i p h
  | [], _, i, p, h => by simp [zipP] at h
  | _ :: _, [], i, p, h => by simp [zipP] at h
theorem zipP_len : ∀ (a b : List PV), (zipP a b).length = min a.length b.length
  | x :: xs, y :: ys => by simp only [zipP, List.length_cons, zipP_len xs ys]; omega
  | [], _ => by simp [zipP]
  | _ :: _, [] => by simp [zipP]
def bTupleR : List PV → Option PV
  | [.set [.int i, .int j]] => if (smallI i && smallI j && decide ((j - i).toNat ≤ LIM)) = true then some (.tup (rng i (j - i).toNat)) else none
  | _ => none
def bListR : List PV → Option PV
  | [.set [.int i, .int j]] => if (smallI i && smallI j && decide ((j - i).toNat ≤ LIM)) = true then some (.lst (rng i (j - i).toNat)) else none
  | _ => none
section
variable {K : PySem.W.Frag} {mg : MG} {g : G} {X : Cx} {W : WY} {pos : Pos}
theorem itRel_zipL {l m : List PV} {a b : Addr} {xs ys : List V} (h1 : ∀ g', Keeps g g' → SqL K g'.H a xs) (h2 : ∀ g', Keeps g g' → SqL K g'.H b ys) (r1 : RelPs K mg g l xs) (r2 : RelPs K mg g m ys) : ItRel K mg g (zipP l m) (Itz K a b) := by
  intro g1 x1 ok1 i
  have q1 := h1 g1 x1
  have q2 := h2 g1 x1
  refine ⟨fun p hp => ?_, fun hl => ⟨xs, ys, q1, q2, by rw [zipP_len, r1.length, r2.length] at hl; omega⟩⟩
  obtain ⟨x, y, hx, hy, rfl⟩ := zipP_get _ _ _ _ hp
  obtain ⟨v, hv, rv⟩ := r1.get' hx
  obtain ⟨w, hw, rw'⟩ := r2.get' hy
  refine ⟨⟨xs, ys, v, w, q1, q2, hv, hw⟩, fun v' H' hyy => ?_⟩
  obtain ⟨T, x', y', rfl, hT, rfl, e1, e2⟩ := hyy
  have e1 := e1 xs q1
  have e2 := e2 ys q2
  rw [hv] at e1
  rw [hw] at e2
  cases e1
  cases e2
  exact ⟨_, rfl, G.new_ext hT, G.new_ok ok1 hT, rfl, G.new_tup ok1 hT (RelPs.cons (rv.keep x1) (RelPs.cons (rw'.keep x1) RelPs.nil))⟩
theorem itRel_zipT {l m : List PV} {a b : Addr} {xs ys : List V} (h1 : ∀ g', Keeps g g' → SqT K g'.H a xs) (h2 : ∀ g', Keeps g g' → SqT K g'.H b ys) (r1 : RelPs K mg g l xs) (r2 : RelPs K mg g m ys) : ItRel K mg g (zipP l m) (RZ.ItzT K a b) := by
  intro g1 x1 ok1 i
  have q1 := h1 g1 x1
  have q2 := h2 g1 x1
  refine ⟨fun p hp => ?_, fun hl => ⟨xs, ys, q1, q2, by rw [zipP_len, r1.length, r2.length] at hl; omega⟩⟩
  obtain ⟨x, y, hx, hy, rfl⟩ := zipP_get _ _ _ _ hp
  obtain ⟨v, hv, rv⟩ := r1.get' hx
  obtain ⟨w, hw, rw'⟩ := r2.get' hy
  refine ⟨⟨xs, ys, v, w, q1, q2, hv, hw⟩, fun v' H' hyy => ?_⟩
  obtain ⟨T, x', y', rfl, hT, rfl, e1, e2⟩ := hyy
  have e1 := e1 xs q1
  have e2 := e2 ys q2
  rw [hv] at e1
  rw [hw] at e2
  cases e1
  cases e2
  exact ⟨_, rfl, G.new_ext hT, G.new_ok ok1 hT, rfl, G.new_tup ok1 hT (RelPs.cons (rv.keep x1) (RelPs.cons (rw'.keep x1) RelPs.nil))⟩
theorem ii_zip {elts : List Expr} {kk : Nat} {tpos p : Pos} {a b : Expr} {fs : List EX} (hg : Gl X "zip") (hm : X.mg "zip" = none) (ha : IA X W [a, b] (eList fs)) (hs : starEach [a, b] X.env = (false, eval a X.env) :: starEach [b] X.env := by rfl)
    (hpl : (backTo pos (starEach [b] X.env)).any (·.1) = false := by rfl) : II X W (.Tuple elts kk tpos) (.Call (.Name "zip" p) [a, b] [] pos) (iRng zipM fs) :=
  PI.weak (RZ.pi_zipA hg hm ha hs hpl) fun σ H Q q => by
    refine (rng_args q).imp fun vs H1 q => ?_
    obtain ⟨ps, zs, g, rfl, r, hz, q⟩ := q
    unfold zipM at hz
    split at hz
    · cases hz
      simp only [RelPs, RelP] at r
      obtain ⟨v, _, rfl, ⟨a, xs, rfl, ⟨h1, z1⟩, r1⟩, v2, _, rfl, ⟨b, ys, rfl, ⟨h2, z2⟩, r2⟩, rfl⟩ := r
      exact ⟨a, b, xs, ys, rfl, .inl ⟨SqL.of h1, SqL.of h2, q _ (itRel_zipL (fun g' x => SqL.of (x.lst a xs h1 z1).1) (fun g' x => SqL.of (x.lst b ys h2 z2).1) r1 r2)⟩⟩
    · cases hz
      simp only [RelPs, RelP] at r
      obtain ⟨v, _, rfl, ⟨a, xs, rfl, h1, r1⟩, v2, _, rfl, ⟨b, ys, rfl, h2, r2⟩, rfl⟩ := r
      exact ⟨a, b, xs, ys, rfl, .inr ⟨SqT.of h1, SqT.of h2, q _ (itRel_zipT (fun g' x => SqT.of (x.tup a xs h1)) (fun g' x => SqT.of (x.tup b ys h2)) r1 r2)⟩⟩
    · cases hz
theorem ie_newE : IE X W (.Dict [] [] pos) (eC (.dct false [] [])) :=
  PE.weak (pe_frz pe_dnewK) fun σ H Q q p hp => by
    obtain ⟨g, env, rfl, ok, re, q⟩ := q
    exact frz_fin (d := ([], [])) (kvs := []) ok hp (G.new_ext hp) (G.new_ok ok hp) (new_hid ok hp trivial) rfl RelPs.nil q
theorem rng_rel (lo : Int) : ∀ n : Nat, RelPs K mg g (rng lo n) ((List.range n).map fun i => V.int (lo + (i : Nat))) := fun n => by
  unfold rng
  induction List.range n with
  | nil => exact RelPs.nil
  | cons x xs ih => exact RelPs.cons (by simp only [RelP]) ih
theorem rng_vals {lo : Int} {n : Nat} {acc : Array Value} (h : ItemsOf (fun i v => ∃ t, v = Value.int (lo + (i : Nat) * 1) t) acc n) : Vals ((List.range n).map fun i => V.int (lo + (i : Nat))) acc.toList := by
  refine vals_of_at (by simp [h.1]) fun j v u h1 h2 => ?_
  obtain ⟨t, e⟩ := h.2 j u (by simpa using h2)
  have hj : j < n := by
    have := (Array.getElem?_eq_some_iff.mp (show acc[j]? = some u by simpa using h2)).1
    rw [h.1] at this; exact this
  rw [List.getElem?_map, List.getElem?_range hj] at h1
  cases h1
  exact ⟨t, by rw [e, Int.mul_one]⟩
theorem c_tupleR (hc : X.calm = true) : CallR X (.type "tuple") (CalM X.K X.mg bTupleR) := by
  intro pins s σ H xs us Q I r ⟨g, ps, z, eH, ok, rd, hz, q⟩
  subst eH
  unfold bTupleR at hz
  split at hz
  · split at hz
    · rename_i i j hl
      cases hz
      simp only [Bool.and_eq_true, decide_eq_true_eq] at hl
      obtain ⟨⟨h1, h2⟩, h3⟩ := hl
      have h1 := smallI_b h1
      have h2 := smallI_b h2
      rw [LIM_eq] at h3
      obtain ⟨v, rfl, r1⟩ := rd.one
      simp only [RelD, RelP] at r1
      obtain ⟨_, _, a, e1, rfl, ha⟩ := r1
      cases e1
      obtain ⟨u, rfl, ru⟩ := vals1 r
      cases ru
      obtain ⟨t, u', w, ho⟩ := I.hok a _ ha
      refine call_tuple_range (I.ok.hd hc) (show IsRange s.heap a _ _ 1 t u' w from ho) (small_one h1.1 h1.2 h2.1 h2.2) (n := (j - i).toNat) (by rw [rangeSize_one]; split <;> omega) (by omega) fun h' tk acc hk hi => ?_
      have hv := rng_vals hi
      have I2 : L2.Inv X pins σ g.H { s with heap := h', toks := tk } := I.kept hk
      have I3 := I2.laid (t' := tk) (h' := h'.push { cls := .type "tuple", data := .seq acc }) (o := .tup ((List.range (j - i).toNat).map fun k => V.int (i + (k : Nat)))) (fun b ob q => Heap.get?_push_of_some _ q) (Nat.le_refl _) ⟨by rw [List.length_map, List.length_range, sizeLine_eq]; omega, acc.toList, hv, _, Heap.get?_push_size _ rfl, rfl, 0, by simp⟩
      exact ⟨.ref _, _, I3, rfl, fin_tup ok (rng_rel _ _) q _ (I2.hok.fresh (Nat.le_refl _))⟩
    · cases hz
  · cases hz
theorem c_listR (hc : X.calm = true) : CallR X (.type "list") (CalM X.K X.mg bListR) := by
  intro pins s σ H xs us Q I r ⟨g, ps, z, eH, ok, rd, hz, q⟩
  subst eH
  unfold bListR at hz
  split at hz
  · split at hz
    · rename_i i j hl
      cases hz
      simp only [Bool.and_eq_true, decide_eq_true_eq] at hl
      obtain ⟨⟨h1, h2⟩, h3⟩ := hl
      have h1 := smallI_b h1
      have h2 := smallI_b h2
      rw [LIM_eq] at h3
      obtain ⟨v, rfl, r1⟩ := rd.one
      simp only [RelD, RelP] at r1
      obtain ⟨_, _, a, e1, rfl, ha⟩ := r1
      cases e1
      obtain ⟨u, rfl, ru⟩ := vals1 r
      cases ru
      obtain ⟨t, u', w, ho⟩ := I.hok a _ ha
      refine PySem.call_list_range (I.ok.hd hc) (show IsRange s.heap a _ _ 1 t u' w from ho) (small_one h1.1 h1.2 h2.1 h2.2) (n := (j - i).toNat) (by rw [rangeSize_one]; split <;> omega) (by omega) fun h' tk acc c hk hn hi => ?_
      have hv := rng_vals hi
      have I3 : L2.Inv X pins σ (upd g.H s.heap.objs.size (.lst ((List.range (j - i).toNat).map fun k => V.int (i + (k : Nat))))) { s with heap := h', toks := tk } :=
        I.laid hk (Nat.le_refl _) ⟨by rw [List.length_map, List.length_range, sizeLine_eq]; omega, acc.toList, c, hv, by simpa using hn⟩
      exact ⟨.ref _, _, I3, rfl, fin_lst ok (rng_rel _ _) q _ (I.hok.fresh (Nat.le_refl _))⟩
    · cases hz
  · cases hz
end
end
end Mr
namespace Mr
noncomputable section
open PySem PySem.Spec PyProof.Rows L2
/-! ### what is computed ends so -/
abbrev XP := String → PV → MS → Prop
abbrev NoX : XP := fun _ _ _ => False
def Ok {α : Type} (r : Res α) (Q : α → MS → Prop) (X : XP) : Prop := match r with
  | .ok a s => Q a s
  | .exc c v s => X c v s
  | .stuck => False
structure SP where
  N : Env → MS → Prop
  R : PV → MS → Prop
  B : Env → MS → Prop
  X : String → PV → Env → MS → Prop
def SW (r : SRes) (P : SP) : Prop := match r with
  | .nx e s => P.N e s
  | .rt v s => P.R v s
  | .bk e s => P.B e s
  | .ct _ _ => False
  | .ex c p e s => P.X c p e s
  | .stuck => False
section
variable {α β γ : Type} {s : MS} {e : Env} {Q Q' : α → MS → Prop} {X X' : XP} {P : SP} {a : α} {r : Res α}
theorem ok_ok : Ok (.ok a s) Q X = Q a s := rfl
theorem ok_exc {c : String} {v : PV} : Ok (.exc c v s : Res α) Q X = X c v s := rfl
theorem ok_bind {k : γ → MS → Res α} {r : Res γ} : Ok (r.bind k) Q X = Ok r (fun a s => Ok (k a s) Q X) X := by cases r <;> rfl
theorem ok_ofO {o : Option α} : Ok (ofO o s) Q X = ∃ v, o = some v ∧ Q v s := by
  cases o with
  | none => simp [Ok, ofO]
  | some v => simp [Ok, ofO]
theorem Ok.mono (h : Ok r Q X) (hQ : ∀ a s, Q a s → Q' a s) (hX : ∀ c v s, X c v s → X' c v s) : Ok r Q' X' := by
  cases r with
  | ok a s => exact hQ a s h
  | exc c v s => exact hX c v s h
  | stuck => exact h
theorem Ok.weak (h : Ok r Q NoX) (hQ : ∀ a s, Q a s → Q' a s) : Ok r Q' X := h.mono hQ fun _ _ _ h => h.elim
theorem Ok.eq {s' : MS} (h : Ok r (fun b t => b = a ∧ t = s') NoX) : r = .ok a s' := by
  cases r with
  | ok b t => obtain ⟨rfl, rfl⟩ := h; rfl
  | exc c v s => exact h.elim
  | stuck => exact h.elim
theorem Ok.of {s' : MS} (h : r = .ok a s') : Ok r (fun b t => b = a ∧ t = s') NoX := by rw [h]; exact ⟨rfl, rfl⟩
theorem Ok.ex (h : Ok r Q NoX) : ∃ a s, r = .ok a s ∧ Q a s := by
  cases r with
  | ok b t => exact ⟨b, t, rfl, h⟩
  | exc c v s => exact h.elim
  | stuck => exact h.elim
theorem Ok.exc_eq {c : String} {v : PV} {s' : MS} (h : Ok r (fun _ _ => False) (fun d w t => d = c ∧ w = v ∧ t = s')) : r = .exc c v s' := by
  cases r with
  | ok b t => exact h.elim
  | exc d w t => obtain ⟨rfl, rfl, rfl⟩ := h; rfl
  | stuck => exact h.elim
theorem ok_calm (h : Ok r Q NoX) : Ok r.calm Q X := by
  cases r with
  | ok b t => exact h
  | exc c v s => exact h.elim
  | stuck => exact h
theorem calm_ok : (Res.ok a s).calm = .ok a s := rfl
theorem sw_nx : SW (.nx e s) P = P.N e s := rfl
theorem sw_rt {v : PV} : SW (.rt v s) P = P.R v s := rfl
theorem sw_bk : SW (.bk e s) P = P.B e s := rfl
theorem sw_ex {c : String} {p : PV} : SW (.ex c p e s) P = P.X c p e s := rfl
theorem sw_then {r : SRes} {k : SX} : SW (r.then k) P = SW r { P with N := fun e s => SW (k e s) P } := by cases r <;> rfl
theorem sw_sbind {k : α → MS → SRes} : SW (r.sbind e k) P = Ok r (fun a s => SW (k a s) P) (fun c p s => P.X c p e s) := by cases r <;> rfl
theorem ok_fin {r : SRes} {Q : PV → MS → Prop} : Ok r.fin Q X = SW r ⟨fun _ s => Q .non s, Q, fun _ _ => False, fun c p _ s => X c p s⟩ := by cases r <;> rfl
theorem SW.mono {r : SRes} {P' : SP} (h : SW r P) (hN : ∀ e s, P.N e s → P'.N e s) (hR : ∀ v s, P.R v s → P'.R v s) (hB : ∀ e s, P.B e s → P'.B e s) (hX : ∀ c p e s, P.X c p e s → P'.X c p e s) : SW r P' := by
  cases r with
  | nx e s => exact hN e s h
  | rt v s => exact hR v s h
  | bk e s => exact hB e s h
  | ct e s => exact h
  | ex c p e s => exact hX c p e s h
  | stuck => exact h
/-! what is made within is forgotten -/
theorem ok_gc {F : FN} {args : List PV} {Q : PV → MS → Prop} (h : Ok (F args s) (fun v s' => noObj v = true ∧ Agree s s' ∧ Q v s) (fun c v s' => noObj v = true ∧ Agree s s' ∧ X c v s)) : Ok (gcF F args s) Q X := by
  unfold gcF
  revert h
  cases F args s with
  | ok v s' => intro h; dsimp only; rw [if_pos ⟨h.1, h.2.1⟩]; exact h.2.2
  | exc c v s' => intro h; dsimp only; rw [if_pos ⟨h.1, h.2.1⟩]; exact h.2.2
  | stuck => exact id
theorem ok_gcL {F : FN} {args : List PV} {Q : PV → MS → Prop} (h : Ok (F args s) (fun v s' => Agree s s' ∧ ((noObj v = true ∧ Q v s) ∨ ∃ i l, v = .obj i ∧ s'.m i = some (.lst l) ∧ noObjs l = true ∧ s.n ≤ i ∧ Q (.lst l) s)) (fun c v s' => noObj v = true ∧ Agree s s' ∧ X c v s)) : Ok (gcL F args s) Q X := by
  unfold gcL
  revert h
  cases F args s with
  | ok v s' =>
    intro h
    obtain ⟨ha, ⟨h1, h2⟩ | ⟨i, l, rfl, hm, hn, hi, hq⟩⟩ := h
    · dsimp only; unfold tellL; rw [if_pos ⟨h1, ha⟩]; exact h2
    · dsimp only; unfold tellL; rw [if_neg (fun h => by simp [noObj] at h)]; dsimp only; rw [hm]; dsimp only; rw [if_pos ⟨hn, ha, hi⟩]; exact hq
  | exc c v s' => intro h; dsimp only; rw [if_pos ⟨h.1, h.2.1⟩]; exact h.2.2
  | stuck => exact id
theorem agree_refl (s : MS) : Agree s s := fun _ _ => rfl
theorem agree_new {s s' : MS} {o : PO} (h : Agree s s') (hn : s.n ≤ s'.n) : Agree s (s'.new o) := fun i hi => by
  show (if i = s'.n then some o else s'.m i) = s.m i
  rw [if_neg (by omega)]; exact h i hi
theorem agree_put {s s' : MS} {o : PO} {j : Nat} (h : Agree s s') (hj : s.n ≤ j) : Agree s (s'.put j o) := fun i hi => by
  show (if i = j then some o else s'.m i) = s.m i
  rw [if_neg (by omega)]; exact h i hi
theorem agree_new1 {s : MS} {o : PO} : Agree s (s.new o) := agree_new (agree_refl s) (Nat.le_refl _)
/-! walks -/
def forStep (as : AS) (body : SX) (p : PV) : SX := fun e s => match as p e s with
  | some (e', s') => body e' s'
  | none => .stuck
theorem fs_name {i : Nat} {body : SX} {p : PV} : forStep (aName i) body p e s = body (e.set i (some p)) s := rfl
theorem sw_for {α : Type} {inj : α → PV} {xs : List α} {as : AS} {body : SX} (I : List α → Env → MS → Prop) (h0 : I [] e s)
    (step : ∀ done x rest e s, done ++ x :: rest = xs → I done e s → SW (forStep as body (inj x) e s) ⟨I (done ++ [x]), P.R, P.N, P.X⟩)
    (fin : ∀ e s, I xs e s → P.N e s) : SW (Mr.forM as body (xs.map inj) e s) P := by
  have key : ∀ (rest done : List α) (e : Env) (s : MS), done ++ rest = xs → I done e s → SW (Mr.forM as body (rest.map inj) e s) P := by
    intro rest
    induction rest with
    | nil => intro done e s hd h; rw [List.append_nil] at hd; subst hd; exact fin e s h
    | cons x rest ih =>
      intro done e s hd h
      have q := step done x rest e s hd h
      rw [List.map_cons]
      unfold forStep at q
      simp only [Mr.forM]
      cases ha : as (inj x) e s with
      | none => rw [ha] at q; exact q.elim
      | some es =>
        obtain ⟨e', s'⟩ := es
        rw [ha] at q
        dsimp only at q ⊢
        revert q
        cases body e' s' with
        | nx e2 s2 => exact fun q => ih (done ++ [x]) e2 s2 (by rw [List.append_assoc]; exact hd) q
        | rt v s2 => exact id
        | bk e2 s2 => exact id
        | ct e2 s2 => exact fun q => q.elim
        | ex c p e2 s2 => exact id
        | stuck => exact id
  exact key xs [] e s rfl h0
/-- a comprehension, each item by itself -/
theorem comp_gen {α : Type} {inj : α → PV} {as : AS} {t : ET} {f : EX} (E : α → Env) (b : α → Bool) (g : α → PV) : ∀ (xs : List α) (s : MS), (∀ x ∈ xs, ∀ s, as (inj x) e s = some (E x, s)) → (∀ x ∈ xs, ∀ s, t (E x) s = .ok (b x) s) →
    (∀ x ∈ xs, b x = true → ∀ s, f (E x) s = .ok (g x) s) → compM as t f e (xs.map inj) s = .ok ((xs.filter b).map g) s
  | [], s, _, _, _ => rfl
  | x :: xs, s, h1, h2, h3 => by
    have ih := comp_gen E b g xs s (fun y hy => h1 y (List.mem_cons_of_mem _ hy)) (fun y hy => h2 y (List.mem_cons_of_mem _ hy)) fun y hy => h3 y (List.mem_cons_of_mem _ hy)
    simp only [List.map_cons, compM, h1 x List.mem_cons_self, h2 x List.mem_cons_self, bind_ok, ih]
    cases hb : b x with
    | true => simp only [if_true, h3 x List.mem_cons_self hb, bind_ok, List.filter_cons, hb, List.map_cons, ih]
    | false => simp [List.filter_cons, hb]
theorem ok_comp {α : Type} {inj : α → PV} {i : Nat} {f : EX} {xs : List α} {Q : List PV → MS → Prop} (g : α → PV) (hf : ∀ x ∈ xs, ∀ s, f (e.set i (some (inj x))) s = .ok (g x) s) (k : Q (xs.map g) s) : Ok (compM (aName i) tYs f e (xs.map inj) s).calm Q X := by
  have h := comp_gen (e := e) (inj := inj) (as := aName i) (t := tYs) (f := f) (fun x => e.set i (some (inj x))) (fun _ => true) g xs s (fun _ _ _ => rfl) (fun _ _ _ => rfl) (fun x hx _ => hf x hx)
  rw [h]
  have e : xs.filter (fun _ => true) = xs := by simp
  rw [e]; exact k
theorem ok_filt {α : Type} {inj : α → PV} {i : Nat} {t : ET} {f : EX} {xs : List α} {Q : List PV → MS → Prop} (b : α → Bool) (g : α → PV) (ht : ∀ x ∈ xs, ∀ s, t (e.set i (some (inj x))) s = .ok (b x) s)
    (hf : ∀ x ∈ xs, b x = true → ∀ s, f (e.set i (some (inj x))) s = .ok (g x) s) (k : Q ((xs.filter b).map g) s) : Ok (compM (aName i) t f e (xs.map inj) s).calm Q X := by
  rw [comp_gen (e := e) (inj := inj) (as := aName i) (t := t) (f := f) (fun x => e.set i (some (inj x))) b g xs s (fun _ _ _ => rfl) ht hf]
  exact k
theorem ok_compG {α : Type} {inj : α → PV} {as : AS} {t : ET} {f : EX} {xs : List α} {Q : List PV → MS → Prop} (E : α → Env) (b : α → Bool) (g : α → PV) (ha : ∀ x ∈ xs, ∀ s, as (inj x) e s = some (E x, s)) (ht : ∀ x ∈ xs, ∀ s, t (E x) s = .ok (b x) s)
    (hf : ∀ x ∈ xs, b x = true → ∀ s, f (E x) s = .ok (g x) s) (k : Q ((xs.filter b).map g) s) : Ok (compM as t f e (xs.map inj) s).calm Q X := by
  rw [comp_gen E b g xs s ha ht hf]
  exact k
theorem comp2_gen {α β : Type} {inj : α → PV} {inj1 : β → PV} {as as1 : AS} {t t1 : ET} {fi1 : Env → MS → Res (List PV)} {f : EX} {vs1 : List Nat} (E : α → Env) (b : α → Bool) (ys : α → List β) (E1 : α → β → Env) (b1 : α → β → Bool) (g : α → β → PV) : ∀ (xs : List α) (s : MS),
    (∀ x ∈ xs, ∀ s, as (inj x) e s = some (E x, s)) → (∀ x ∈ xs, ∀ s, t (E x) s = .ok (b x) s) → (∀ x ∈ xs, b x = true → ∀ s, fi1 (E x) s = .ok ((ys x).map inj1) s) → (∀ x ∈ xs, b x = true → ∀ y ∈ ys x, ∀ s, as1 (inj1 y) (wipeE (E x) vs1) s = some (E1 x y, s)) →
    (∀ x ∈ xs, b x = true → ∀ y ∈ ys x, ∀ s, t1 (E1 x y) s = .ok (b1 x y) s) → (∀ x ∈ xs, b x = true → ∀ y ∈ ys x, b1 x y = true → ∀ s, f (E1 x y) s = .ok (g x y) s) →
    compM2 as t fi1 as1 t1 f vs1 e (xs.map inj) s = .ok ((xs.filter b).flatMap fun x => ((ys x).filter (b1 x)).map (g x)) s
  | [], s, _, _, _, _, _, _ => rfl
  | x :: xs, s, h1, h2, h3, h4, h5, h6 => by
    have ih := fun s => comp2_gen E b ys E1 b1 g xs s (fun y hy => h1 y (List.mem_cons_of_mem _ hy)) (fun y hy => h2 y (List.mem_cons_of_mem _ hy)) (fun y hy => h3 y (List.mem_cons_of_mem _ hy)) (fun y hy => h4 y (List.mem_cons_of_mem _ hy)) (fun y hy => h5 y (List.mem_cons_of_mem _ hy)) (fun y hy => h6 y (List.mem_cons_of_mem _ hy))
    simp only [List.map_cons, compM2, h1 x List.mem_cons_self, h2 x List.mem_cons_self, bind_ok]
    cases hb : b x with
    | true =>
      have q := comp_gen (e := wipeE (E x) vs1) (inj := inj1) (as := as1) (t := t1) (f := f) (E1 x) (b1 x) (g x) (ys x) s (h4 x List.mem_cons_self hb) (h5 x List.mem_cons_self hb) (h6 x List.mem_cons_self hb)
      simp only [if_true, h3 x List.mem_cons_self hb, bind_ok, q, ih, List.filter_cons, hb, List.flatMap_cons]
    | false =>
      simp only [if_neg Bool.false_ne_true, ih, List.filter_cons, hb]
theorem ok_comp2 {α β : Type} {inj : α → PV} {inj1 : β → PV} {i j : Nat} {fi1 : Env → MS → Res (List PV)} {f : EX} {vs1 : List Nat} {xs : List α} {Q : List PV → MS → Prop} (ys : α → List β) (g : α → β → PV)
    (hy : ∀ x ∈ xs, ∀ s, fi1 (e.set i (some (inj x))) s = .ok ((ys x).map inj1) s) (hf : ∀ x ∈ xs, ∀ y ∈ ys x, ∀ s, f ((wipeE (e.set i (some (inj x))) vs1).set j (some (inj1 y))) s = .ok (g x y) s)
    (k : Q (xs.flatMap fun x => (ys x).map (g x)) s) : Ok (compM2 (aName i) tYs fi1 (aName j) tYs f vs1 e (xs.map inj) s).calm Q X := by
  rw [comp2_gen (e := e) (inj := inj) (inj1 := inj1) (as := aName i) (as1 := aName j) (t := tYs) (t1 := tYs) (fun x => e.set i (some (inj x))) (fun _ => true) ys (fun x y => (wipeE (e.set i (some (inj x))) vs1).set j (some (inj1 y))) (fun _ _ => true) g xs s (fun _ _ _ => rfl) (fun _ _ _ => rfl) (fun x hx _ => hy x hx) (fun _ _ _ _ _ _ => rfl) (fun _ _ _ _ _ _ => rfl) (fun x hx _ y hy' _ => hf x hx y hy')]
  have e1 : (xs.filter fun _ => true) = xs := by simp
  have e2 : ∀ x, ((ys x).filter fun _ => true) = ys x := fun x => by simp
  show Q ((xs.filter fun _ => true).flatMap fun x => ((ys x).filter fun _ => true).map (g x)) s
  rw [e1]
  simp only [e2]
  exact k
theorem ok_filt2 {α β : Type} {inj : α → PV} {inj1 : β → PV} {i j : Nat} {t1 : ET} {fi1 : Env → MS → Res (List PV)} {f : EX} {vs1 : List Nat} {xs : List α} {Q : List PV → MS → Prop} (ys : α → List β) (b1 : α → β → Bool) (g : α → β → PV)
    (hy : ∀ x ∈ xs, ∀ s, fi1 (e.set i (some (inj x))) s = .ok ((ys x).map inj1) s) (ht : ∀ x ∈ xs, ∀ y ∈ ys x, ∀ s, t1 ((wipeE (e.set i (some (inj x))) vs1).set j (some (inj1 y))) s = .ok (b1 x y) s)
    (hf : ∀ x ∈ xs, ∀ y ∈ ys x, b1 x y = true → ∀ s, f ((wipeE (e.set i (some (inj x))) vs1).set j (some (inj1 y))) s = .ok (g x y) s)
    (k : Q (xs.flatMap fun x => ((ys x).filter (b1 x)).map (g x)) s) : Ok (compM2 (aName i) tYs fi1 (aName j) t1 f vs1 e (xs.map inj) s).calm Q X := by
  rw [comp2_gen (e := e) (inj := inj) (inj1 := inj1) (as := aName i) (as1 := aName j) (t := tYs) (t1 := t1) (fun x => e.set i (some (inj x))) (fun _ => true) ys (fun x y => (wipeE (e.set i (some (inj x))) vs1).set j (some (inj1 y))) b1 g xs s (fun _ _ _ => rfl) (fun _ _ _ => rfl) (fun x hx _ => hy x hx) (fun _ _ _ _ _ _ => rfl) (fun x hx _ => ht x hx) (fun x hx _ y hy' hb => hf x hx y hy' hb)]
  have e1 : (xs.filter fun _ => true) = xs := by simp
  show Q ((xs.filter fun _ => true).flatMap fun x => ((ys x).filter (b1 x)).map (g x)) s
  rw [e1]
  exact k
/-- a comprehension that draws: each item is of a kind, the state keeps I -/
theorem ok_compI {α : Type} {inj : α → PV} {i : Nat} {f : EX} {xs : List α} {Q : List PV → MS → Prop} (I : MS → Prop) (V : α → PV → Prop) (h0 : I s) (hf : ∀ x ∈ xs, ∀ s, I s → Ok (f (e.set i (some (inj x))) s) (fun v s' => V x v ∧ I s') NoX)
    (k : ∀ (ys : List PV) (s' : MS), ys.length = xs.length → (∀ (j : Nat) x y, xs[j]? = some x → ys[j]? = some y → V x y) → I s' → Q ys s') : Ok (compM (aName i) tYs f e (xs.map inj) s).calm Q X := by
  have key : ∀ (xs : List α) (s : MS), I s → (∀ x ∈ xs, ∀ s, I s → Ok (f (e.set i (some (inj x))) s) (fun v s' => V x v ∧ I s') NoX) → ∃ (ys : List PV) (s' : MS), compM (aName i) tYs f e (xs.map inj) s = .ok ys s' ∧ ys.length = xs.length ∧ (∀ (j : Nat) x y, xs[j]? = some x → ys[j]? = some y → V x y) ∧ I s' := by
    intro xs
    induction xs with
    | nil => intro s h _; exact ⟨[], s, rfl, rfl, fun j x y h => by simp at h, h⟩
    | cons x xs ih =>
      intro s h hf
      obtain ⟨v, s1, e1, hv, h1⟩ := (hf x List.mem_cons_self s h).ex
      obtain ⟨ys, s2, e2, hl, hy, h2⟩ := ih s1 h1 fun y hy => hf y (List.mem_cons_of_mem _ hy)
      refine ⟨v :: ys, s2, ?_, by simp [hl], fun j a b ha hb => ?_, h2⟩
      · simp only [List.map_cons, compM, ap_name, ap_yes, bind_ok, if_true, e1, e2]
      · cases j with
        | zero => simp at ha hb; subst ha hb; exact hv
        | succ j => exact hy j a b (by simpa using ha) (by simpa using hb)
  obtain ⟨ys, s', e1, e2, e3, e4⟩ := key xs s h0 hf
  rw [e1]
  exact k ys s' e2 e3 e4
end
/-! ### operations, in their usual cases -/
section
variable {a b : List Nat} {i j : Int} {l m : List PV} {ss ts : List (List Nat)}
theorem le_lim {n : Nat} (h : n ≤ 10000) : n ≤ LIM := by rw [LIM_eq]; omega
theorem leLim {n : Nat} (h : n ≤ 10000) : (n ≤ LIM) = True := eq_true (le_lim h)
theorem fitsK {k : Nat} {z : Int} (h1 : -(2 ^ k) < z) (h2 : z < 2 ^ k) : fits k z = true := fits_iff.mpr ⟨h1, h2⟩
theorem v_add_int : pAdd (.int i) (.int j) = some (.int (i + j)) := rfl
theorem v_add_str (h : a.length + b.length ≤ 10000) : pAdd (.str a) (.str b) = some (.str (a ++ b)) := if_pos (le_lim h)
theorem v_add_lst (h : l.length + m.length ≤ 10000) : pAdd (.lst l) (.lst m) = some (.lst (l ++ m)) := if_pos (le_lim h)
theorem v_add_tup (h : l.length + m.length ≤ 10000) : pAdd (.tup l) (.tup m) = some (.tup (l ++ m)) := if_pos (le_lim h)
theorem v_sub_int : pSub (.int i) (.int j) = some (.int (i - j)) := rfl
theorem v_neg : pNeg (.int i) = some (.int (-i)) := rfl
theorem v_mulL (h1 : -1000000000000 ≤ i) (h2 : i ≤ 1000000000000) : pMul (.int i) (.int j) = some (.int (i * j)) := by
  have : small i = true := fitsK (by omega) (by omega)
  show (if small i || small j then some (PV.int (i * j)) else none) = _
  rw [this]; rfl
theorem v_mulR (h1 : -1000000000000 ≤ j) (h2 : j ≤ 1000000000000) : pMul (.int i) (.int j) = some (.int (i * j)) := by
  have : small j = true := fitsK (by omega) (by omega)
  show (if small i || small j then some (PV.int (i * j)) else none) = _
  rw [this, Bool.or_true]; rfl
theorem v_fdiv (h1 : 0 < j) (h2 : j ≤ 1000000000) : pFdiv (.int i) (.int j) = some (.int (i / j)) := if_pos ⟨h1, fitsK (by omega) (by omega)⟩
theorem v_mod (h1 : 0 < j) : pMod (.int i) (.int j) = some (.int (i % j)) := if_pos h1
theorem v_pow (h0 : 0 ≤ j) (h1 : j ≤ 200000) (h2 : -1000000000000 ≤ i) (h3 : i ≤ 1000000000000) : pPow (.int i) (.int j) = some (.int (i ^ j.toNat)) := if_pos ⟨h0, fitsK (by omega) (by omega), fitsK (by omega) (by omega)⟩
/-- so many, one behind another -/
def powL (u : List Nat) (q : Nat) : List Nat := (List.replicate q u).flatten
theorem v_mul_str (h : a.length * j.toNat ≤ 10000) (h1 : -1000000000000 ≤ j) (h2 : j ≤ 1000000000000) : pMul (.str a) (.int j) = some (.str (powL a j.toNat)) := if_pos ⟨le_lim h, fitsK (by omega) (by omega)⟩
theorem v_len_str (h : a.length ≤ 10000) : bLen [.str a] = some (.int (a.length : Nat)) := if_pos (le_lim h)
theorem v_len_lst : bLen [.lst l] = some (.int (l.length : Nat)) := rfl
theorem v_len_tup : bLen [.tup l] = some (.int (l.length : Nat)) := rfl
theorem v_len_scr : bLen [.scr l] = some (.int (l.length : Nat)) := rfl
theorem v_int : bInt [.int i] = some (.int i) := rfl
theorem v_min2 : bMin2 [.int i, .int j] = some (.int (min i j)) := by
  show some (PV.int (if j < i then j else i)) = _
  congr 2; omega
theorem v_max2 : bMax2 [.int i, .int j] = some (.int (max i j)) := by
  show some (PV.int (if j > i then j else i)) = _
  congr 2; omega
theorem v_min2S : bMin2X [.str a, .str b] = some (.str (if b < a then b else a)) := rfl
theorem v_min2I : bMin2X [.int i, .int j] = some (.int (min i j)) := by
  show some (PV.int (if j < i then j else i)) = _
  congr 2; omega
theorem v_tuple : bTuple [.lst l] = some (.tup l) := rfl
theorem v_tuple2 : bTuple [.tup l] = some (.tup l) := rfl
theorem v_tuple_str (h : a.length ≤ 10000) : bTuple [.str a] = some (.tup (a.map fun c => .str [c])) := if_pos (le_lim h)
theorem v_list : bList [.tup l] = some (.lst l) := rfl
theorem v_list2 : bList [.lst l] = some (.lst l) := rfl
theorem v_list_str (h : a.length ≤ 10000) : bList [.str a] = some (.lst (a.map fun c => .str [c])) := if_pos (le_lim h)
theorem v_rev (h : a.length ≤ 10000) : pRev (.str a) = some (.str a.reverse) := if_pos (le_lim h)
theorem v_rev_lst : pRev (.lst l) = some (.lst l.reverse) := rfl
/-! == -/
theorem v_eq_int : pEq2 (.int i) (.int j) = some (decide (i = j)) := by
  have h : pEq2 (.int i) (.int j) = some (i == j) := rfl
  rw [h, Option.some.injEq, Bool.eq_iff_iff]; simp
theorem v_eq_str : pEq2 (.str a) (.str b) = some (decide (a = b)) := by
  have h : pEq2 (.str a) (.str b) = some (a == b) := rfl
  rw [h, Option.some.injEq, Bool.eq_iff_iff]; simp
theorem v_eq_bl {x y : Bool} : pEq2 (.bl x) (.bl y) = some (decide (x = y)) := by cases x <;> cases y <;> rfl
theorem isDs_str (ss : List (List Nat)) : isDs (ss.map .str) = true := by
  induction ss with
  | nil => rfl
  | cons x ss ih => simp only [List.map_cons, isDs, isD, ih, Bool.and_self]
theorem deps_str (ss : List (List Nat)) : deps (ss.map .str) = 0 := by
  induction ss with
  | nil => rfl
  | cons x ss ih => simp only [List.map_cons, deps, dep, ih, Nat.max_self]
theorem eqBs_str (ss ts : List (List Nat)) : eqBs (ss.map .str) (ts.map .str) = decide (ss = ts) := by
  induction ss generalizing ts with
  | nil => cases ts <;> rfl
  | cons x ss ih =>
    cases ts with
    | nil => rfl
    | cons y ts =>
      simp only [List.map_cons, eqBs, eqB, ih ts]
      rw [Bool.eq_iff_iff]
      simp
theorem v_eq_tups : pEq2 (.tup (ss.map .str)) (.tup (ts.map .str)) = some (decide (ss = ts)) := by
  show (if isDs (ss.map PV.str) && isDs (ts.map PV.str) && decide (min (deps (ss.map PV.str) + 1) (deps (ts.map PV.str) + 1) ≤ 64) then some (eqBs (ss.map .str) (ts.map .str)) else none) = _
  rw [isDs_str, isDs_str, deps_str, deps_str, eqBs_str]; rfl
theorem v_eq_lsts : pEq2 (.lst (ss.map .str)) (.lst (ts.map .str)) = some (decide (ss = ts)) := by
  show (if isDs (ss.map PV.str) && isDs (ts.map PV.str) && decide (min (deps (ss.map PV.str) + 1) (deps (ts.map PV.str) + 1) ≤ 64) then some (eqBs (ss.map .str) (ts.map .str)) else none) = _
  rw [isDs_str, isDs_str, deps_str, deps_str, eqBs_str]; rfl
theorem isDs_int (ns : List Int) : isDs (ns.map .int) = true := by
  induction ns with
  | nil => rfl
  | cons x ns ih => simp only [List.map_cons, isDs, isD, ih, Bool.and_self]
theorem deps_int (ns : List Int) : deps (ns.map .int) = 0 := by
  induction ns with
  | nil => rfl
  | cons x ns ih => simp only [List.map_cons, deps, dep, ih, Nat.max_self]
theorem eqBs_int (ss ts : List Int) : eqBs (ss.map .int) (ts.map .int) = decide (ss = ts) := by
  induction ss generalizing ts with
  | nil => cases ts <;> rfl
  | cons x ss ih =>
    cases ts with
    | nil => rfl
    | cons y ts =>
      simp only [List.map_cons, eqBs, eqB, ih ts]
      rw [Bool.eq_iff_iff]
      simp
theorem v_eq_lsti {ns ms : List Int} : pEq2 (.lst (ns.map .int)) (.lst (ms.map .int)) = some (decide (ns = ms)) := by
  show (if isDs (ns.map PV.int) && isDs (ms.map PV.int) && decide (min (deps (ns.map PV.int) + 1) (deps (ms.map PV.int) + 1) ≤ 64) then some (eqBs (ns.map .int) (ms.map .int)) else none) = _
  rw [isDs_int, isDs_int, deps_int, deps_int, eqBs_int]; rfl
theorem v_eq_nil : pEq2 (.lst []) (.lst []) = some true := rfl
theorem v_eq_cn {x : PV} (h : isDs (x :: l) = true) : pEq2 (.lst (x :: l)) (.lst []) = some false := by
  show (if isDs (x :: l) && isDs [] && decide (min (deps (x :: l) + 1) (deps [] + 1) ≤ 64) then some (eqBs (x :: l) []) else none) = _
  have e : decide (min (deps (x :: l) + 1) (deps [] + 1) ≤ 64) = true := decide_eq_true (Nat.le_trans (Nat.min_le_right _ _) (by decide))
  rw [h, e]; rfl
theorem isDs_ints {α : Type} (f : α → Int) (l : List α) : isDs (l.map fun a => .int (f a)) = true := by
  induction l with
  | nil => rfl
  | cons x l ih => simp only [List.map_cons, isDs, isD, ih, Bool.and_self]
theorem filter_head {n k : Nat} {b : Nat → Bool} {r : List Nat} (h : (List.range n).filter b = k :: r) : b k = true ∧ k < n ∧ ∀ j, j < k → b j = false := by
  have hk : k ∈ (List.range n).filter b := by rw [h]; simp
  rw [List.mem_filter, List.mem_range] at hk
  refine ⟨hk.2, hk.1, fun j hj => ?_⟩
  cases c : b j with
  | false => rfl
  | true =>
    have hm : j ∈ (List.range n).filter b := by rw [List.mem_filter, List.mem_range]; exact ⟨by omega, c⟩
    have hp : ((List.range n).filter b).Pairwise (· < ·) := List.Pairwise.filter _ List.pairwise_lt_range
    rw [h] at hm hp
    rcases List.mem_cons.mp hm with e | e
    · omega
    · have := (List.pairwise_cons.mp hp).1 j e
      omega
theorem filter_nil {n : Nat} {b : Nat → Bool} (h : (List.range n).filter b = []) : ∀ j, j < n → b j = false := fun j hj => by
  rw [List.filter_eq_nil_iff] at h
  have := h j (List.mem_range.mpr hj)
  simpa using this
theorem v_ne {x y : PV} : pNe2 x y = (pEq2 x y).map (!·) := rfl
theorem v_map_some {α β : Type} {f : α → β} {x : α} : (some x).map f = some (f x) := rfl
theorem v_lt_int : pLt (.int i) (.int j) = some (decide (i < j)) := rfl
theorem v_lt_str : pLt (.str a) (.str b) = some (decide (a < b)) := rfl
theorem v_gt_int : pGt (.int i) (.int j) = some (decide (j < i)) := rfl
theorem v_gt_str : pGt (.str a) (.str b) = some (decide (b < a)) := rfl
theorem v_not_lt {i j : Int} : (!decide (i < j)) = decide (j ≤ i) := by
  by_cases h : i < j
  · rw [decide_eq_true h, decide_eq_false (by omega)]; rfl
  · rw [decide_eq_false h, decide_eq_true (by omega)]; rfl
theorem v_le_int : pLe (.int i) (.int j) = some (decide (i ≤ j)) := by
  show some (!decide (j < i)) = _
  rw [v_not_lt]
theorem v_ge_int : pGe (.int i) (.int j) = some (decide (j ≤ i)) := by
  show some (!decide (i < j)) = _
  rw [v_not_lt]
theorem v_is_non {x : PV} : pIs x .non = some (isNon x) := rfl
theorem v_is_bl {x : PV} {c : Bool} : pIs x (.bl c) = some (isBl c x) := rfl
theorem v_isN {x y : PV} : pIsN x y = (pIs x y).map (!·) := rfl
/-! places, parts -/
theorem v_sIx {n d : Nat} {z : Int} (h : 0 ≤ z) : sIx n d (some z) = min z.toNat n := by
  have h : ¬ (z < 0) := by omega
  simp [sIx, h]
theorem v_cut_from {α : Type} {l : List α} {z : Int} (h : 0 ≤ z) : cutL l (some z) none = l.drop z.toNat := by
  unfold cutL
  rw [v_sIx h]
  show (l.drop (min z.toNat l.length)).take (l.length - min z.toNat l.length) = _
  rw [List.take_of_length_le (by rw [List.length_drop]; omega)]
  rcases Nat.le_total z.toNat l.length with c | c
  · rw [Nat.min_eq_left c]
  · rw [Nat.min_eq_right c, List.drop_length, List.drop_eq_nil_of_le c]
theorem v_cut_to {α : Type} {l : List α} {z : Int} (h : 0 ≤ z) : cutL l none (some z) = l.take z.toNat := by
  unfold cutL
  rw [v_sIx h]
  show (l.drop 0).take (min z.toNat l.length - 0) = _
  rw [List.drop_zero, Nat.sub_zero]
  rcases Nat.le_total z.toNat l.length with c | c
  · rw [Nat.min_eq_left c]
  · rw [Nat.min_eq_right c, List.take_length, List.take_of_length_le c]
theorem v_cut_ft {α : Type} {l : List α} {y z : Int} (h0 : 0 ≤ y) (h : 0 ≤ z) : cutL l (some y) (some z) = (l.drop y.toNat).take (z.toNat - y.toNat) := by
  unfold cutL
  rw [v_sIx h0, v_sIx h]
  apply List.ext_getElem?
  intro k
  simp only [List.getElem?_take, List.getElem?_drop]
  by_cases c : k < z.toNat - y.toNat
  · by_cases c2 : y.toNat + k < l.length
    · rw [if_pos (by omega), if_pos c, Nat.min_eq_left (by omega)]
    · rw [if_pos c, List.getElem?_eq_none_iff.mpr (show l.length ≤ y.toNat + k by omega)]
      by_cases c3 : k < min z.toNat l.length - min y.toNat l.length
      · omega
      · rw [if_neg c3]
  · rw [if_neg c, if_neg (by omega)]
theorem v_cut_all {α : Type} {l : List α} : cutL l none none = l := by
  unfold cutL sIx
  simp
theorem v_cut_m1 {α : Type} {l : List α} : cutL l none (some (-1)) = l.dropLast := by
  unfold cutL
  show (l.drop 0).take ((-1 + (l.length : Int)).toNat - 0) = _
  rw [List.drop_zero, Nat.sub_zero, List.dropLast_eq_take]
  congr 1; omega
theorem v_pCut_str {x y : Option Int} (h : a.length ≤ 10000) : pCut (.str a) x y = some (.str (cutL a x y)) := if_pos (le_lim h)
theorem v_pCut_lst {x y : Option Int} : pCut (.lst l) x y = some (.lst (cutL l x y)) := rfl
theorem v_pCut_tup {x y : Option Int} : pCut (.tup l) x y = some (.tup (cutL l x y)) := rfl
theorem v_pCut_scr {x y : Option Int} : pCut (.scr l) x y = some (.lst (cutL l x y)) := rfl
theorem v_at {l : List PV} {z : Int} {p : PV} (h0 : 0 ≤ z) (h : l[z.toNat]? = some p) : atL l z = some p := by
  have hl := (List.getElem?_eq_some_iff.mp h).1
  unfold atL ixL
  rw [if_pos h0, if_pos (by omega)]
  exact h
theorem v_ix_lst {z : Int} {p : PV} (h0 : 0 ≤ z) (h : l[z.toNat]? = some p) : pIx (.lst l) (.int z) = some p := v_at h0 h
theorem v_ix_tup {z : Int} {p : PV} (h0 : 0 ≤ z) (h : l[z.toNat]? = some p) : pIx (.tup l) (.int z) = some p := v_at h0 h
theorem v_ix_scr {z : Int} {p : PV} (h0 : 0 ≤ z) (h : l[z.toNat]? = some p) : pIx (.scr l) (.int z) = some p := v_at h0 h
theorem v_ixL0 {x : PV} : pIx (.lst (x :: l)) (.int 0) = some x := v_ix_lst (by decide) rfl
theorem v_ixT0 {x : PV} : pIx (.tup (x :: l)) (.int 0) = some x := v_ix_tup (by decide) rfl
theorem v_ixL1 {x y : PV} : pIx (.lst (x :: y :: l)) (.int 1) = some y := v_ix_lst (by decide) rfl
theorem v_ixT1 {x y : PV} : pIx (.tup (x :: y :: l)) (.int 1) = some y := v_ix_tup (by decide) rfl
theorem v_ixL2 {x y z : PV} : pIx (.lst (x :: y :: z :: l)) (.int 2) = some z := v_ix_lst (by decide) rfl
theorem v_ixT2 {x y z : PV} : pIx (.tup (x :: y :: z :: l)) (.int 2) = some z := v_ix_tup (by decide) rfl
theorem v_ix_str {z : Int} {c : Nat} (hl : a.length ≤ 10000) (h0 : 0 ≤ z) (h : a[z.toNat]? = some c) : pIx (.str a) (.int z) = some (.str [c]) := by
  have hz := (List.getElem?_eq_some_iff.mp h).1
  show (if a.length ≤ LIM then (atL a z).map (fun c => PV.str [c]) else none) = _
  rw [if_pos (le_lim hl)]
  have : atL a z = some c := by
    unfold atL ixL
    rw [if_pos h0, if_pos (by omega)]
    exact h
  rw [this]; rfl
/-! in -/
theorem v_in_sign {c : Nat} : pIn (.str [c]) (.str b) = some (decide (c ∈ b)) := by
  show some (b.contains c) = _
  rw [List.contains_eq_mem]
theorem any_str {x : List Nat} (ss : List (List Nat)) : (ss.map PV.str).any (fun y => eqB y (.str x)) = decide (x ∈ ss) := by
  induction ss with
  | nil => rfl
  | cons y ss ih =>
    rw [List.map_cons, List.any_cons, ih]
    show ((y == x) || decide (x ∈ ss)) = decide (x ∈ y :: ss)
    by_cases h : y = x
    · simp [h]
    · have h' : ¬ x = y := fun q => h q.symm
      simp [h, h']
theorem v_in_tup {x : List Nat} : pIn (.str x) (.tup (ss.map .str)) = some (decide (x ∈ ss)) := by
  show (if isD (.str x) && isDs (ss.map .str) && decide (min (deps (ss.map .str)) (dep (.str x)) ≤ 64) then some ((ss.map PV.str).any fun y => eqB y (.str x)) else none) = _
  rw [isDs_str, deps_str, any_str]; rfl
theorem v_in_lst {x : List Nat} : pIn (.str x) (.lst (ss.map .str)) = some (decide (x ∈ ss)) := by
  show (if isD (.str x) && isDs (ss.map .str) && decide (min (deps (ss.map .str)) (dep (.str x)) ≤ 64) then some ((ss.map PV.str).any fun y => eqB y (.str x)) else none) = _
  rw [isDs_str, deps_str, any_str]; rfl
theorem v_nin {x y : PV} : pNin x y = (pIn x y).map (!·) := rfl
/-! walks -/
theorem v_el_lst : elems (.lst l) = some l := rfl
theorem v_el_tup : elems (.tup l) = some l := rfl
theorem v_el_str : elems (.str a) = some (a.map fun c => .str [c]) := rfl
theorem v_rng {n : Nat} : rng 0 n = (List.range n).map fun k => PV.int (k : Nat) := by
  unfold rng
  apply List.map_congr_left
  intro k _
  rw [Int.zero_add]
theorem v_rng1 (h1 : j ≤ 1000000000) (h0 : -1000000000 ≤ j) : rng1 [.int j] = some ((List.range j.toNat).map fun k => .int (k : Nat)) := by
  show (if smallI j = true then some (rng 0 j.toNat) else none) = _
  have e1 : smallI j = true := fitsK (by omega) (by omega)
  rw [if_pos e1, v_rng]
theorem v_rng2 (h0 : -1000000000 ≤ i) (h1 : i ≤ 1000000000) (h2 : -1000000000 ≤ j) (h3 : j ≤ 1000000000) : rng2 [.int i, .int j] = some ((List.range (j - i).toNat).map fun k => .int (i + (k : Nat))) := by
  show (if (smallI i && smallI j) = true then some (rng i (j - i).toNat) else none) = _
  have e1 : smallI i = true := fitsK (by omega) (by omega)
  have e2 : smallI j = true := fitsK (by omega) (by omega)
  rw [e1, e2]; rfl
theorem allBl_mp {α : Type} (g : α → Bool) : ∀ l : List α, allBl (l.map fun c => .bl (g c)) = some (l.map g)
  | [] => rfl
  | c :: l => by simp [allBl, allBl_mp g l]
theorem enumL_map {α : Type} {inj : α → PV} : ∀ (l : List α) (j : Nat), enumL (j : Nat) (l.map inj) = (l.zipIdx j).map fun p => .tup [.int (p.2 : Nat), inj p.1]
  | [], _ => rfl
  | x :: l, j => by
    have ih := enumL_map (inj := inj) l (j + 1)
    have e : ((j : Nat) : Int) + 1 = ((j + 1 : Nat) : Int) := by omega
    simp only [List.map_cons, enumL, List.zipIdx_cons, e, ih]
theorem v_enum {α : Type} {inj : α → PV} {l : List α} : (elemsS (.lst (l.map inj))).map (enumL 0) = some ((l.zipIdx 0).map fun p => .tup [.int (p.2 : Nat), inj p.1]) := by
  show some (enumL ((0 : Nat) : Int) (l.map inj)) = _
  rw [enumL_map]
theorem v_all {α : Type} {g : α → Bool} {l : List α} : bAll [.lst (l.map fun c => .bl (g c))] = some (.bl (l.all g)) := by
  show (allBl (l.map fun c => .bl (g c))).map (fun bs => PV.bl (bs.all id)) = _
  rw [allBl_mp]
  simp [List.all_map, Function.comp_def]
theorem v_any {α : Type} {g : α → Bool} {l : List α} : bAny [.lst (l.map fun c => .bl (g c))] = some (.bl (l.any g)) := by
  show (allBl (l.map fun c => .bl (g c))).map (fun bs => PV.bl (bs.any id)) = _
  rw [allBl_mp]
  simp [List.any_map, Function.comp_def]
theorem v_isi {x : PV} {t c : String} (h : tyOf x = some t) (hc : kinds.contains c = true := by rfl) : bIsi [x, .ty c] = some (.bl (isSub t c)) := by
  show (tyOf x).bind (fun t => if kinds.contains c then some (PV.bl (isSub t c)) else none) = _
  rw [h]; simp only [Option.bind_some, hc, if_true]
theorem v_isi_str (c : String) (hc : kinds.contains c = true := by rfl) : bIsi [.str a, .ty c] = some (.bl (isSub "str" c)) := v_isi rfl hc
theorem sortable_str (h : ss.length ≤ 10000) : sortable (ss.map .str) = true := by
  unfold sortable
  have e1 : ((ss.map PV.str).all fun x => (ss.map PV.str).all fun y => alikeB x y) = true := by
    simp [List.all_map, Function.comp_def, alikeB]
  have e2 : ((ss.map PV.str).all fun x => !isNon x && !isTup x) = true := by
    simp [List.all_map, Function.comp_def, isNon, isTup]
  rw [isDs_str, e1, e2, deps_str, List.length_map]
  simp [le_lim h]
theorem v_sorted (h : ss.length ≤ 10000) : bSorted [.lst (ss.map .str)] = some (.lst ((ss.mergeSort leL).map .str)) := by
  show (if sortable (ss.map .str) then some (PV.lst (sortV (ss.map .str))) else none) = _
  rw [sortable_str h, sortV_strs]
  rfl
theorem v_sortS (h : a.length < 64) : bSortS [.str a] = some (.lst (((a.map fun c => [c]).mergeSort leL).map .str)) := if_pos h
theorem v_sortSl {l : List PV} : bSortS [.lst l] = bSorted [.lst l] := rfl
theorem v_idxS {c : Nat} (h : c ∈ a) : mIndexS (.str a) [.str [c]] = some (.int (a.idxOf c : Nat)) := if_pos h
theorem isAt_strs (ss : List (List Nat)) : (ss.map PV.str).all isAt = true := by simp [List.all_map, Function.comp_def, isAt]
theorem v_idxL {x : List Nat} (h : x ∈ ss) : mIndexL (.lst (ss.map .str)) [.str x] = some (.int (ss.idxOf x : Nat)) := by
  show (if (isAt (.str x) && (ss.map PV.str).all isAt) = true then ((ss.map PV.str).findIdx? (fun y => aeq y (.str x))).map (fun i => PV.int (i : Nat)) else none) = _
  rw [isAt_strs]
  show ((ss.map PV.str).findIdx? (fun y => aeq y (.str x))).map (fun i => PV.int (i : Nat)) = _
  rw [List.findIdx?_map]
  have e : ((fun y => aeq y (.str x)) ∘ PV.str) = fun y => y == x := by funext y; rfl
  rw [e, List.findIdx?_eq_some_of_exists ⟨x, h, by simp⟩]
  rfl
/-- the least of some words -/
def minL (x : List Nat) (ss : List (List Nat)) : List Nat := ss.foldl (fun a y => if y < a then y else a) x
def maxL (x : List Nat) (ss : List (List Nat)) : List Nat := ss.foldl (fun a y => if a < y then y else a) x
theorem minV_str (x : List Nat) (ss : List (List Nat)) : minV (.str x) (ss.map .str) = .str (minL x ss) := by
  unfold minV minL
  induction ss generalizing x with
  | nil => rfl
  | cons y ss ih =>
    simp only [List.map_cons, List.foldl_cons, ltB, decide_eq_true_eq]
    by_cases c : y < x
    · rw [if_pos c, if_pos c]; exact ih y
    · rw [if_neg c, if_neg c]; exact ih x
theorem maxV_str (x : List Nat) (ss : List (List Nat)) : maxV (.str x) (ss.map .str) = .str (maxL x ss) := by
  unfold maxV maxL
  induction ss generalizing x with
  | nil => rfl
  | cons y ss ih =>
    simp only [List.map_cons, List.foldl_cons, ltB, decide_eq_true_eq]
    by_cases c : x < y
    · rw [if_pos c, if_pos c]; exact ih y
    · rw [if_neg c, if_neg c]; exact ih x
theorem comparable_str (ss : List (List Nat)) : comparable (ss.map .str) = true := by
  unfold comparable
  have e1 : ((ss.map PV.str).all fun x => (ss.map PV.str).all fun y => alikeB x y) = true := by
    simp [List.all_map, Function.comp_def, alikeB]
  have e2 : ((ss.map PV.str).all fun x => !isNon x) = true := by
    simp [List.all_map, Function.comp_def, isNon]
  rw [isDs_str, e1, e2, deps_str]; rfl
theorem v_min {x : List Nat} : bMinL [.lst ((x :: ss).map .str)] = some (.str (minL x ss)) := by
  show (if comparable ((x :: ss).map .str) = true then some (minV (.str x) (ss.map .str)) else none) = _
  rw [if_pos (comparable_str _), minV_str]
theorem v_max {x : List Nat} : bMaxL [.lst ((x :: ss).map .str)] = some (.str (maxL x ss)) := by
  show (if comparable ((x :: ss).map .str) = true then some (maxV (.str x) (ss.map .str)) else none) = _
  rw [if_pos (comparable_str _), maxV_str]
end
section
/-! ### evaluation without functions in sight: what comes next has a name -/
variable {e : Env} {s : MS} {f h k : EX} {fs hs : List EX} {c d : ET} {x y z : PV} {xs ys : List PV} {b : Bool} {u v : SX} {op : PV → PV → Option PV} {m m' : PV → PV → Option Bool}
def kBinA (op : PV → PV → Option PV) (h : EX) (e : Env) (x : PV) (s : MS) : Res PV := (h e s).bind fun y s => ofO (op (deref s x) (deref s y)) s
def kBinB (op : PV → PV → Option PV) (x y : PV) (s : MS) : Res PV := ofO (op (deref s x) (deref s y)) s
theorem zp_bin : eBin op f h e s = (f e s).bind (kBinA op h e) := rfl
theorem zp_binA : kBinA op h e x s = (h e s).bind (kBinB op x) := rfl
theorem zp_binB : kBinB op x y s = ofO (op (deref s x) (deref s y)) s := rfl
def kCmA (m : PV → PV → Option Bool) (h : EX) (e : Env) (x : PV) (s : MS) : Res PV := (h e s).bind fun y s => ofO ((m (deref s x) (deref s y)).map .bl) s
def kCmB (m : PV → PV → Option Bool) (x y : PV) (s : MS) : Res PV := ofO ((m (deref s x) (deref s y)).map .bl) s
theorem zp_cm : eCm m f h e s = (f e s).bind (kCmA m h e) := rfl
theorem zp_cmA : kCmA m h e x s = (h e s).bind (kCmB m x) := rfl
theorem zp_cmB : kCmB m x y s = ofO ((m (deref s x) (deref s y)).map .bl) s := rfl
def kTcA (m : PV → PV → Option Bool) (h : EX) (e : Env) (x : PV) (s : MS) : Res Bool := (h e s).bind fun y s => ofO (m (deref s x) (deref s y)) s
def kTcB (m : PV → PV → Option Bool) (x y : PV) (s : MS) : Res Bool := ofO (m (deref s x) (deref s y)) s
theorem zp_tcm : tCm m f h e s = (f e s).bind (kTcA m h e) := rfl
theorem zp_tcmA : kTcA m h e x s = (h e s).bind (kTcB m x) := rfl
theorem zp_tcmB : kTcB m x y s = ofO (m (deref s x) (deref s y)) s := rfl
def kUn (m : PV → Option PV) (x : PV) (s : MS) : Res PV := ofO (m (deref s x)) s
theorem zp_un {m : PV → Option PV} : eUn m f e s = (f e s).bind (kUn m) := rfl
theorem zp_unA {m : PV → Option PV} : kUn m x s = ofO (m (deref s x)) s := rfl
def kTru (x : PV) (s : MS) : Res Bool := ofO (truth (deref s x)) s
theorem zp_tru : tTru f e s = (f e s).bind kTru := rfl
theorem zp_truA : kTru x s = ofO (truth (deref s x)) s := rfl
def kAnd (d : ET) (e : Env) (b : Bool) (s : MS) : Res Bool := if b = true then d e s else .ok false s
def kOr (d : ET) (e : Env) (b : Bool) (s : MS) : Res Bool := if b = true then .ok true s else d e s
def kNt (b : Bool) (s : MS) : Res Bool := .ok (!b) s
theorem zp_and2 : tAnd2 c d e s = (c e s).bind (kAnd d e) := rfl
theorem zp_andA : kAnd d e b s = if b = true then d e s else .ok false s := rfl
theorem zp_or2 : tOr2 c d e s = (c e s).bind (kOr d e) := rfl
theorem zp_orA : kOr d e b s = if b = true then .ok true s else d e s := rfl
theorem zp_nt : tNt c e s = (c e s).bind kNt := rfl
theorem zp_ntA : kNt b s = .ok (!b) s := rfl
def kEandA (h : EX) (e : Env) (x : PV) (s : MS) : Res PV := (ofO (truth (deref s x)) s).bind fun b s => if b = true then h e s else .ok x s
def kEandB (h : EX) (e : Env) (x : PV) (b : Bool) (s : MS) : Res PV := if b = true then h e s else .ok x s
theorem zp_eand : eAnd2 f h e s = (f e s).bind (kEandA h e) := rfl
theorem zp_eandA : kEandA h e x s = (ofO (truth (deref s x)) s).bind (kEandB h e x) := rfl
theorem zp_eandB : kEandB h e x b s = if b = true then h e s else .ok x s := rfl
def kEorA (h : EX) (e : Env) (x : PV) (s : MS) : Res PV := (ofO (truth (deref s x)) s).bind fun b s => if b = true then .ok x s else h e s
def kEorB (h : EX) (e : Env) (x : PV) (b : Bool) (s : MS) : Res PV := if b = true then .ok x s else h e s
theorem zp_eor : eOr2 f h e s = (f e s).bind (kEorA h e) := rfl
theorem zp_eorA : kEorA h e x s = (ofO (truth (deref s x)) s).bind (kEorB h e x) := rfl
theorem zp_eorB : kEorB h e x b s = if b = true then .ok x s else h e s := rfl
def kEntA (x : PV) (s : MS) : Res PV := (ofO (truth (deref s x)) s).bind fun b s => .ok (.bl (!b)) s
def kEntB (b : Bool) (s : MS) : Res PV := .ok (.bl (!b)) s
theorem zp_ent : eNt f e s = (f e s).bind kEntA := rfl
theorem zp_entA : kEntA x s = (ofO (truth (deref s x)) s).bind kEntB := rfl
theorem zp_entB : kEntB b s = .ok (.bl (!b)) s := rfl
def kEif (f h : EX) (e : Env) (b : Bool) (s : MS) : Res PV := if b = true then f e s else h e s
theorem zp_if : eIf c f h e s = (c e s).bind (kEif f h e) := rfl
theorem zp_ifA : kEif f h e b s = if b = true then f e s else h e s := rfl
def kConsA (fs : List EX) (e : Env) (x : PV) (s : MS) : Res (List PV) := (eList fs e s).bind fun xs s => .ok (x :: xs) s
def kConsB (x : PV) (xs : List PV) (s : MS) : Res (List PV) := .ok (x :: xs) s
theorem zp_cons : eList (f :: fs) e s = (f e s).bind (kConsA fs e) := rfl
theorem zp_consA : kConsA fs e x s = (eList fs e s).bind (kConsB x) := rfl
theorem zp_consB : kConsB x xs s = .ok (x :: xs) s := rfl
def kTup (xs : List PV) (s : MS) : Res PV := if xs.length ≤ LIM then .ok (.tup xs) s else .stuck
def kLst (xs : List PV) (s : MS) : Res PV := if xs.length ≤ LIM then .ok (.lst xs) s else .stuck
def kLstM (xs : List PV) (s : MS) : Res PV := if xs.length ≤ LIM then .ok (.obj s.n) (s.new (.lst xs)) else .stuck
theorem zp_tup : eTup fs e s = (eList fs e s).bind kTup := rfl
theorem zp_tupA (h : xs.length ≤ 10000) : kTup xs s = .ok (.tup xs) s := if_pos (le_lim h)
theorem zp_lst : eLst fs e s = (eList fs e s).bind kLst := rfl
theorem zp_lstA (h : xs.length ≤ 10000) : kLst xs s = .ok (.lst xs) s := if_pos (le_lim h)
theorem zp_lstM : eLstM fs e s = (eList fs e s).bind kLstM := rfl
theorem zp_lstMA (h : xs.length ≤ 10000) : kLstM xs s = .ok (.obj s.n) (s.new (.lst xs)) := if_pos (le_lim h)
theorem zp_call {F : FN} : eCall F fs e s = (eList fs e s).bind F := rfl
def kB (m : List PV → Option PV) (xs : List PV) (s : MS) : Res PV := ofO (m (xs.map (deref s))) s
theorem zp_b {m : List PV → Option PV} : eB m fs e s = (eList fs e s).bind (kB m) := rfl
theorem zp_bA {m : List PV → Option PV} : kB m xs s = ofO (m (xs.map (deref s))) s := rfl
def kMtA (T : String) (m : PV → List PV → Option PV) (fs : List EX) (e : Env) (o : PV) (s : MS) : Res PV := if recv T (deref s o) = true then (eList fs e s).bind fun xs s => ofO (m (deref s o) (xs.map (deref s))) s else .stuck
def kMtB (m : PV → List PV → Option PV) (o : PV) (xs : List PV) (s : MS) : Res PV := ofO (m (deref s o) (xs.map (deref s))) s
theorem zp_mt {T : String} {m : PV → List PV → Option PV} : eMt T m f fs e s = (f e s).bind (kMtA T m fs e) := rfl
theorem mtA_of {T : String} {m : PV → List PV → Option PV} (h : recv T (deref s x) = true) : kMtA T m fs e x s = (eList fs e s).bind (kMtB m x) := if_pos h
theorem zp_mtS {m : PV → List PV → Option PV} {l : List Nat} : kMtA "str" m fs e (.str l) s = (eList fs e s).bind (kMtB m (.str l)) := mtA_of (by simp [recv, isStr])
theorem zp_mtL {m : PV → List PV → Option PV} {l : List PV} : kMtA "list" m fs e (.lst l) s = (eList fs e s).bind (kMtB m (.lst l)) := mtA_of (by simp [recv, isLst])
theorem zp_mtB {m : PV → List PV → Option PV} : kMtB m x xs s = ofO (m (deref s x) (xs.map (deref s))) s := rfl
def kCutA (l w : EO) (e : Env) (x : PV) (s : MS) : Res PV := (l e s).bind fun l s => (w e s).bind fun w s => ofO (pCut (deref s x) l w) s
def kCutB (w : EO) (e : Env) (x : PV) (l : Option Int) (s : MS) : Res PV := (w e s).bind fun w s => ofO (pCut (deref s x) l w) s
def kCutC (x : PV) (l w : Option Int) (s : MS) : Res PV := ofO (pCut (deref s x) l w) s
theorem zp_cut {l w : EO} : eCut f l w e s = (f e s).bind (kCutA l w e) := rfl
theorem zp_cutA {l w : EO} : kCutA l w e x s = (l e s).bind (kCutB w e x) := rfl
theorem zp_cutB {l : Option Int} {w : EO} : kCutB w e x l s = (w e s).bind (kCutC x l) := rfl
theorem zp_cutC {l w : Option Int} : kCutC x l w s = ofO (pCut (deref s x) l w) s := rfl
def kOsome (x : PV) (s : MS) : Res (Option Int) := ofO (oInt x) s
theorem zp_osome : oSome f e s = (f e s).bind kOsome := rfl
theorem zp_osomeA {i : Int} : kOsome (.int i) s = .ok (some i) s := rfl
def kChA (m m' : PV → PV → Option Bool) (h k : EX) (e : Env) (x : PV) (s : MS) : Res PV := (h e s).bind fun y s => (ofO (m (deref s x) (deref s y)) s).bind fun b s => if b = true then (k e s).bind fun z s => (ofO (m' (deref s y) (deref s z)) s).bind fun b s => .ok (.bl b) s else .ok (.bl false) s
def kChB (m m' : PV → PV → Option Bool) (k : EX) (e : Env) (x y : PV) (s : MS) : Res PV := (ofO (m (deref s x) (deref s y)) s).bind fun b s => if b = true then (k e s).bind fun z s => (ofO (m' (deref s y) (deref s z)) s).bind fun b s => .ok (.bl b) s else .ok (.bl false) s
def kChC (m' : PV → PV → Option Bool) (k : EX) (e : Env) (y : PV) (b : Bool) (s : MS) : Res PV := if b = true then (k e s).bind fun z s => (ofO (m' (deref s y) (deref s z)) s).bind fun b s => .ok (.bl b) s else .ok (.bl false) s
def kChD (m' : PV → PV → Option Bool) (y z : PV) (s : MS) : Res PV := (ofO (m' (deref s y) (deref s z)) s).bind fun b s => .ok (.bl b) s
def kBl (b : Bool) (s : MS) : Res PV := .ok (.bl b) s
theorem zp_chain : eChain m m' f h k e s = (f e s).bind (kChA m m' h k e) := rfl
theorem zp_chA : kChA m m' h k e x s = (h e s).bind (kChB m m' k e x) := rfl
theorem zp_chB : kChB m m' k e x y s = (ofO (m (deref s x) (deref s y)) s).bind (kChC m' k e y) := rfl
theorem zp_chC : kChC m' k e y b s = if b = true then (k e s).bind (kChD m' y) else .ok (.bl false) s := rfl
theorem zp_chD : kChD m' y z s = (ofO (m' (deref s y) (deref s z)) s).bind kBl := rfl
theorem zp_bl : kBl b s = .ok (.bl b) s := rfl
def kTchA (m m' : PV → PV → Option Bool) (h k : EX) (e : Env) (x : PV) (s : MS) : Res Bool := (h e s).bind fun y s => (ofO (m (deref s x) (deref s y)) s).bind fun b s => if b = true then (k e s).bind fun z s => ofO (m' (deref s y) (deref s z)) s else .ok false s
def kTchB (m m' : PV → PV → Option Bool) (k : EX) (e : Env) (x y : PV) (s : MS) : Res Bool := (ofO (m (deref s x) (deref s y)) s).bind fun b s => if b = true then (k e s).bind fun z s => ofO (m' (deref s y) (deref s z)) s else .ok false s
def kTchC (m' : PV → PV → Option Bool) (k : EX) (e : Env) (y : PV) (b : Bool) (s : MS) : Res Bool := if b = true then (k e s).bind fun z s => ofO (m' (deref s y) (deref s z)) s else .ok false s
theorem zp_tchain : tChain' m m' f h k e s = (f e s).bind (kTchA m m' h k e) := rfl
theorem zp_tchA : kTchA m m' h k e x s = (h e s).bind (kTchB m m' k e x) := rfl
theorem zp_tchB : kTchB m m' k e x y s = (ofO (m (deref s x) (deref s y)) s).bind (kTchC m' k e y) := rfl
theorem zp_tchC : kTchC m' k e y b s = if b = true then (k e s).bind (kTcB m' y) else .ok false s := rfl
def kKwA (F : FN) (order : List Nat) (hs : List EX) (e : Env) (xs : List PV) (s : MS) : Res PV := (eList hs e s).bind fun ys s => F (order.map fun j => (xs ++ ys).getD j .non) s
def kKwB (F : FN) (order : List Nat) (xs ys : List PV) (s : MS) : Res PV := F (order.map fun j => (xs ++ ys).getD j .non) s
theorem zp_callKw {F : FN} {order : List Nat} : eCallKw F order fs hs e s = (eList fs e s).bind (kKwA F order hs e) := rfl
theorem zp_kwA {F : FN} {order : List Nat} : kKwA F order hs e xs s = (eList hs e s).bind (kKwB F order xs) := rfl
theorem zp_kwB {F : FN} {order : List Nat} : kKwB F order xs ys s = F (order.map fun j => (xs ++ ys).getD j .non) s := rfl
def kCompA (vs : List Nat) (as : AS) (tt : ET) (f : EX) (e : Env) (xs : List PV) (s : MS) : Res PV := if xs.length ≤ LIM then (compM as tt f (wipeE e vs) xs s).calm.bind fun ys s => .ok (.lst ys) s else .stuck
def kLstV (xs : List PV) (s : MS) : Res PV := .ok (.lst xs) s
theorem zp_comp {vs : List Nat} {fi : Env → MS → Res (List PV)} {as : AS} {tt : ET} : eComp vs fi as tt f e s = (fi e s).bind (kCompA vs as tt f e) := rfl
theorem zp_compA {vs : List Nat} {as : AS} {tt : ET} (h : xs.length ≤ 10000) : kCompA vs as tt f e xs s = (compM as tt f (wipeE e vs) xs s).calm.bind kLstV := if_pos (le_lim h)
theorem zp_lstV : kLstV xs s = .ok (.lst xs) s := rfl
def kComp2A (vs vs1 : List Nat) (as : AS) (tt : ET) (fi1 : Env → MS → Res (List PV)) (as1 : AS) (tt1 : ET) (f : EX) (e : Env) (xs : List PV) (s : MS) : Res PV := (compM2 as tt fi1 as1 tt1 f vs1 (wipeE e vs) xs s).calm.bind fun ys s => if ys.length ≤ LIM then .ok (.lst ys) s else .stuck
theorem zp_comp2 {vs vs1 : List Nat} {fi fi1 : Env → MS → Res (List PV)} {as as1 : AS} {tt tt1 : ET} : eComp2 vs vs1 fi as tt fi1 as1 tt1 f e s = (fi e s).bind (kComp2A vs vs1 as tt fi1 as1 tt1 f e) := rfl
theorem zp_comp2A {vs vs1 : List Nat} {fi1 : Env → MS → Res (List PV)} {as as1 : AS} {tt tt1 : ET} : kComp2A vs vs1 as tt fi1 as1 tt1 f e xs s = (compM2 as tt fi1 as1 tt1 f vs1 (wipeE e vs) xs s).calm.bind kLst := rfl
def kCA (as : AS) (t : ET) (f : EX) (e : Env) (xs : List PV) (e' : Env) (b : Bool) (s : MS) : Res (List PV) := if b = true then (f e' s).bind fun y s => (compM as t f e xs s).bind fun ys s => .ok (y :: ys) s else compM as t f e xs s
def kCB (as : AS) (t : ET) (f : EX) (e : Env) (xs : List PV) (y : PV) (s : MS) : Res (List PV) := (compM as t f e xs s).bind fun ys s => .ok (y :: ys) s
theorem ap_cm_nil {as : AS} {t : ET} : compM as t f e [] s = .ok [] s := rfl
theorem ap_cm_cons {i : Nat} {t : ET} : compM (aName i) t f e (x :: xs) s = (t (e.set i (some x)) s).bind (kCA (aName i) t f e xs (e.set i (some x))) := rfl
theorem zp_ca {as : AS} {t : ET} {e' : Env} : kCA as t f e xs e' b s = if b = true then (f e' s).bind (kCB as t f e xs) else compM as t f e xs s := rfl
theorem zp_cb {as : AS} {t : ET} : kCB as t f e xs y s = (compM as t f e xs s).bind (kConsB y) := rfl
def kSeq (x : PV) (s : MS) : Res (List PV) := ofO (elems x) s
theorem zp_seq : iSeq f e s = (f e s).bind kSeq := rfl
theorem zp_seqA : kSeq x s = ofO (elems x) s := rfl
def kRng (m : List PV → Option (List PV)) (xs : List PV) (s : MS) : Res (List PV) := ofO (m xs) s
theorem zp_rng {m : List PV → Option (List PV)} : iRng m fs e s = (eList fs e s).bind (kRng m) := rfl
theorem zp_rngA {m : List PV → Option (List PV)} : kRng m xs s = ofO (m xs) s := rfl
def kEn (x : PV) (s : MS) : Res (List PV) := ofO ((elemsS x).map (enumL 0)) s
theorem zp_en : iEn f e s = (f e s).bind kEn := rfl
theorem zp_enA : kEn x s = ofO ((elemsS x).map (enumL 0)) s := rfl
def kRet (x : PV) (s : MS) : SRes := .rt x s
theorem zp_sret : sRet f e s = (f e s).sbind e kRet := rfl
theorem zp_sretA : kRet x s = .rt x s := rfl
def kDo (e : Env) (x : PV) (s : MS) : SRes := .nx e s
theorem zp_sdo : sDo f e s = (f e s).sbind e (kDo e) := rfl
theorem zp_sdoA : kDo e x s = .nx e s := rfl
def kSif (u v : SX) (e : Env) (b : Bool) (s : MS) : SRes := if b = true then u e s else v e s
theorem zp_sif : sIf c u v e s = (c e s).sbind e (kSif u v e) := rfl
theorem zp_sifA : kSif u v e b s = if b = true then u e s else v e s := rfl
def kSset (as : AS) (e : Env) (x : PV) (s : MS) : SRes := match as x e s with
  | some (e, s) => .nx e s
  | none => .stuck
theorem zp_sset {as : AS} : sSet f as e s = (f e s).sbind e (kSset as e) := rfl
theorem zp_ssetN {i : Nat} : kSset (aName i) e x s = .nx (e.set i (some x)) s := rfl
def optN : Option (Env × MS) → SRes
  | some (e, s) => .nx e s
  | none => .stuck
theorem optN_some {p : Env × MS} : optN (some p) = .nx p.1 p.2 := rfl
theorem zp_ssetT {as : List AS} : kSset (aTup as) e (.tup xs) s = optN (aAll as xs e s) := rfl
def kSfor (as : AS) (u : SX) (e : Env) (xs : List PV) (s : MS) : SRes := Mr.forM as u xs e s
theorem zp_sfor {fi : Env → MS → Res (List PV)} {as : AS} : sFor fi as u e s = (fi e s).sbind e (kSfor as u e) := rfl
theorem zp_sforA {as : AS} : kSfor as u e xs s = Mr.forM as u xs e s := rfl
def kRaise (n : String) (e : Env) (x : PV) (s : MS) : SRes := .ex n x e s
theorem zp_sraise {n : String} : sRaise n f e s = (f e s).sbind e (kRaise n e) := rfl
theorem zp_sraiseA {n : String} : kRaise n e x s = .ex n x e s := rfl
def optE (s : MS) : Option Env → SRes
  | some e => .nx e s
  | none => .stuck
theorem optE_some : optE s (some e) = .nx e s := rfl
def kPar (is : List Nat) (e : Env) (xs : List PV) (s : MS) : SRes := optE s (setAll is xs e)
theorem zp_par {is : List Nat} : sPar is fs e s = (eList fs e s).sbind e (kPar is e) := by
  unfold sPar kPar optE; cases eList fs e s <;> rfl
theorem zp_parA {is : List Nat} : kPar is e xs s = optE s (setAll is xs e) := rfl
theorem zp_setAll0 : setAll [] [] e = some e := rfl
theorem zp_setAllS {i : Nat} {is : List Nat} : setAll (i :: is) (x :: xs) e = setAll is xs (e.set i (some x)) := rfl
end
section
variable {e : Env} {s : MS} {f h k : EX}
theorem ap_tchain {m m' : PV → PV → Option Bool} : tChain' m m' f h k e s = (f e s).bind fun x s => (h e s).bind fun y s => (ofO (m (deref s x) (deref s y)) s).bind fun b s =>
  if b = true then (k e s).bind fun z s => ofO (m' (deref s y) (deref s z)) s else .ok false s := rfl
theorem ap_callKw {F : FN} {order : List Nat} {fs hs : List EX} : eCallKw F order fs hs e s = (eList fs e s).bind fun xs s => (eList hs e s).bind fun ys s => F (order.map fun j => (xs ++ ys).getD j .non) s := rfl
theorem st_set0 {α : Type} {x y : α} {l : List α} : (x :: l).set 0 y = y :: l := rfl
theorem st_setS {α : Type} {x y : α} {l : List α} {n : Nat} : (x :: l).set (n + 1) y = x :: l.set n y := rfl
theorem if_ft {α : Sort _} {a b : α} : (if false = true then a else b) = b := rfl
theorem if_tt {α : Sort _} {a b : α} : (if true = true then a else b) = a := rfl
def nones : Nat → List (Option PV)
  | 0 => []
  | n + 1 => none :: nones n
theorem nones_0 : nones 0 = [] := rfl
theorem nones_s {n : Nat} : nones (n + 1) = none :: nones n := rfl
theorem nones_eq : ∀ n : Nat, List.replicate n (none : Option PV) = nones n
  | 0 => rfl
  | n + 1 => by rw [List.replicate_succ, nones_eq n]; rfl
theorem startE_eq {n : Nat} {args : List PV} : startE n args = args.map some ++ nones (n - args.length) := by unfold startE; rw [nones_eq]
/-! loops over what is written -/
def loopK (r : SRes) (k : SX) : SRes := match r with
  | .nx e s => k e s
  | .ct e s => k e s
  | .bk e s => .nx e s
  | r => r
theorem loop_nx {k : SX} : loopK (.nx e s) k = k e s := rfl
theorem loop_bk {k : SX} : loopK (.bk e s) k = .nx e s := rfl
theorem loop_rt {k : SX} {v : PV} : loopK (.rt v s) k = .rt v s := rfl
theorem loop_ex {k : SX} {c : String} {p : PV} : loopK (.ex c p e s) k = .ex c p e s := rfl
theorem ap_for_nil {as : AS} {body : SX} : Mr.forM as body [] e s = .nx e s := rfl
theorem ap_for_cons {as : AS} {body : SX} {x : PV} {xs : List PV} : Mr.forM as body (x :: xs) e s = loopK (forStep as body x e s) (Mr.forM as body xs) := by
  simp only [Mr.forM, forStep, loopK]
  cases as x e s with
  | none => rfl
  | some es => obtain ⟨e', s'⟩ := es; cases body e' s' <;> rfl
theorem sw_loop {r : SRes} {k : SX} {P : SP} (h : SW r ⟨fun e s => SW (k e s) P, P.R, P.N, P.X⟩) : SW (loopK r k) P := by
  cases r with
  | ct e s => exact h.elim
  | _ => exact h
def optB (body : SX) : Option (Env × MS) → SRes
  | some p => body p.1 p.2
  | none => .stuck
theorem optB_some {body : SX} {p : Env × MS} : optB body (some p) = body p.1 p.2 := rfl
theorem fs_tup {as : List AS} {body : SX} {ps : List PV} : forStep (aTup as) body (.tup ps) e s = optB body (aAll as ps e s) := by
  show (match aAll as ps e s with
    | some (e', s') => body e' s'
    | none => .stuck) = _
  cases aAll as ps e s with
  | none => rfl
  | some p => rfl
/-! try -/
def tryE (i : Nat) (r : SRes) : SRes := match r with
  | .nx e s => .nx (e.set i none) s
  | .rt p s => .rt p s
  | .bk e s => .bk (e.set i none) s
  | .ct e s => .ct (e.set i none) s
  | _ => .stuck
def tryK (cs : List String) (d : String) (i : Nat) (k : String → PV → SX) (r : SRes) : SRes := match r with
  | .ex c p e s => if (cs.contains c && decide (i < e.length)) = true then (if subE c d = true then tryE i (k c p (e.set i none) s) else .ex c p e s) else .stuck
  | r => r
theorem tryE_nx {i : Nat} : tryE i (.nx e s) = .nx (e.set i none) s := rfl
theorem tryE_rt {i : Nat} {p : PV} : tryE i (.rt p s) = .rt p s := rfl
theorem ap_try {cs : List String} {d : String} {i : Nat} {h : SX} {k : String → PV → SX} : sTry cs d i h k e s = tryK cs d i k (h e s) := by
  unfold sTry tryK tryE
  cases h e s <;> first | rfl | skip
theorem tryK_nx {cs : List String} {d : String} {i : Nat} {k : String → PV → SX} : tryK cs d i k (.nx e s) = .nx e s := rfl
theorem tryK_rt {cs : List String} {d : String} {i : Nat} {k : String → PV → SX} {p : PV} : tryK cs d i k (.rt p s) = .rt p s := rfl
theorem tryK_ex {cs : List String} {d c : String} {p : PV} {i : Nat} {k : String → PV → SX} (h1 : cs.contains c = true) (h2 : i < e.length) (h3 : subE c d = true) : tryK cs d i k (.ex c p e s) = tryE i (k c p (e.set i none) s) := by
  show (if (cs.contains c && decide (i < e.length)) = true then (if subE c d = true then tryE i (k c p (e.set i none) s) else .ex c p e s) else .stuck) = _
  rw [h1, decide_eq_true h2, h3]; rfl
theorem sub_t {c d : String} (h : subE c d = true) : subE c d = true := h
theorem sub_f {c d : String} (h : subE c d = false) : subE c d = false := h
theorem ap_isE {cs : List String} {c d : String} (h : cs.contains c = true) : eIsE cs c d e s = .ok (.bl (subE c d)) s := if_pos h
theorem ap_fld {cs : List String} {c fld : String} {p : PV} (h : cs.contains c = true) (h2 : attrOf c = PySem.Str.ofString fld) : eFld cs fld c p e s = .ok p s := by
  unfold eFld; rw [if_pos h, if_pos h2]
theorem ap_asTup {as : List AS} {ps : List PV} : aTup as (.tup ps) e s = aAll as ps e s := rfl
theorem ap_aAll0 : aAll [] [] e s = some (e, s) := rfl
theorem ap_aAllN {i : Nat} {as : List AS} {p : PV} {ps : List PV} : aAll (aName i :: as) (p :: ps) e s = aAll as ps (e.set i (some p)) s := rfl
theorem dt_true {p : Prop} [Decidable p] (h : p) : decide p = true := decide_eq_true h
theorem filter_no {α : Type} (l : List α) : l.filter (fun _ => false) = [] := by simp
/-- wells, one after the other -/
theorem ok_wells {X : String → PV → MS → Prop} {i k : Nat} {f : EX} {Q : List PV → MS → Prop} (hk : k ≤ 3) (hf : ∀ t : Nat, t ≤ 10 → ∀ s, Ok (f (e.set i (some (.int (t : Nat)))) s) (fun v _ => v = .bl true) NoX)
    (K : ∀ s', Q ((List.range k).map fun _ => .bl true) s') : Ok (compM (aName i) tYs f e ((List.range k).map fun t : Nat => PV.int (t : Nat)) s).calm Q X := by
  refine ok_compI (inj := fun t : Nat => PV.int (t : Nat)) (fun _ => True) (fun _ v => v = .bl true) trivial (fun x hx s _ => ?_) (fun ys s' hl hv _ => ?_)
  · have := List.mem_range.mp hx
    exact Ok.mono (hf x (by omega) s) (fun a s h => ⟨h, trivial⟩) (fun _ _ _ h => h)
  · have e1 : ys = (List.range k).map fun _ => PV.bl true := by
      apply List.ext_getElem?
      intro j
      rw [List.getElem?_map]
      rcases Nat.lt_or_ge j k with h | h
      · have h2 : j < ys.length := by rw [hl, List.length_range]; exact h
        rw [List.getElem?_range h]
        have := hv j j ys[j] (List.getElem?_range h) (List.getElem?_eq_getElem h2)
        rw [List.getElem?_eq_getElem h2, this]; rfl
      · rw [List.getElem?_eq_none (by rw [hl, List.length_range]; exact h), List.getElem?_eq_none (by rw [List.length_range]; exact h)]; rfl
    rw [e1]
    exact K s'
/-- a while loop, by what holds before each lap and a number that goes down -/
theorem sw_while {P : SP} {c : ET} {body : SX} {n : Nat} (I : Nat → Env → MS → Prop) (m : Nat) (hm : m < n) (h0 : I m e s)
    (step : ∀ m e s, I m e s → ∃ b s', c e s = .ok b s' ∧ (b = true → SW (body e s') ⟨fun e s => ∃ k, k < m ∧ I k e s, P.R, P.N, P.X⟩) ∧ (b = false → P.N e s')) : SW (whileM c body n e s) P := by
  induction n generalizing m e s with
  | zero => omega
  | succ n ih =>
    obtain ⟨b, s', hc, h1, h2⟩ := step m e s h0
    show SW ((c e s).sbind e fun b s => if b = true then (match body e s with
      | .nx e s => whileM c body n e s
      | .ct e s => whileM c body n e s
      | .bk e s => .nx e s
      | r => r) else .nx e s) P
    rw [hc]
    cases b with
    | false => exact h2 rfl
    | true =>
      have q := h1 rfl
      rw [sbind_ok, if_pos rfl]
      revert q
      cases body e s' with
      | nx e2 s2 => rintro ⟨k, hk, hi⟩; exact ih k (by omega) hi
      | rt v s2 => exact id
      | bk e2 s2 => exact id
      | ct e2 s2 => exact fun h => h.elim
      | ex c p e2 s2 => exact id
      | stuck => exact id
theorem mut_ap {m : MutF} {fo : EX} {fs : List EX} {i : Nat} {l xs l' : List PV} {z : PV} (h1 : fo e s = .ok (.obj i) s) (h2 : s.m i = some (.lst l)) (h3 : eList fs e s = .ok xs s) (h4 : m s l xs = some (z, l')) : eMut m fo fs e s = .ok z (s.put i (.lst l')) := by
  unfold eMut
  simp only [h1, bind_ok, h2, h3, h4]
theorem agree_trans {s s1 s2 : MS} (h1 : Agree s s1) (hn : s.n ≤ s1.n) (h2 : Agree s1 s2) : Agree s s2 := fun i hi => by rw [h2 i (by omega), h1 i hi]
theorem frz_ap {i j : Nat} {l : List PV} (h1 : e[i]? = some (some (.obj j))) (h2 : s.m j = some (.lst l)) : gFrz i e s = .nx (e.set i (some (.lst l))) (s.del j) := by
  unfold gFrz; rw [h1]; dsimp only; rw [h2]
theorem frz_no {i : Nat} {p : PV} (h1 : e[i]? = some (some p)) (h2 : noObj p = true) : gFrz i e s = .nx e s := by
  unfold gFrz; rw [h1]
  cases p <;> first | rfl | (simp [noObj] at h2)
theorem agree_del {s s' : MS} {j : Nat} (h : Agree s s') (hj : s.n ≤ j) : Agree s (s'.del j) := fun i hi => by
  show (if i = j then none else s'.m i) = s.m i
  rw [if_neg (by omega)]; exact h i hi
end
end
end Mr
/-! whole numbers from 0 on, as such -/
namespace Mr
noncomputable section
section
variable {a b k : Nat} {e : Env} {s : MS} {l : List PV} {w : List Nat}
theorem n_lit : eC (.int (no_index (OfNat.ofNat k))) e s = .ok (.int (((OfNat.ofNat k : Nat)) : Int)) s := rfl
theorem n_add : pAdd (.int (a : Nat)) (.int (b : Nat)) = some (.int ((a + b : Nat) : Int)) := by rw [v_add_int, Int.natCast_add]
theorem n_sub (h : b ≤ a) : pSub (.int (a : Nat)) (.int (b : Nat)) = some (.int ((a - b : Nat) : Int)) := by rw [v_sub_int, Int.ofNat_sub h]
theorem n_mulL (h : a ≤ 1000000000000) : pMul (.int (a : Nat)) (.int (b : Nat)) = some (.int ((a * b : Nat) : Int)) := by rw [v_mulL (by omega) (by omega), Int.natCast_mul]
theorem n_mulR (h : b ≤ 1000000000000) : pMul (.int (a : Nat)) (.int (b : Nat)) = some (.int ((a * b : Nat) : Int)) := by rw [v_mulR (by omega) (by omega), Int.natCast_mul]
theorem n_fdiv (h : 0 < b) (h1 : b ≤ 1000000000) : pFdiv (.int (a : Nat)) (.int (b : Nat)) = some (.int ((a / b : Nat) : Int)) := by rw [v_fdiv (by omega) (by omega), Int.natCast_ediv]
theorem n_mod (h : 0 < b) : pMod (.int (a : Nat)) (.int (b : Nat)) = some (.int ((a % b : Nat) : Int)) := by rw [v_mod (by omega), Int.natCast_emod]
theorem n_pow (h1 : b ≤ 200000) (h2 : a ≤ 1000000000000) : pPow (.int (a : Nat)) (.int (b : Nat)) = some (.int ((a ^ b : Nat) : Int)) := by
  rw [v_pow (by omega) (by omega) (by omega) (by omega), Int.natCast_pow, Int.toNat_natCast]
theorem n_mul_str (h : w.length * k ≤ 10000) (h1 : k ≤ 1000000000000) : pMul (.str w) (.int (k : Nat)) = some (.str (powL w k)) := by rw [v_mul_str (by rw [Int.toNat_natCast]; exact h) (by omega) (by omega), Int.toNat_natCast]
theorem n_eq : pEq2 (.int (a : Nat)) (.int (b : Nat)) = some (decide (a = b)) := by rw [v_eq_int]; congr 1; rw [decide_eq_decide]; omega
theorem n_lt : pLt (.int (a : Nat)) (.int (b : Nat)) = some (decide (a < b)) := by rw [v_lt_int]; congr 1; rw [decide_eq_decide]; omega
theorem n_gt : pGt (.int (a : Nat)) (.int (b : Nat)) = some (decide (b < a)) := by rw [v_gt_int]; congr 1; rw [decide_eq_decide]; omega
theorem n_le : pLe (.int (a : Nat)) (.int (b : Nat)) = some (decide (a ≤ b)) := by rw [v_le_int]; congr 1; rw [decide_eq_decide]; omega
theorem n_ge : pGe (.int (a : Nat)) (.int (b : Nat)) = some (decide (b ≤ a)) := by rw [v_ge_int]; congr 1; rw [decide_eq_decide]; omega
theorem n_min2 : bMin2 [.int (a : Nat), .int (b : Nat)] = some (.int ((min a b : Nat) : Int)) := by rw [v_min2]; congr 2; omega
theorem n_max2 : bMax2 [.int (a : Nat), .int (b : Nat)] = some (.int ((max a b : Nat) : Int)) := by rw [v_max2]; congr 2; omega
theorem n_min2I : bMin2X [.int (a : Nat), .int (b : Nat)] = some (.int ((min a b : Nat) : Int)) := by rw [v_min2I]; congr 2; omega
theorem n_rng1 (h : a ≤ 1000000000) : rng1 [.int (a : Nat)] = some ((List.range a).map fun k => .int (k : Nat)) := by rw [v_rng1 (by omega) (by omega), Int.toNat_natCast]
theorem n_rng2 (h : a ≤ 1000000000) (h1 : b ≤ 1000000000) : rng2 [.int (a : Nat), .int (b : Nat)] = some ((List.range' a (b - a)).map fun k => .int (k : Nat)) := by
  rw [v_rng2 (by omega) (by omega) (by omega) (by omega)]
  rw [List.range'_eq_map_range, List.map_map]
  congr 1
  rw [show ((b : Int) - (a : Int)).toNat = b - a by omega]
  apply List.map_congr_left
  intro x _
  show PV.int _ = PV.int _
  congr 1
theorem n_cut_from {α : Type} {l : List α} : cutL l (some (a : Nat)) none = l.drop a := by rw [v_cut_from (by omega), Int.toNat_natCast]
theorem n_cut_to {α : Type} {l : List α} : cutL l none (some (a : Nat)) = l.take a := by rw [v_cut_to (by omega), Int.toNat_natCast]
theorem n_cut_ft {α : Type} {l : List α} : cutL l (some (a : Nat)) (some (b : Nat)) = (l.drop a).take (b - a) := by rw [v_cut_ft (by omega) (by omega), Int.toNat_natCast, Int.toNat_natCast]
theorem n_ixL {p : PV} (h : l[k]? = some p) : pIx (.lst l) (.int (k : Nat)) = some p := v_ix_lst (by omega) (by rw [Int.toNat_natCast]; exact h)
theorem n_ixT {p : PV} (h : l[k]? = some p) : pIx (.tup l) (.int (k : Nat)) = some p := v_ix_tup (by omega) (by rw [Int.toNat_natCast]; exact h)
theorem n_ixLM {α : Type} [Inhabited α] {inj : α → PV} {xs : List α} (h : k < xs.length) : pIx (.lst (xs.map inj)) (.int (k : Nat)) = some (inj (xs.getD k default)) := n_ixL (by
  rw [List.getElem?_map, List.getElem?_eq_getElem h, List.getD_eq_getElem?_getD, List.getElem?_eq_getElem h]; rfl)
theorem n_ixTM {α : Type} [Inhabited α] {inj : α → PV} {xs : List α} (h : k < xs.length) : pIx (.tup (xs.map inj)) (.int (k : Nat)) = some (inj (xs.getD k default)) := n_ixT (by
  rw [List.getElem?_map, List.getElem?_eq_getElem h, List.getD_eq_getElem?_getD, List.getElem?_eq_getElem h]; rfl)
theorem n_ixS (hl : w.length ≤ 10000) (h : k < w.length) : pIx (.str w) (.int (k : Nat)) = some (.str [w.getD k 0]) := v_ix_str hl (by omega) (by
  rw [Int.toNat_natCast, List.getD_eq_getElem?_getD, List.getElem?_eq_getElem h]; rfl)
theorem n_L0 {x : PV} : pIx (.lst (x :: l)) (.int ((0 : Nat) : Int)) = some x := n_ixL rfl
theorem n_L1 {x y : PV} : pIx (.lst (x :: y :: l)) (.int ((1 : Nat) : Int)) = some y := n_ixL rfl
theorem n_L2 {x y z : PV} : pIx (.lst (x :: y :: z :: l)) (.int ((2 : Nat) : Int)) = some z := n_ixL rfl
theorem n_T0 {x : PV} : pIx (.tup (x :: l)) (.int ((0 : Nat) : Int)) = some x := n_ixT rfl
theorem n_T1 {x y : PV} : pIx (.tup (x :: y :: l)) (.int ((1 : Nat) : Int)) = some y := n_ixT rfl
theorem n_T2 {x y z : PV} : pIx (.tup (x :: y :: z :: l)) (.int ((2 : Nat) : Int)) = some z := n_ixT rfl
theorem allInt_map {α : Type} {f : α → Int} : ∀ xs : List α, allInt (xs.map fun x => .int (f x)) = some (xs.map f)
  | [] => rfl
  | x :: xs => by simp only [List.map_cons, allInt, allInt_map xs, Option.map_some]
theorem v_sum {α : Type} {f : α → Int} {xs : List α} : bSum [.lst (xs.map fun x => .int (f x))] = some (.int (xs.map f).sum) := by
  show (allInt _).map _ = _
  rw [allInt_map]; rfl
theorem sum_cast {α : Type} {f : α → Nat} : ∀ xs : List α, (xs.map fun x => ((f x : Nat) : Int)).sum = (((xs.map f).sum : Nat) : Int)
  | [] => rfl
  | x :: xs => by simp only [List.map_cons, List.sum_cons, sum_cast xs, Int.natCast_add]
theorem n_sum {α : Type} {f : α → Nat} {xs : List α} : bSum [.lst (xs.map fun x => .int ((f x : Nat) : Int))] = some (.int (((xs.map f).sum : Nat) : Int)) := by
  rw [v_sum (f := fun x => ((f x : Nat) : Int)), sum_cast]
theorem v_range1 {i : Int} : bRange1 [.int i] = some (.set [.int 0, .int i]) := rfl
theorem v_range2 {i j : Int} : bRange2 [.int i, .int j] = some (.set [.int i, .int j]) := rfl
theorem d_set : deref s (.set l) = .set l := rfl
theorem n_elR (h : a ≤ 1000000000) (h1 : b ≤ 1000000000) : elems (.set [.int (a : Nat), .int (b : Nat)]) = some ((List.range' a (b - a)).map fun k => .int (k : Nat)) := n_rng2 h h1
theorem n_tupleR (h : a ≤ 10000) (h1 : b ≤ 10000) : bTupleR [.set [.int (a : Nat), .int (b : Nat)]] = some (.tup ((List.range' a (b - a)).map fun k => .int (k : Nat))) := by
  have q := n_rng2 (a := a) (b := b) (by omega) (by omega)
  have e1 : smallI (a : Nat) = true := fitsK (by omega) (by omega)
  have e2 : smallI (b : Nat) = true := fitsK (by omega) (by omega)
  have e3 : decide (((b : Int) - (a : Int)).toNat ≤ LIM) = true := decide_eq_true (le_lim (by omega))
  show (if (smallI (a : Nat) && smallI (b : Nat) && decide (((b : Int) - (a : Int)).toNat ≤ LIM)) = true then some (PV.tup (rng (a : Nat) ((b : Int) - (a : Int)).toNat)) else none) = _
  have q2 : (if (smallI (a : Nat) && smallI (b : Nat)) = true then some (rng (a : Nat) ((b : Int) - (a : Int)).toNat) else none) = some ((List.range' a (b - a)).map fun k => PV.int (k : Nat)) := q
  rw [e1, e2] at q2
  rw [e1, e2, e3]
  exact congrArg (Option.map PV.tup) q2
theorem n_listR (h : a ≤ 10000) (h1 : b ≤ 10000) : bListR [.set [.int (a : Nat), .int (b : Nat)]] = some (.lst ((List.range' a (b - a)).map fun k => .int (k : Nat))) := by
  have q := n_tupleR h h1
  show (if (smallI (a : Nat) && smallI (b : Nat) && decide (((b : Int) - (a : Int)).toNat ≤ LIM)) = true then some (PV.lst (rng (a : Nat) ((b : Int) - (a : Int)).toNat)) else none) = _
  have q2 : (if (smallI (a : Nat) && smallI (b : Nat) && decide (((b : Int) - (a : Int)).toNat ≤ LIM)) = true then some (PV.tup (rng (a : Nat) ((b : Int) - (a : Int)).toNat)) else none) = some (PV.tup ((List.range' a (b - a)).map fun k => PV.int (k : Nat))) := q
  split at q2
  · rename_i hc
    rw [if_pos hc]
    have := Option.some.inj q2
    injection this with e
    rw [e]
  · cases q2
theorem n_mulT {x : PV} (h : k ≤ 1000) : pMulT (.tup [x]) (.int (k : Nat)) = some (.tup (List.replicate k x)) := by
  show (if [x].length ≤ 1000 ∧ (-1000 : Int) ≤ (k : Nat) ∧ ((k : Nat) : Int) ≤ 1000 then some (PV.tup (List.replicate ((k : Nat) : Int).toNat [x]).flatten) else none) = _
  rw [if_pos ⟨by simp, by omega, by omega⟩, Int.toNat_natCast]
  congr 2
  clear h
  induction k with
  | zero => rfl
  | succ k ih => rw [List.replicate_succ, List.flatten_cons, ih, List.replicate_succ]; rfl
theorem zipP_map {α β : Type} {f : α → PV} {h : β → PV} : ∀ (xs : List α) (ys : List β), zipP (xs.map f) (ys.map h) = (xs.zip ys).map fun p => .tup [f p.1, h p.2]
  | x :: xs, y :: ys => by simp only [List.map_cons, zipP, List.zip_cons_cons, zipP_map xs ys]
  | [], _ => by simp [zipP]
  | _ :: _, [] => by simp [zipP]
theorem v_zipL {α β : Type} {f : α → PV} {h : β → PV} {xs : List α} {ys : List β} : zipM [.lst (xs.map f), .lst (ys.map h)] = some ((xs.zip ys).map fun p => .tup [f p.1, h p.2]) := congrArg some (zipP_map xs ys)
theorem v_zipT {α β : Type} {f : α → PV} {h : β → PV} {xs : List α} {ys : List β} : zipM [.tup (xs.map f), .tup (ys.map h)] = some ((xs.zip ys).map fun p => .tup [f p.1, h p.2]) := congrArg some (zipP_map xs ys)
theorem v_rev_tup : pRev (.tup l) = some (.tup l.reverse) := rfl
theorem n_dt {p : Prop} [Decidable p] (h : p) : decide p = true := decide_eq_true h
theorem n_df {p : Prop} [Decidable p] (h : ¬ p) : decide p = false := decide_eq_false h
/-! ways part -/
theorem sw_ifd {p : Prop} [Decidable p] {A B : SRes} {P : SP} (h1 : p → SW A P) (h2 : ¬ p → SW B P) : SW (if decide p = true then A else B) P := by
  by_cases h : p
  · rw [decide_eq_true h, if_pos rfl]; exact h1 h
  · rw [decide_eq_false h, if_neg Bool.false_ne_true]; exact h2 h
theorem sw_ifb {c : Bool} {A B : SRes} {P : SP} (h1 : c = true → SW A P) (h2 : c = false → SW B P) : SW (if c = true then A else B) P := by
  cases c
  · exact h2 rfl
  · exact h1 rfl
theorem ok_ifd {α : Type} {p : Prop} [Decidable p] {A B : Res α} {Q : α → MS → Prop} {X : XP} (h1 : p → Ok A Q X) (h2 : ¬ p → Ok B Q X) : Ok (if decide p = true then A else B) Q X := by
  by_cases h : p
  · rw [decide_eq_true h, if_pos rfl]; exact h1 h
  · rw [decide_eq_false h, if_neg Bool.false_ne_true]; exact h2 h
theorem ok_ifb {α : Type} {c : Bool} {A B : Res α} {Q : α → MS → Prop} {X : XP} (h1 : c = true → Ok A Q X) (h2 : c = false → Ok B Q X) : Ok (if c = true then A else B) Q X := by
  cases c
  · exact h2 rfl
  · exact h1 rfl
/-! stores -/
theorem zp_newD {t : Bool} : eNewD t e s = .ok (.obj s.n) (s.new (.dct t [] [])) := rfl
theorem zp_ssetS {fo fi : EX} {x : PV} : kSset (aSub fo fi) e x s = optN (aSub fo fi x e s) := by
  unfold kSset optN
  cases aSub fo fi x e s <;> rfl
theorem sub_ap {fo fi : EX} {x z : PV} {i : Nat} {o o' : PO} (h1 : fo e s = .ok (.obj i) s) (h2 : fi e s = .ok z s) (h3 : s.m i = some o) (h4 : oSet o z x = some o') : aSub fo fi x e s = some (e, s.put i o') := by
  unfold aSub
  simp only [h1, h2, h3, h4]
/-! lists of like things, compared -/
theorem eqBs_G {α : Type} [DecidableEq α] {inj : α → PV} (h : ∀ a b, eqB (inj a) (inj b) = decide (a = b)) : ∀ xs ys : List α, eqBs (xs.map inj) (ys.map inj) = decide (xs = ys)
  | [], [] => rfl
  | [], _ :: _ => rfl
  | _ :: _, [] => rfl
  | x :: xs, y :: ys => by
    simp only [List.map_cons, eqBs, h, eqBs_G h xs ys]
    rw [Bool.eq_iff_iff]; simp
theorem isDs_G {α : Type} {inj : α → PV} (h : ∀ a, isD (inj a) = true) : ∀ xs : List α, isDs (xs.map inj) = true
  | [] => rfl
  | x :: xs => by simp only [List.map_cons, isDs, h, isDs_G h xs, Bool.and_self]
theorem deps_G {α : Type} {inj : α → PV} {n : Nat} (h : ∀ a, dep (inj a) ≤ n) : ∀ xs : List α, deps (xs.map inj) ≤ n
  | [] => Nat.zero_le _
  | x :: xs => by
    simp only [List.map_cons, deps]
    have := h x
    have := deps_G h xs
    omega
theorem v_eq_lstG {α : Type} [DecidableEq α] {inj : α → PV} {xs ys : List α} (hD : ∀ a, isD (inj a) = true) (hd : ∀ a, dep (inj a) ≤ 20) (h : ∀ a b, eqB (inj a) (inj b) = decide (a = b)) : pEq2 (.lst (xs.map inj)) (.lst (ys.map inj)) = some (decide (xs = ys)) := by
  show (if isDs (xs.map inj) && isDs (ys.map inj) && decide (min (deps (xs.map inj) + 1) (deps (ys.map inj) + 1) ≤ 64) then some (eqBs (xs.map inj) (ys.map inj)) else none) = _
  have h1 := deps_G hd xs
  have h2 := deps_G hd ys
  rw [isDs_G hD, isDs_G hD, eqBs_G h, decide_eq_true (show min (deps (xs.map inj) + 1) (deps (ys.map inj) + 1) ≤ 64 by omega)]; rfl
theorem v_eq_tupG {α : Type} [DecidableEq α] {inj : α → PV} {xs ys : List α} (hD : ∀ a, isD (inj a) = true) (hd : ∀ a, dep (inj a) ≤ 20) (h : ∀ a b, eqB (inj a) (inj b) = decide (a = b)) : pEq2 (.tup (xs.map inj)) (.tup (ys.map inj)) = some (decide (xs = ys)) := by
  show (if isDs (xs.map inj) && isDs (ys.map inj) && decide (min (deps (xs.map inj) + 1) (deps (ys.map inj) + 1) ≤ 64) then some (eqBs (xs.map inj) (ys.map inj)) else none) = _
  have h1 := deps_G hd xs
  have h2 := deps_G hd ys
  rw [isDs_G hD, isDs_G hD, eqBs_G h, decide_eq_true (show min (deps (xs.map inj) + 1) (deps (ys.map inj) + 1) ≤ 64 by omega)]; rfl
theorem anyG {α : Type} [DecidableEq α] {inj : α → PV} (h : ∀ a b, eqB (inj a) (inj b) = decide (a = b)) (x : α) (xs : List α) : ((xs.map inj).any fun y => eqB y (inj x)) = decide (x ∈ xs) := by
  rw [Bool.eq_iff_iff, List.any_eq_true, decide_eq_true_eq]
  constructor
  · rintro ⟨k, hk, q⟩
    obtain ⟨y, hy, rfl⟩ := List.mem_map.mp hk
    rw [h, decide_eq_true_eq] at q
    subst q; exact hy
  · intro q
    exact ⟨inj x, List.mem_map.mpr ⟨x, q, rfl⟩, by rw [h]; simp⟩
/-- a dict whose keys are texts and whose values are all True: a set, in the order of coming -/
def dT (K : List (List Nat)) : PO := .dct false (K.map .str) (K.map fun _ => .bl true)
def insL (K : List (List Nat)) (x : List Nat) : List (List Nat) := if x ∈ K then K else K ++ [x]
theorem keq_str (a b : List Nat) : keq (.str a) (.str b) = decide (a = b) := by
  show (a == b) = _
  rw [Bool.eq_iff_iff]; simp
theorem dset_T (x : List Nat) : ∀ K : List (List Nat), dset (K.map .str) (K.map fun _ => .bl true) (.str x) (.bl true) = K.map fun _ => .bl true
  | [] => rfl
  | k :: K => by
    simp only [List.map_cons, dset, dset_T x K]
    split <;> rfl
theorem any_keys (x : List Nat) (K : List (List Nat)) : ((K.map PV.str).any fun k => keq k (.str x)) = decide (x ∈ K) := by
  rw [Bool.eq_iff_iff, List.any_eq_true, decide_eq_true_eq]
  constructor
  · rintro ⟨k, hk, h⟩
    obtain ⟨y, hy, rfl⟩ := List.mem_map.mp hk
    rw [keq_str, decide_eq_true_eq] at h
    subst h; exact hy
  · intro h
    exact ⟨.str x, List.mem_map.mpr ⟨x, h, rfl⟩, by rw [keq_str]; simp⟩
theorem dput_T (K : List (List Nat)) (x : List Nat) : dput (K.map .str) (K.map fun _ => .bl true) (.str x) (.bl true) = ((insL K x).map .str, (insL K x).map fun _ => .bl true) := by
  unfold dput insL
  rw [any_keys]
  by_cases c : x ∈ K
  · rw [if_pos (decide_eq_true c), if_pos c, dset_T]
  · rw [if_neg (by rw [decide_eq_false c]; exact Bool.false_ne_true), if_neg c]
    simp
theorem oSet_T {K : List (List Nat)} {x : List Nat} (h : K.length ≤ 10000) : oSet (dT K) (.str x) (.bl true) = some (dT (insL K x)) := by
  show (if (isKey false (.str x) && decide ((K.map PV.str).length < LIM)) = true then some (PO.dct false (dput (K.map .str) (K.map fun _ => .bl true) (.str x) (.bl true)).1 (dput (K.map .str) (K.map fun _ => .bl true) (.str x) (.bl true)).2) else none) = _
  rw [if_pos (by rw [List.length_map, Bool.and_eq_true, decide_eq_true_eq]; exact ⟨rfl, by rw [LIM_eq]; omega⟩), dput_T]; rfl
/-! a displayed dict of texts, all True -/
def kDCompA (vs : List Nat) (as : AS) (tt : ET) (tk tv : EX) (e : Env) (xs : List PV) (s : MS) : Res PV := if xs.length ≤ LIM then (dcompM as tt tk tv (wipeE e vs) xs ([], []) s).calm.bind fun d s => .ok (.dct false d.1 d.2) s else .stuck
def kDct (d : List PV × List PV) (s : MS) : Res PV := .ok (.dct false d.1 d.2) s
theorem zp_dcomp {vs : List Nat} {fi : Env → MS → Res (List PV)} {as : AS} {tt : ET} {tk tv : EX} : eDComp vs fi as tt tk tv e s = (fi e s).bind (kDCompA vs as tt tk tv e) := rfl
theorem zp_dcompA {vs : List Nat} {as : AS} {tt : ET} {tk tv : EX} {xs : List PV} (h : xs.length ≤ 10000) : kDCompA vs as tt tk tv e xs s = (dcompM as tt tk tv (wipeE e vs) xs ([], []) s).calm.bind kDct := if_pos (le_lim h)
theorem zp_dct {d : List PV × List PV} : kDct d s = .ok (.dct false d.1 d.2) s := rfl
theorem dcomp_T {α : Type} {inj : α → PV} {as : AS} {tt : ET} {tk tv : EX} (E : α → Env) (b : α → Bool) (f : α → List Nat) : ∀ (xs : List α) (K : List (List Nat)) (s : MS), (∀ x ∈ xs, ∀ s, as (inj x) e s = some (E x, s)) → (∀ x ∈ xs, ∀ s, tt (E x) s = .ok (b x) s) →
    (∀ x ∈ xs, b x = true → ∀ s, tk (E x) s = .ok (.str (f x)) s) → (∀ x ∈ xs, b x = true → ∀ s, tv (E x) s = .ok (.bl true) s) →
    dcompM as tt tk tv e (xs.map inj) (K.map .str, K.map fun _ => .bl true) s = .ok ((((xs.filter b).map f).foldl insL K).map .str, (((xs.filter b).map f).foldl insL K).map fun _ => .bl true) s
  | [], K, s, _, _, _, _ => rfl
  | x :: xs, K, s, h1, h2, h3, h4 => by
    have r1 := h1 x List.mem_cons_self s
    have r2 := h2 x List.mem_cons_self s
    have ih := fun K => dcomp_T E b f xs K s (fun y hy => h1 y (List.mem_cons_of_mem _ hy)) (fun y hy => h2 y (List.mem_cons_of_mem _ hy)) (fun y hy => h3 y (List.mem_cons_of_mem _ hy)) fun y hy => h4 y (List.mem_cons_of_mem _ hy)
    rw [List.map_cons]
    simp only [dcompM, r1, r2, bind_ok]
    cases c : b x with
    | false =>
      rw [List.filter_cons, c, if_neg Bool.false_ne_true, if_neg Bool.false_ne_true]
      exact ih K
    | true =>
      rw [List.filter_cons, if_pos c]
      have r3 := h3 x List.mem_cons_self c s
      have r4 := h4 x List.mem_cons_self c s
      simp only [r3, r4, bind_ok, if_true, dput_T, List.map_cons, List.foldl_cons]
      rw [if_pos (show isKey false (.str (f x)) = true from rfl)]
      exact ih (insL K (f x))
theorem ok_dcomp {α : Type} {inj : α → PV} {as : AS} {tt : ET} {tk tv : EX} {xs : List α} {Q : List PV × List PV → MS → Prop} {X : XP} (E : α → Env) (b : α → Bool) (f : α → List Nat) (h1 : ∀ x ∈ xs, ∀ s, as (inj x) e s = some (E x, s)) (h2 : ∀ x ∈ xs, ∀ s, tt (E x) s = .ok (b x) s)
    (h3 : ∀ x ∈ xs, b x = true → ∀ s, tk (E x) s = .ok (.str (f x)) s) (h4 : ∀ x ∈ xs, b x = true → ∀ s, tv (E x) s = .ok (.bl true) s)
    (k : Q ((((xs.filter b).map f).foldl insL []).map .str, (((xs.filter b).map f).foldl insL []).map fun _ => .bl true) s) : Ok (dcompM as tt tk tv e (xs.map inj) ([], []) s).calm Q X := by
  rw [show (([], []) : List PV × List PV) = (([] : List (List Nat)).map .str, ([] : List (List Nat)).map fun _ => .bl true) from rfl, dcomp_T E b f xs [] s h1 h2 h3 h4]
  exact k
theorem mem_insL {K : List (List Nat)} {x y : List Nat} : y ∈ insL K x ↔ y ∈ K ∨ y = x := by
  unfold insL
  split
  · rename_i h
    constructor
    · exact .inl
    · rintro (q | rfl)
      · exact q
      · exact h
  · simp
theorem nodup_insL {K : List (List Nat)} {x : List Nat} (h : K.Nodup) : (insL K x).Nodup := by
  unfold insL
  split
  · exact h
  · rename_i q
    rw [List.nodup_append]
    exact ⟨h, by simp, fun a ha b hb e => by simp at hb; subst hb; subst e; exact q ha⟩
theorem len_insL {K : List (List Nat)} {x : List Nat} : (insL K x).length ≤ K.length + 1 := by
  unfold insL
  split
  · omega
  · simp
theorem deref_dT {i : Nat} {K : List (List Nat)} (h : s.m i = some (dT K)) : deref s (.obj i) = .dct false (K.map .str) (K.map fun _ => .bl true) := by simp [deref, h, dT]
theorem v_list_dct {ks vs : List PV} : bList [.dct false ks vs] = some (.lst ks) := rfl
theorem v_len_dct {ks vs : List PV} : bLen [.dct false ks vs] = some (.int (ks.length : Nat)) := rfl
end
end
end Mr
/-! starred items; texts stripped and begun -/
namespace Mr
noncomputable section
open PySem PySem.Spec PyProof.Rows L2
abbrev EA := Env → MS → Res (List PV)
def seqT : PV → Option (List PV)
  | .tup l | .lst l => some l
  | _ => none
def eCns (f : EX) (m : EA) : EA := fun e s => (f e s).bind fun x s => (m e s).bind fun xs s => .ok (x :: xs) s
def eStr (f : EX) (m : EA) : EA := fun e s => (f e s).bind fun x s => (ofO (seqT (deref s x)) s).bind fun l s => (m e s).bind fun xs s => .ok (l ++ xs) s
def eTupA (m : EA) : EX := fun e s => (m e s).bind fun xs s => if xs.length ≤ LIM then .ok (.tup xs) s else .stuck
def eLstA (m : EA) : EX := fun e s => (m e s).bind fun xs s => if xs.length ≤ LIM then .ok (.lst xs) s else .stuck
def eLstAM (m : EA) : EX := fun e s => (m e s).bind fun xs s => if xs.length ≤ LIM then .ok (.obj s.n) (s.new (.lst xs)) else .stuck
section
variable {K : PySem.W.Frag} {mg : MG} {g : G} {X : Cx} {W : WY} {pos : Pos} {a b c : Expr} {es : List Expr} {f h k : EX} {fs : List EX} {m : EA}
theorem ia_cns (ha : IE X W a f) (hr : IA X W es m) (hs : starEach (a :: es) X.env = (false, eval a X.env) :: starEach es X.env := by rfl) : IA X W (a :: es) (eCns f m) :=
  PA.weak (pa_cons ha hr hs) fun σ H Q q => by
    unfold tCons
    refine (RdA.seq (R := fun g p v => RelP X.K X.mg g p v) (f := f) (k := fun x e s => (m e s).bind fun xs s => .ok (x :: xs) s) q).imp fun v H1 q => ?_
    obtain ⟨p, g, env, e, ok, re, r, q⟩ := q
    refine ⟨g, env, e, ok, re, ?_⟩
    revert q
    cases m env g.s with
    | exc c p s' => exact id
    | stuck => exact id
    | ok xs s2 => exact fun q g' v x' ok' es r2 => q g' _ x' ok' es (RelPs.cons (r.ext ok x') r2)
theorem ia_str {sp : Pos} (ha : IE X W a f) (hr : IA X W es m) (hs : starEach (.Starred a sp :: es) X.env = (true, eval a X.env) :: starEach es X.env := by rfl) : IA X W (.Starred a sp :: es) (eStr f m) :=
  PA.weak (StX.pa_star ha hr hs) fun σ H Q q => by
    unfold StX.tStar
    refine (RdA.seq (R := fun g p v => RelP X.K X.mg g p v) (f := f) (k := fun x e s => (ofO (seqT (deref s x)) s).bind fun l s => (m e s).bind fun xs s => .ok (l ++ xs) s) q).imp fun v H1 q => ?_
    obtain ⟨p, g, env, e, ok, re, r, q⟩ := q
    have rd := r.deref ok
    revert rd q
    cases hq : deref g.s p with
    | tup l =>
      intro q rd
      obtain ⟨b, vs, rfl, h1, h2⟩ := relT rd
      refine ⟨b, vs, rfl, .inl (by rw [← e]; exact SqT.of h1), g, env, e, ok, re, ?_⟩
      have q' : OutA X.K X.mg (fun g p v => RelPs X.K X.mg g p v) g σ W ((m env g.s).bind fun xs s => .ok (l ++ xs) s) Q := by
        have : (ofO (seqT (PV.tup l)) g.s).bind (fun l s => (m env s).bind fun xs s => Res.ok (l ++ xs) s) = (m env g.s).bind fun xs s => .ok (l ++ xs) s := rfl
        rw [this] at q
        exact q
      revert q'
      cases m env g.s with
      | exc c p s' => exact id
      | stuck => exact id
      | ok xs s2 => exact fun q g' v x' ok' es r2 => q g' _ x' ok' es (RelPs.append (h2.ext ok x') r2)
    | lst l =>
      intro q rd
      obtain ⟨b, vs, rfl, h1, h2⟩ := relL rd
      refine ⟨b, vs, rfl, .inr (by rw [← e]; exact SqL.of h1), g, env, e, ok, re, ?_⟩
      have q' : OutA X.K X.mg (fun g p v => RelPs X.K X.mg g p v) g σ W ((m env g.s).bind fun xs s => .ok (l ++ xs) s) Q := by
        have : (ofO (seqT (PV.lst l)) g.s).bind (fun l s => (m env s).bind fun xs s => Res.ok (l ++ xs) s) = (m env g.s).bind fun xs s => .ok (l ++ xs) s := rfl
        rw [this] at q
        exact q
      revert q'
      cases m env g.s with
      | exc c p s' => exact id
      | stuck => exact id
      | ok xs s2 => exact fun q g' v x' ok' es r2 => q g' _ x' ok' es (RelPs.append (h2.ext ok x') r2)
    | _ => intro q rd; exact q.elim
theorem ie_tupA {x1 : Nat} (ha : IA X W es m) : IE X W (.Tuple es x1 pos) (eTupA m) :=
  PE.weak (pe_tup ha) fun σ H Q q => by
    unfold tTup
    refine (RdA.seq (R := fun g p v => RelPs X.K X.mg g p v) (f := m) (k := fun xs e s => if xs.length ≤ LIM then Res.ok (PV.tup xs) s else Res.stuck) q).imp fun v H1 q => ?_
    obtain ⟨p, g, env, rfl, ok, re, r, q⟩ := q
    by_cases hl : p.length ≤ LIM
    · simp only [hl, if_true] at q
      refine ⟨by rw [← r.length]; exact toSz hl, fun a ha => ?_⟩
      exact q (g.new a (.tup v)) _ (G.new_ext ha) (G.new_ok ok ha) rfl (G.new_tup ok ha r)
    · simp only [hl, if_false] at q
      exact q.elim
theorem ie_lstA (ha : IA X W es m) : IE X W (.List es pos) (eLstA m) :=
  PE.weak (pe_lst ha) fun σ H Q q => by
    unfold tLst
    refine (RdA.seq (R := fun g p v => RelPs X.K X.mg g p v) (f := m) (k := fun xs e s => if xs.length ≤ LIM then Res.ok (PV.lst xs) s else Res.stuck) q).imp fun v H1 q => ?_
    obtain ⟨p, g, env, rfl, ok, re, r, q⟩ := q
    by_cases hl : p.length ≤ LIM
    · simp only [hl, if_true] at q
      refine ⟨by rw [← r.length]; exact toSz hl, fun a ha => ?_⟩
      exact q (g.newZ a (.lst v)) _ (G.newZ_ext ha) (G.newZ_ok ok ha) rfl (G.newZ_lst ok ha r)
    · simp only [hl, if_false] at q
      exact q.elim
theorem ie_lstAM (ha : IA X W es m) : IE X W (.List es pos) (eLstAM m) :=
  PE.weak (pe_lst ha) fun σ H Q q => by
    unfold tLst
    refine (RdA.seq (R := fun g p v => RelPs X.K X.mg g p v) (f := m) (k := fun xs e s => if xs.length ≤ LIM then Res.ok (PV.obj s.n) (s.new (.lst xs)) else Res.stuck) q).imp fun v H1 q => ?_
    obtain ⟨p, g, env, rfl, ok, re, r, q⟩ := q
    by_cases hl : p.length ≤ LIM
    · simp only [hl, if_true] at q
      refine ⟨by rw [← r.length]; exact toSz hl, fun a ha => ?_⟩
      have x := newM_ext (g := g) (u := .lst v) (o := .lst p) ha
      exact q (g.newM a (.lst v) (.lst p)) _ x (newM_ok ok ha ⟨v, upd_same, r.ext ok x⟩) rfl (by
        simp only [RelP]
        exact ⟨Nat.lt_succ_self _, by simp⟩)
    · simp only [hl, if_false] at q
      exact q.elim
end
/-! ### texts stripped and begun -/
def rsL (a b : List Nat) : List Nat := (a.reverse.dropWhile (b.contains ·)).reverse
def lsL (a b : List Nat) : List Nat := a.dropWhile (b.contains ·)
def mRstrip : PV → List PV → Option PV
  | .str a, [.str b] => if a.length ≤ LIM then some (.str (rsL a b)) else none
  | _, _ => none
def mStrip : PV → List PV → Option PV
  | .str a, [.str b] => if a.length ≤ LIM then some (.str (rsL (lsL a b) b)) else none
  | _, _ => none
def mStarts : PV → List PV → Option PV
  | .str a, [.str b] => some (.bl (b.isPrefixOf a))
  | _, _ => none
section
variable {K : PySem.W.Frag} {mg : MG} {g : G} {X : Cx}
theorem contains_mk (b : List Nat) : (mkS b).cps.contains = fun c => b.contains c := by
  funext c
  show b.toArray.contains c = _
  simp
theorem takeWhile_len {α : Type} (p : α → Bool) : ∀ l : List α, l.drop (l.takeWhile p).length = l.dropWhile p
  | [] => rfl
  | x :: l => by
    by_cases h : p x = true
    · rw [List.takeWhile_cons_of_pos h, List.dropWhile_cons_of_pos h]; exact takeWhile_len p l
    · rw [List.takeWhile_cons_of_neg h, List.dropWhile_cons_of_neg h]; rfl
theorem drop_rev {α : Type} (p : α → Bool) (l : List α) : l.take (l.length - (l.reverse.takeWhile p).length) = (l.reverse.dropWhile p).reverse := by
  rw [← takeWhile_len, List.drop_reverse, List.reverse_reverse]
theorem stripped_mk (g : Nat → Bool) (r : Bool) (l : Bool) (a : List Nat) : stripped g l r (mkS a) = mkS (let x := if l = true then a.dropWhile g else a; if r = true then (x.reverse.dropWhile g).reverse else x) := by
  have hs : ∀ lo hi, Builtin.Str.strSub (mkS a) lo hi = mkS ((a.take hi).drop lo) := fun lo hi => by
    unfold Builtin.Str.strSub mkS
    simp [List.drop_take]
  have hlen : (mkS a).length = a.length := strlen a
  have hlist : (mkS a).cps.toList = a := by show a.toArray.toList = a; simp
  unfold stripped stripHi stripLo
  rw [hs, hlen, hlist]
  congr 1
  cases l with
  | false =>
    cases r with
    | false => simp
    | true =>
      simp only [Bool.false_eq_true, if_false, if_true, List.drop_zero]
      exact drop_rev g a
  | true =>
    simp only [if_true]
    have hle : (a.takeWhile g).length ≤ a.length := (List.takeWhile_prefix g).length_le
    cases r with
    | false =>
      simp only [Bool.false_eq_true, if_false, List.take_length]
      exact takeWhile_len g a
    | true =>
      simp only [if_true]
      rw [← drop_rev, List.drop_take, takeWhile_len]
      congr 1
      have : (a.dropWhile g).length = a.length - (a.takeWhile g).length := by rw [← takeWhile_len, List.length_drop]
      omega
theorem stripBy_mk (g : Nat → Bool) (l r : Bool) (a : List Nat) : Txt.stripBy g l r (mkS a) = stripped g l r (mkS a) := by
  unfold Txt.stripBy
  split
  · rename_i h
    simp only [stripSame, Bool.and_eq_true, beq_iff_eq] at h
    obtain ⟨h1, h2⟩ := h
    rw [h1] at h2
    unfold stripped
    rw [h1, h2]
    show mkS a = Builtin.Str.strSub (mkS a) 0 (mkS a).length
    unfold Builtin.Str.strSub mkS
    simp [Str.length]
  · rfl
theorem rstrip_mk (a b : List Nat) : Txt.rstripChars (mkS a) (mkS b) = mkS (rsL a b) := by
  unfold Txt.rstripChars
  rw [stripBy_mk, stripped_mk, contains_mk]
  rfl
theorem strip_mk (a b : List Nat) : Txt.stripChars (mkS a) (mkS b) = mkS (rsL (lsL a b) b) := by
  unfold Txt.stripChars
  rw [stripBy_mk, stripped_mk, contains_mk]
  rfl
theorem m_rstrip : MtR X "str.rstrip" (MtM' X.K X.mg mRstrip) := by
  intro pins s σ H x xs v us Q I rx rv ⟨g, p, ps, z, eH, ok, r1, r2, hz, q⟩
  subst eH
  unfold mRstrip at hz
  split at hz
  · rename_i a b
    split at hz
    · rename_i hl
      cases hz
      obtain ⟨w, rfl, r3⟩ := r2.one
      obtain rfl := relS r1
      obtain rfl := relS r3
      exact mt_rstripChars pins s σ g.H _ _ v us Q I rx rv ⟨mkS a, mkS b, rfl, rfl, by rw [show (mkS a).length = a.length from strlen a]; exact toSz hl, by rw [rstrip_mk]; exact fin_str ok q⟩
    · cases hz
  · cases hz
theorem m_strip : MtR X "str.strip" (MtM' X.K X.mg mStrip) := by
  intro pins s σ H x xs v us Q I rx rv ⟨g, p, ps, z, eH, ok, r1, r2, hz, q⟩
  subst eH
  unfold mStrip at hz
  split at hz
  · rename_i a b
    split at hz
    · rename_i hl
      cases hz
      obtain ⟨w, rfl, r3⟩ := r2.one
      obtain rfl := relS r1
      obtain rfl := relS r3
      exact mt_stripChars pins s σ g.H _ _ v us Q I rx rv ⟨mkS a, mkS b, rfl, rfl, by rw [show (mkS a).length = a.length from strlen a]; exact toSz hl, by rw [strip_mk]; exact fin_str ok q⟩
    · cases hz
  · cases hz
end
end
end Mr
namespace Mr
noncomputable section
section
variable {X : Type} {e : Env} {s : MS} {f : EX} {m : EA} {l xs : List PV} {x : PV} {a b : List Nat}
def kCnsA (m : EA) (e : Env) (x : PV) (s : MS) : Res (List PV) := (m e s).bind (kConsB x)
def kApp (l : List PV) (xs : List PV) (s : MS) : Res (List PV) := .ok (l ++ xs) s
def kStrB (m : EA) (e : Env) (l : List PV) (s : MS) : Res (List PV) := (m e s).bind (kApp l)
def kStrA (m : EA) (e : Env) (x : PV) (s : MS) : Res (List PV) := (ofO (seqT (deref s x)) s).bind (kStrB m e)
theorem zp_cns : eCns f m e s = (f e s).bind (kCnsA m e) := rfl
theorem zp_cnsA : kCnsA m e x s = (m e s).bind (kConsB x) := rfl
theorem zp_str : eStr f m e s = (f e s).bind (kStrA m e) := rfl
theorem zp_strA : kStrA m e x s = (ofO (seqT (deref s x)) s).bind (kStrB m e) := rfl
theorem zp_strB : kStrB m e l s = (m e s).bind (kApp l) := rfl
theorem zp_app : kApp l xs s = .ok (l ++ xs) s := rfl
theorem zp_tupAA : eTupA m e s = (m e s).bind kTup := rfl
theorem zp_lstAA : eLstA m e s = (m e s).bind kLst := rfl
theorem zp_lstAMA : eLstAM m e s = (m e s).bind kLstM := rfl
theorem v_seqT : seqT (.tup l) = some l := rfl
theorem v_seqTL : seqT (.lst l) = some l := rfl
theorem v_rstrip (h : a.length ≤ 10000) : mRstrip (.str a) [.str b] = some (.str (rsL a b)) := if_pos (le_lim h)
theorem v_strip (h : a.length ≤ 10000) : mStrip (.str a) [.str b] = some (.str (rsL (lsL a b) b)) := if_pos (le_lim h)
end
end
end Mr
/-! dicts: told and kept as they are, copied, their pairs walked, get -/
namespace Mr
noncomputable section
open PySem PySem.Spec PyProof.Rows L2
/-- from here on nobody changes what stands at d -/
def tFz (t : TS) : TS := fun D σ H => ∃ d u, H d = some u ∧ Mut (some u) ∧ ∀ od, t D σ (upd H d (.frz od u))
theorem ps_fz {X : Cx} {st : Stmt} {t : TS} (h : PS X st t) : PS X st (tFz t) := ⟨fun pins s σ H D I hw => by
  obtain ⟨d, u, hd, mu, hw⟩ := hw
  obtain ⟨od, I1⟩ := I.lock hd mu
  exact h.run pins s σ _ _ I1 (hw od)⟩
def gFrzD (i : Nat) : SX := fun e s => match e[i]? with
  | some (some (.obj j)) => match s.m j with
    | some (.dct t ks vs) => .nx (e.set i (some (.dct t ks vs))) (s.del j)
    | _ => .stuck
  | _ => .stuck
def isDct : PV → Bool
  | .dct _ _ _ => true
  | _ => false
def getM : PV → PV → PV → Option PV
  | .dct t ks vs, k, z => if isKey t k then some ((dget ks vs k).getD z) else none
  | _, _, _ => none
def eGet2 (fd fk fx : EX) : EX := fun e s => (fd e s).bind fun d s => if isDct (deref s d) = true then (fk e s).bind fun k s => (fx e s).bind fun z s => ofO (getM (deref s d) k z) s else .stuck
def cpD : List PV → MS → Res PV
  | [x], s => match deref s x with
    | .dct false ks vs => .ok (.obj s.n) (s.new (.dct false ks vs))
    | _ => .stuck
  | _, _ => .stuck
def eDcp (f : EX) : EX := fun e s => (eList [f] e s).bind cpD
def itemsP : PV → Option (List PV)
  | .dct false ks vs => some (zipP ks vs)
  | _ => none
def iItm (f : EX) : EA := fun e s => (f e s).bind fun x s => ofO (itemsP x) s
section
variable {K : PySem.W.Frag} {mg : MG} {g : G} {X : Cx} {W : WY} {pos : Pos} {f : EX}
theorem frzD_all {g : G} {j : Nat} {t : Bool} {ks vs : List PV} (ok : g.Ok K mg) (hm : g.s.m j = some (.dct t ks vs)) : ∃ d u, g.H d = some u ∧ Mut (some u) ∧ ∀ od, ∃ g', g'.H = upd g.H d (.frz od u) ∧ g'.s = g.s.del j ∧ g'.Ok K mg ∧ Ext g g' ∧ d = g.ρ j ∧ RelP K mg g' (.dct t ks vs) (.ref d) := by
  have hr : DkF (fun u => g.H (g.ρ j) = some u) (RelPs K mg g vs) t ks := ok.obj j _ hm
  have hlive : Live g (g.ρ j) := ⟨j, by rw [hm]; simp, rfl⟩
  obtain ⟨u, hu, mu, fin⟩ : ∃ u, g.H (g.ρ j) = some u ∧ Mut (some u) ∧ ∀ (g' : G) (od : Obj), g'.H (g.ρ j) = some (.frz od u) → Ext g g' → RelP K mg g' (.dct t ks vs) (.ref (g.ρ j)) := by
    rcases hr with ⟨e, kvs, h1, h2, h3⟩ | ⟨e, kvs, h1, h2, h3⟩
    · refine ⟨_, h1, trivial, fun g' od hg x => ?_⟩
      simp only [RelP]
      exact ⟨_, rfl, .inl ⟨e, kvs, ⟨od, hg⟩, h2, RelPs.ext ok x h3⟩⟩
    · refine ⟨_, h1, trivial, fun g' od hg x => ?_⟩
      simp only [RelP]
      exact ⟨_, rfl, .inr ⟨e, kvs, ⟨od, hg⟩, h2, RelPs.ext ok x h3⟩⟩
  refine ⟨g.ρ j, u, hu, mu, fun od => ?_⟩
  have hd2 : ∀ i o, (g.s.del j).m i = some o → i ≠ j ∧ g.s.m i = some o := fun i o h => by
    by_cases e : i = j
    · have : (if i = j then none else g.s.m i) = some o := h
      rw [if_pos e] at this; cases this
    · have : (if i = j then none else g.s.m i) = some o := h
      rw [if_neg e] at this
      exact ⟨e, this⟩
  have hd : ∀ i, (g.s.del j).m i ≠ none → i ≠ j ∧ g.s.m i ≠ none := fun i h => by
    cases q : (g.s.del j).m i with
    | none => exact absurd q h
    | some o => obtain ⟨a, b⟩ := hd2 i o q; exact ⟨a, by rw [b]; simp⟩
  have x : Ext g (G.mk (upd g.H (g.ρ j) (.frz od u)) g.Z g.ρ (g.s.del j)) :=
    { n := Nat.le_refl _, ρ := fun _ _ => rfl, Z := fun a h => h
      H := fun a o h nl => by
        show upd g.H (g.ρ j) (.frz od u) a = some o
        rw [upd_ne (fun q => nl (by rw [q]; exact hlive))]; exact h
      dom := fun a h => by
        show upd g.H (g.ρ j) (.frz od u) a ≠ none
        by_cases q : a = g.ρ j
        · rw [q, upd_same]; simp
        · rw [upd_ne q]; exact h
      zNew := fun a h => .inl h
      mNew := fun i h => .inl (hd i h).2 }
  refine ⟨G.mk (upd g.H (g.ρ j) (.frz od u)) g.Z g.ρ (g.s.del j), rfl, rfl, ?_, x, rfl, fin _ od upd_same x⟩
  exact
    { zd := fun a h => x.dom a (ok.zd a h)
      wf := fun i h => by
        have h : g.s.n ≤ i := h
        have hj := ok.lt (i := j) (by rw [hm]; simp)
        show (if i = j then none else g.s.m i) = none
        rw [if_neg (by omega)]; exact ok.wf i h
      inj := fun a b ha hb e => ok.inj a b (hd a ha).2 (hd b hb).2 e
      out := fun i hi h => ok.out i (hd i hi).2 h
      obj := fun i o hi => by
        obtain ⟨h1, h2⟩ := hd2 i o hi
        refine RelO.ext ok x (fun w q => ?_) (ok.obj i o h2)
        show upd g.H (g.ρ j) (.frz od u) (g.ρ i) = some w
        rw [upd_ne (fun q => h1 (ok.inj i j (by rw [h2]; simp) (by rw [hm]; simp) q))]; exact q }
theorem is_frzD {st : Stmt} {h : SX} (i : Nat) (hi : IS X W st h) : IS X W st (sSeq (gFrzD i) h) := PS.weak (ps_fz hi) fun D σ H q => by
  obtain ⟨g, env, rfl, ok, re, q⟩ := q
  revert q
  unfold sSeq gFrzD
  cases he : env[i]? with
  | none => exact fun q => q.elim
  | some o =>
    cases o with
    | none => exact fun q => q.elim
    | some p =>
      cases p with
      | obj j =>
        dsimp only
        cases hm : g.s.m j with
        | none => exact fun q => q.elim
        | some o =>
          cases o with
          | lst => exact fun q => q.elim
          | ins => exact fun q => q.elim
          | dct t ks vs =>
            dsimp only
            intro q
            obtain ⟨d, u, hd, mu, hall⟩ := frzD_all ok hm
            refine ⟨d, u, hd, mu, fun od => ?_⟩
            obtain ⟨g', eH, eS, ok', x, ed, r⟩ := hall od
            obtain ⟨v, hv, rv⟩ := re.at_ i _ he
            obtain ⟨hj, rfl⟩ : j < g.s.n ∧ v = .ref (g.ρ j) := by simpa only [RelP] using rv
            have re1 := re.ext ok x
            have re2 : RelEnv X.K X.mg W.b g' (env.set i (some (.dct t ks vs))) σ := ⟨by simp [re.len], fun i' a dd c p hb => re1.er i' a dd c p hb, fun k p hk => by
              by_cases e : k = i
              · subst e
                rw [List.getElem?_set_self (by have := List.getElem?_eq_some_iff.mp he; exact this.1)] at hk
                cases hk
                exact ⟨_, hv, by rw [← ed]; exact r⟩
              · rw [List.getElem?_set_ne (Ne.symm e)] at hk
                exact re1.at_ k p hk⟩
            refine ⟨g', _, eH, ok', re2, ?_⟩
            rw [eS]
            exact OutS.back ok ok' x q
      | _ => exact fun q => q.elim
theorem pvKey_rel (k : Key) : RelP K mg g (pvKey k) (kV k) := by cases k <;> (simp only [pvKey, RelP]; rfl)
theorem itRel_items {kvs : List (Key × V)} {vs : List PV} {a : Addr} {o : Obj} (h : g.H a = some (.frz o (.dK kvs))) (r : RelPs K mg g vs (kvs.map (·.2))) : ItRel K mg g (zipP (kvs.map fun p => pvKey p.1) vs) (Iti a o kvs) := by
  intro g1 x1 ok1 i
  have h2 := x1.frz a o _ h
  have hl := r.length
  rw [List.length_map] at hl
  refine ⟨fun p hp => ?_, fun q => ⟨h2, by rw [zipP_len, List.length_map] at q; omega⟩⟩
  obtain ⟨x, y, hx, hy, rfl⟩ := zipP_get _ _ _ _ hp
  rw [List.getElem?_map] at hx
  obtain ⟨kv, hk, rfl⟩ := Option.map_eq_some_iff.mp hx
  have hlt : i < kvs.length := (List.getElem?_eq_some_iff.mp hk).1
  obtain ⟨w, hw, rw'⟩ := r.get' hy
  rw [List.getElem?_map, hk] at hw
  cases hw
  refine ⟨⟨h2, hlt⟩, fun v' H' hyy => ?_⟩
  obtain ⟨T, k', w', hk', rfl, hT, rfl⟩ := hyy
  rw [hk] at hk'
  cases hk'
  exact ⟨_, rfl, G.new_ext hT, G.new_ok ok1 hT, rfl, G.new_tup ok1 hT (RelPs.cons (pvKey_rel _) (RelPs.cons (rw'.keep x1) RelPs.nil))⟩
theorem ii_items {elts : List Expr} {kk : Nat} {tpos apos : Pos} {e : Expr} (he : IE X W e f) (hbase : attributeBase e "items" X.env (eval e X.env) = eval e X.env := by rfl) (hline : (apos.endLine == pos.line) = true := by rfl) :
    II X W (.Tuple elts kk tpos) (.Call (.Attribute e "items" apos) [] [] pos) (iItm f) :=
  PI.weak (pi_items he hbase hline) fun σ H R q => by
    refine (RdA.seq (R := fun g p v => RelP X.K X.mg g p v) (f := f) (k := fun x e s => ofO (itemsP x) s) q).imp fun v H1 q => ?_
    obtain ⟨p, g, env, rfl, ok, re, r, q⟩ := q
    cases hz : itemsP p with
    | none => rw [hz] at q; exact q.elim
    | some z =>
      rw [hz] at q
      unfold itemsP at hz
      split at hz
      · cases hz
        simp only [RelP] at r
        obtain ⟨a, rfl, ⟨_, kvs, ⟨o, h1⟩, rfl, h3⟩ | ⟨z, _⟩⟩ := r
        · exact ⟨a, o, kvs, rfl, h1, OutA.ok ok q (itRel_items h1 h3)⟩
        · cases z
      · cases hz
theorem ie_get2 {o a b : Expr} {apos : Pos} {fd fk fx : EX} (hu : X.A.units + 1 < cLine) (ho : IE X W o fd) (ha : IE X W a fk) (hb : IE X W b fx) (m : M2 X o "get" apos a b pos) : IE X W (.Call (.Attribute o "get" apos) [a, b] [] pos) (eGet2 fd fk fx) :=
  PE.weak (pe_dget2 hu ho ha hb m) fun σ H Q q => by
    unfold tDGet2
    refine (RdA.seq (R := fun g p v => RelP X.K X.mg g p v) (f := fd) (k := fun d e s => if isDct (deref s d) = true then (fk e s).bind fun k s => (fx e s).bind fun z s => ofO (getM (deref s d) k z) s else .stuck) q).imp fun x H1 q => ?_
    obtain ⟨p, g, env, rfl, ok, re, r, q⟩ := q
    have rd := r.deref ok
    cases hd : isDct (deref g.s p) with
    | false => rw [hd, if_neg Bool.false_ne_true] at q; exact q.elim
    | true =>
      rw [hd, if_pos rfl] at q
      obtain ⟨a0, rfl, isd⟩ : ∃ a, x = .ref a ∧ IsD g.H a := by
        revert hd rd
        cases deref g.s p with
        | dct t ks vs =>
          intro rd _
          simp only [RelD] at rd
          obtain ⟨a, rfl, ⟨_, kvs, h1, _⟩ | ⟨_, kvs, h1, _⟩⟩ := rd
          · exact ⟨a, rfl, .inl ⟨kvs, h1⟩⟩
          · exact ⟨a, rfl, .inr ⟨kvs, h1⟩⟩
        | _ => intro _ h; cases h
      refine ⟨a0, rfl, isd, g, env, rfl, ok, re, ?_⟩
      revert q
      cases fk env g.s with
      | exc c p s' => exact id
      | stuck => exact id
      | ok k s2 =>
        intro q g2 y x2 ok2 e2 ry
        subst e2
        have q := OutA.back ok ok2 x2 q
        refine ⟨g2, env, rfl, ok2, re.ext ok x2, ?_⟩
        revert q
        simp only [bind_ok]
        cases fx env g2.s with
        | exc c p s' => exact id
        | stuck => exact id
        | ok z s3 =>
          intro q g3 zz x3 ok3 e3 rz
          subst e3
          have q := OutA.back ok2 ok3 x3 q
          simp only [bind_ok] at q
          cases hg : getM (deref g3.s p) k z with
          | none => rw [hg] at q; exact q.elim
          | some w =>
            rw [hg] at q
            have rd3 := ((r.ext ok x2).ext ok2 x3).deref ok3
            revert rd3 hg
            cases deref g3.s p with
            | dct t ks vs =>
              intro hg rd3
              have hg : (if isKey t k then some ((dget ks vs k).getD z) else none) = some w := hg
              split at hg
              · rename_i hk
                cases hg
                obtain ⟨a', o', ea, hget, d1, d2⟩ := dGet hk rd3 (ry.ext ok2 x3)
                cases ea
                refine ⟨o', hget, ?_⟩
                cases hq : dget ks vs k with
                | none =>
                  rw [hq] at q
                  rw [d2 hq]
                  exact q g3 zz (Ext.refl g3) ok3 rfl rz
                | some w =>
                  rw [hq] at q
                  obtain ⟨v, rfl, rv⟩ := d1 w hq
                  exact q g3 v (Ext.refl g3) ok3 rfl rv
              · cases hg
            | _ => intro hg _; cases hg
theorem ie_dcp {p : Pos} {a : Expr} (hg : Gl X "dict") (hm : X.mg "dict" = none) (ha : IE X W a f)
    (he : starEach [a] X.env = (false, eval a X.env) :: starEach [] X.env := by rfl) (hpl : (backTo pos (starEach [] X.env)).any (·.1) = false := by rfl) : IE X W (.Call (.Name "dict" p) [a] [] pos) (eDcp f) :=
  PE.weak (pe_callTy call_dictD hg hm rfl (ia_cons ha ia_nil he) (by decide) (by decide) he hpl) fun σ H Q q => by
    refine (RdA.seq (R := fun g p v => RelPs X.K X.mg g p v) (f := eList [f]) (k := fun xs _ s => cpD xs s) q).imp fun vs H1 q => ?_
    obtain ⟨ps, g, env, rfl, ok, re, r, q⟩ := q
    revert q
    match ps, r with
    | [], _ => exact fun q => q.elim
    | [x], r =>
      intro q
      obtain ⟨v, rfl, r1⟩ := RelDs.one (r.derefs ok)
      revert q
      show OutA X.K X.mg (fun g p v => RelP X.K X.mg g p v) g σ W (match deref g.s x with | PV.dct false ks vs => Res.ok (PV.obj g.s.n) (g.s.new (PO.dct false ks vs)) | _ => Res.stuck) Q → _
      revert r1
      cases deref g.s x with
      | dct t ks vs =>
        cases t with
        | true => exact fun _ q => q.elim
        | false =>
          intro r1 q
          simp only [RelD] at r1
          obtain ⟨b, rfl, ⟨_, kvs, h1, e1, h3⟩ | ⟨z, _⟩⟩ := r1
          · refine ⟨b, kvs, rfl, h1, fun p hp => ?_⟩
            have x := newM_ext (g := g) (u := .dK kvs) (o := .dct false ks vs) hp
            exact q (g.newM p (.dK kvs) (.dct false ks vs)) _ x (newM_ok ok hp (.inl ⟨rfl, kvs, upd_same, e1, RelPs.ext ok x h3⟩)) rfl (by
              simp only [RelP]
              exact ⟨Nat.lt_succ_self _, by simp⟩)
          · cases z
      | _ => exact fun _ q => q.elim
    | x :: y :: r', _ => exact fun q => q.elim
end
end
end Mr
namespace Mr
noncomputable section
section
variable {e : Env} {s : MS} {f fd fk fx : EX} {x k z : PV} {ks vs : List PV}
def kItm (x : PV) (s : MS) : Res (List PV) := ofO (itemsP x) s
def kGetC (d k : PV) (z : PV) (s : MS) : Res PV := ofO (getM (deref s d) k z) s
def kGetB (fx : EX) (e : Env) (d : PV) (k : PV) (s : MS) : Res PV := (fx e s).bind (kGetC d k)
def kGetA (fk fx : EX) (e : Env) (d : PV) (s : MS) : Res PV := if isDct (deref s d) = true then (fk e s).bind (kGetB fx e d) else .stuck
theorem zp_itm : iItm f e s = (f e s).bind kItm := rfl
theorem zp_itmA : kItm x s = ofO (itemsP x) s := rfl
theorem zp_get2 : eGet2 fd fk fx e s = (fd e s).bind (kGetA fk fx e) := rfl
theorem zp_get2A (h : isDct (deref s x) = true) : kGetA fk fx e x s = (fk e s).bind (kGetB fx e x) := if_pos h
theorem zp_get2B : kGetB fx e x k s = (fx e s).bind (kGetC x k) := rfl
theorem zp_get2C : kGetC x k z s = ofO (getM (deref s x) k z) s := rfl
theorem v_items : itemsP (.dct false ks vs) = some (zipP ks vs) := rfl
theorem zp_dcp : eDcp f e s = (eList [f] e s).bind cpD := rfl
theorem frzD_ap {i j : Nat} {t : Bool} (h1 : e[i]? = some (some (.obj j))) (h2 : s.m j = some (.dct t ks vs)) : gFrzD i e s = .nx (e.set i (some (.dct t ks vs))) (s.del j) := by
  unfold gFrzD; rw [h1]; dsimp only; rw [h2]
end
end
end Mr
namespace Mr
noncomputable section
open PySem PySem.Spec PyProof.Rows L2
/-! ### str.index of one sign from a place on -/
def mIndexF : PV → List PV → Option PV
  | .str a, [.str [c], .int i] => if 0 ≤ i ∧ c ∈ a.drop i.toNat then some (.int ((i.toNat + (a.drop i.toNat).idxOf c : Nat) : Int)) else none
  | _, _ => none
theorem occ_idxF (a : List Nat) (c n : Nat) (h : c ∈ a.drop n) : Builtin.Str.occurrences ⟨a.toArray⟩ ⟨#[c]⟩ n (⟨a.toArray⟩ : Str).length 1 = [n + (a.drop n).idxOf c] := by
  have hi : (a.drop n).idxOf c < (a.drop n).length := List.idxOf_lt_length_of_mem h
  have hlen : (⟨a.toArray⟩ : Str).length = a.length := strlen a
  have hi2 := hi
  rw [List.length_drop] at hi2
  have at_ : ∀ j, (j + (⟨#[c]⟩ : Str).length ≤ (⟨a.toArray⟩ : Str).length ∧ Builtin.Str.subAt ⟨a.toArray⟩ ⟨#[c]⟩ j = true) ↔ a[j]? = some c := fun j => by
    rw [StrLaws.subAt_one]
  have hget : a[n + (a.drop n).idxOf c]? = some c := by
    rw [← List.getElem?_drop, List.getElem?_eq_getElem hi]; congr 1; exact List.getElem_idxOf hi
  have hit := (at_ (n + (a.drop n).idxOf c)).mpr hget
  have hr : List.range' n ((⟨a.toArray⟩ : Str).length + 1 - n) = List.range' n ((a.drop n).idxOf c) ++ (n + (a.drop n).idxOf c) :: List.range' (n + (a.drop n).idxOf c + 1) (a.length - n - (a.drop n).idxOf c) := by
    rw [hlen]
    have e : a.length + 1 - n = (a.drop n).idxOf c + (a.length - n - (a.drop n).idxOf c + 1) := by omega
    rw [e, ← List.range'_append_1, List.range'_succ]
  rw [StrLaws.occ_eq, hr, occ_first _ _ _ (n + (a.drop n).idxOf c) _ _ n (fun j hj => (List.mem_range'_1.mp hj).1) (Nat.le_add_right _ _) (fun j hj q => ?_) hit.1 hit.2]
  have hj' := List.mem_range'_1.mp hj
  have e := (at_ j).mp q
  have e2 : (a.drop n)[j - n]? = some c := by rw [List.getElem?_drop, show n + (j - n) = j by omega]; exact e
  have hjl : j - n < (a.drop n).length := by omega
  rw [List.getElem?_eq_getElem hjl] at e2
  have q2 := List.not_of_lt_findIdx (p := (· == c)) (xs := a.drop n) (show j - n < (a.drop n).idxOf c by omega)
  rw [Option.some.inj e2] at q2
  simp at q2
section
variable {K : PySem.W.Frag} {mg : MG} {g : G} {X : Cx}
theorem m_indexF (hc : X.calm = true) : MtR X "str.index" (MtM' X.K X.mg mIndexF) := by
  intro pins s σ H x xs v us Q I rx rv ⟨g, p, ps, z, eH, ok, r1, r2, hz, q⟩
  subst eH
  unfold mIndexF at hz
  split at hz
  · rename_i a c i
    split at hz
    · rename_i hm
      cases hz
      obtain ⟨w, w2, rfl, r3, r4⟩ := r2.two
      obtain rfl := relS r1
      obtain rfl := relS r3
      obtain rfl := relI r4
      have hn : PySem.Txt.indexFrom ⟨a.toArray⟩ ⟨#[c]⟩ i = some (i.toNat + (a.drop i.toNat).idxOf c) := by
        unfold PySem.Txt.indexFrom
        have ef : PySem.fromIndex (⟨a.toArray⟩ : Str).length i = i.toNat := by
          unfold PySem.fromIndex
          rw [if_neg (by omega)]
          congr 1
          omega
        rw [ef, occ_idxF a c _ hm.2]; rfl
      refine mt_indexFromX (W := fun _ _ _ _ => False) hc (fun u s' h => ?_) pins s σ g.H _ _ v us Q I rx rv ⟨⟨a.toArray⟩, ⟨#[c]⟩, i, rfl, rfl, fun k hk => ?_, fun hk => ?_⟩
      · obtain ⟨_, _, _, _, _, _, _, _, _, _, _, _, _, _, _, _, f⟩ := h
        exact f.elim
      · rw [hn] at hk
        cases hk
        exact fin_int ok q
      · rw [hn] at hk; cases hk
    · cases hz
  · cases hz
end
theorem v_idxF {a : List Nat} {c n : Nat} (h : c ∈ a.drop n) : mIndexF (.str a) [.str [c], .int (n : Nat)] = some (.int ((n + (a.drop n).idxOf c : Nat) : Int)) := by
  show (if (0 : Int) ≤ (n : Nat) ∧ c ∈ a.drop ((n : Nat) : Int).toNat then _ else _) = _
  rw [Int.toNat_natCast, if_pos ⟨by omega, h⟩]
end
end Mr
namespace Mr
open PySem PySem.Spec PyProof.Rows L2
/-- a class of errors and a built-in one that may be asked for -/
def BltIn (K : PySem.W.Frag) (d : Str) (T : String) (b : Bool) : Prop := ∃ D, PySem.W.nsIn K mainGlobals d = some (some (.ref D)) ∧ PySem.W.kitOne K (.ref D) (.type T) = some b
theorem bltIn_of {K : PySem.W.Frag} {d : Str} {T : String} {D : Addr} {b : Bool} (a1 : PySem.W.nsIn K mainGlobals d = some (some (.ref D))) (h : PySem.W.subIn K (.ref D) (.type T) = some b) (hk : PySem.W.kitMeta T = true) : BltIn K d T b := by
  refine ⟨D, a1, ?_⟩
  show (if ((Value.ref D) == .type T) = true then some true else PySem.W.kitCls K (.ref D) (.type T)) = some b
  rw [if_neg (by simp)]
  show (if PySem.W.kitMeta T = true then PySem.W.subIn K (.ref D) (.type T) else none) = some b
  rw [if_pos hk]; exact h
theorem blts_get {K : PySem.W.Frag} {mg : MG} {h : Heap} {T : String} {cs : List String} (X : K.In h) (G : h.Ns mainGlobals mg) (a : ∀ d ∈ cs, BltIn K (Str.ofString d) T (subE d T)) :
    ∀ d ∈ cs, ∀ D, mg (Str.ofString d) = some (.ref D) → PySem.W.kitOne K (.ref D) (.type T) = some (subE d T) := fun d hd D hm => by
  obtain ⟨D', e1, e2⟩ := a d hd
  rw [PySem.W.mg_of X G e1] at hm
  cases hm
  exact e2
end Mr
/-! sorted of a dict of texts, however many -/
namespace Mr
noncomputable section
open PySem PySem.Spec PyProof.Rows L2
def isTxt : PV → Bool
  | .str _ => true
  | _ => false
def bSortD : List PV → Option PV
  | [.dct false ks _] => if (sortable ks && ks.all isTxt) = true then some (.lst (sortV ks)) else none
  | [.lst l] => bSorted [.lst l]
  | _ => none
section
variable {K : PySem.W.Frag} {mg : MG} {g : G} {X : Cx}
theorem strs_pv' {ks : List (Key × V)} (h : (ks.map fun p => pvKey p.1).all isTxt = true) : ∃ ss : List Str, ks.map (·.1) = ss.map Sum.inr ∧ (ks.map fun p => pvKey p.1) = (ss.map fun s => s.cps.toList).map .str :=
  strs_pv (by
    rw [List.all_eq_true] at h ⊢
    intro x hx
    have := h x hx
    cases x <;> first | rfl | cases this)
theorem c_sortD (hu : X.A.units + 66 < cLine) (hc : X.calm = true) : CallR X (.builtin "sorted") (CalM X.K X.mg bSortD) := by
  intro pins s σ H xs us Q I r ⟨g, ps, z, eH, ok, rd, hz, q⟩
  subst eH
  unfold bSortD at hz
  split at hz
  · split at hz
    · rename_i ks _ hl
      simp only [Bool.and_eq_true] at hl
      cases hz
      obtain ⟨v, rfl, r1⟩ := rd.one
      simp only [RelD] at r1
      obtain ⟨a, rfl, ⟨_, kvs, h1, rfl, h3⟩ | ⟨e, _⟩⟩ := r1
      · have hb := sb_of hl.1
        obtain ⟨kss, k1, k2⟩ := strs_pv' hl.2
        obtain ⟨u, rfl, ru⟩ := vals1 r
        cases ru
        obtain ⟨zz, lo, vs, rel, dd⟩ := dk_rd I.hok h1
        obtain ⟨ep, hat⟩ := dd.dictAt
        have hkeys : vs.map (·.1) = kss.map Sum.inr := rel.keys.symm.trans k1
        have hl2 : vs.length = kss.length := by
          have e := congrArg List.length hkeys
          rw [List.length_map, List.length_map] at e
          exact e
        have h16 : vs.length ≤ sizeLine := by rw [← rel.length]; exact zz
        refine PySem.Calls.call_function_entry PyProof.Rows.kind_sorted PyProof.Rows.plain_sorted PyProof.Rows.entry_sorted (PyProof.Rows.args_sorted1 _) ?_
        unfold Builtin.«sorted»
        refine wpAny_bind (m := checkCount "sorted" 1 1 _) (wpAny_pure ?_)
        refine wpAny_bind (PySem.W.kdu_collect (A := X.A.in1) (PySem.W.kdl_dict (knd := mixKind X.prog X.w) (kvs := vs) (ep := ep) lo) (I.ok.hd hc) hat h16 fun h' tk acc hk hacc => ?_)
        have hal : acc.toList.length = kss.length := by rw [Array.length_toList, hacc.1, hl2]
        have hS : StrsAre acc.toList kss := strs_at hal fun j v e => by
          obtain ⟨k, x, e1, e2⟩ := hacc.2 j v (by rw [← Array.getElem?_toList]; exact e)
          have e3 : (vs.map (·.1))[j]? = some k := by rw [List.getElem?_map, e1]; rfl
          rw [hkeys, List.getElem?_map] at e3
          cases e4 : kss[j]? with
          | none => rw [e4] at e3; cases e3
          | some y =>
            rw [e4] at e3
            have e5 : Sum.inr y = k := Option.some.inj e3
            subst e5
            obtain ⟨t, ev⟩ := Value.isStrOf_shape (x := y) (v := v) e2
            exact ⟨y, t, rfl, ev⟩
        have I1 : L2.Inv X pins σ g.H { s with heap := h', toks := tk } := I.kept hk
        have rv : Vals (kss.map V.str) acc.toList := vals_of_strs hS
        have rp : RelPs X.K X.mg g (kvs.map fun p => pvKey p.1) (kss.map V.str) := by
          rw [k2]
          have e2 : kss.map V.str = ((kss.map fun s => s.cps.toList).map mkS).map V.str := by
            rw [List.map_map, List.map_map]
            apply List.map_congr_left
            intro y _
            simp [mkS]
          rw [e2]
          exact RelPs.strs _
        generalize (kvs.map fun p => pvKey p.1) = l at *
        have hE := each_of rp rv
        have hlen : acc.toList.length = l.length := by rw [← rv.length, rp.length]
        have halk : PySem.W.AllAlike (l.map toD) := fun d hd d' hd' => by
          obtain ⟨x, hx, rfl⟩ := List.mem_map.mp hd
          obtain ⟨y, hy, rfl⟩ := List.mem_map.mp hd'
          rw [toD_alike x y (isDs_mem hb.d x hx) (isDs_mem hb.d y hy)]
          exact hb.al x hx y hy
        have hsrt : PySem.W.Sortable (l.map toD) := by
          right
          intro d hd
          obtain ⟨x, hx, rfl⟩ := List.mem_map.mp hd
          have h1 := List.all_eq_true.mp hl.2 x hx
          cases x <;> simp_all [isTxt, toD]
        have hsl : acc.toList.length ≤ sizeLine := by rw [hlen, ← sizeLIM]; exact hb.sz
        refine wpAny_bind (wpAny_newList ?_ hsl)
        have hoL : (h'.push (seqObj "list" acc.toList.toArray 0)).get? h'.objs.size = some (seqObj "list" acc.toList.toArray 0) := Heap.get?_push_size _ rfl
        show wpAny _ _ _ _ _ { s with heap := h'.push (seqObj "list" acc.toList.toArray 0), toks := tk }
        have hsz2 : (h'.push (seqObj "list" acc.toList.toArray 0)).objs.size = h'.objs.size + 1 := size_push' _ _
        have er : PySem.W.EachIs (fun v p => ∃ as, Reads (PySem.W.sortingHeap (h'.push (seqObj "list" acc.toList.toArray 0)) h'.objs.size acc.toList) v (toD p) as) acc.toList l :=
          each_imp hE fun v p hp ⟨w, rw', rp'⟩ => by
            obtain ⟨as, q⟩ := Dp.reads I1 _ w v (RelP.dp p w (isDs_mem hb.d p hp) rp') rw'
            exact ⟨as, Reads.keeps (fun b o e => PySem.W.sortingHeap_old (Nat.ne_of_lt (Heap.lt_size e)) (Heap.get?_push_of_some _ e)) q⟩
        have S := PySem.W.SortsAt.data (prog := X.prog) (w := X.w) (A := X.A.in1.in1) (s := { s with heap := PySem.W.sortingHeap (h'.push (seqObj "list" acc.toList.toArray 0)) h'.objs.size acc.toList, toks := tk }) (PySem.W.each_map (R := fun v d => ∃ as, Reads (PySem.W.sortingHeap (h'.push (seqObj "list" acc.toList.toArray 0)) h'.objs.size acc.toList) v d as) toD er) halk hsrt (fun d hd => by
          obtain ⟨x, hx, rfl⟩ := List.mem_map.mp hd
          rw [toD_dep]
          have := deps_mem hx
          have := hb.dp
          show X.A.units + 1 + 1 + _ < _
          omega)
        refine wpAny_bind (wpAny_holding (wpAny_call_entry PyProof.Rows.slot_list_sort ⟨_, hoL, rfl⟩ PyProof.Rows.entry_list_sort
          (PySem.W.list_sort_vals (s := { s with heap := h'.push (seqObj "list" acc.toList.toArray 0), toks := tk }) hoL S hsl ⟨_, rfl, ?_⟩)
          (PyProof.Rows.args_list_sort _)))
        have hout := PySem.W.sortVals_data false hE er halk
        have hol := PySem.W.sortVals_length (κ := PySem.W.dataKind (PySem.W.sortingHeap (h'.push (seqObj "list" acc.toList.toArray 0)) h'.objs.size acc.toList) (l.map toD)) false (ks := acc.toList) (vs := acc.toList) rfl
        rw [PySem.W.sort_congr (dataLe_leV hb)] at hout
        obtain ⟨ws, rw1, rw2⟩ := of_each hout
        obtain ⟨e', he'⟩ := PyProof.Rows.sortedHeap_at (vs := acc.toList) (out := (PySem.W.sortVals (PySem.W.dataKind (PySem.W.sortingHeap (h'.push (seqObj "list" acc.toList.toArray 0)) h'.objs.size acc.toList) (l.map toD)) false acc.toList acc.toList).toArray) hoL
        have I2 := I1.laid (o := .lst ws) (a := h'.objs.size) (h' := PyProof.Rows.sortedHeap (h'.push (seqObj "list" acc.toList.toArray 0)) h'.objs.size acc.toList (PySem.W.sortVals (PySem.W.dataKind (PySem.W.sortingHeap (h'.push (seqObj "list" acc.toList.toArray 0)) h'.objs.size acc.toList) (l.map toD)) false acc.toList acc.toList).toArray) (t' := tk) (fun b u e => by
          have hb' : b < h'.objs.size := Heap.lt_size e
          rw [PyProof.Rows.sortedHeap_old (Nat.ne_of_lt hb') (by rw [hsz2]; exact Nat.lt_succ_of_lt hb')]
          exact Heap.get?_push_of_some _ e) (Nat.le_refl _) ⟨by rw [rw1.length, hol]; exact hsl, _, e', rw1, he'⟩
        exact wpAny_pure ⟨_, rfl, .ref h'.objs.size, _, I2, rfl, fin_lst ok rw2 q _ (I1.hok.fresh (Nat.le_refl _))⟩
      · cases e
    · cases hz
  · exact c_sorted hu hc pins s σ g.H xs us Q I r ⟨g, _, z, rfl, ok, rd, hz, q⟩
  · cases hz
end
end
end Mr
/-! lists made of lists, that will be changed -/
namespace Mr
noncomputable section
open PySem PySem.Spec PyProof.Rows L2
def mCat : PV → PV → Option (List PV)
  | .lst a, .lst b => if a.length + b.length ≤ LIM then some (a ++ b) else none
  | _, _ => none
def mRep : PV → PV → Option (List PV)
  | .lst a, .int k => if a.length * k.toNat ≤ LIM ∧ fits 62 k = true then some (List.replicate k.toNat a).flatten else none
  | _, _ => none
def mkM : Option (List PV) → MS → Res PV
  | some l, s => .ok (.obj s.n) (s.new (.lst l))
  | none, _ => .stuck
def eBinM (m : PV → PV → Option (List PV)) (f h : EX) : EX := fun e s => (f e s).bind fun x s => (h e s).bind fun y s => mkM (m (deref s x) (deref s y)) s
def OpMM (K : PySem.W.Frag) (mg : MG) (m : PV → PV → Option (List PV)) : R2 := fun x y H Q =>
  ∃ g px py l, g.H = H ∧ g.Ok K mg ∧ RelD K mg g px x ∧ RelD K mg g py y ∧ m px py = some l ∧ ∀ vs p, RelPs K mg g l vs → g.H p = none → Q (.ref p) (upd g.H p (.lst vs))
section
variable {K : PySem.W.Frag} {mg : MG} {g : G} {X : Cx} {W : WY} {pos : Pos}
theorem RdE.opM {m : PV → PV → Option (List PV)} {f h : EX} {σ : L2.St} {H : Hp} {Q : VK} (q : RdE K mg W (eBinM m f h) σ H Q) : tOp (OpMM K mg m) (RdE K mg W f) (RdE K mg W h) σ H Q := by
  unfold tOp
  have q1 := RdA.seq (R := fun g p v => RelP K mg g p v) (f := f) (k := fun x e s => (h e s).bind fun y s => mkM (m (deref s x) (deref s y)) s) q
  obtain ⟨g, env, e, ok, re, q1⟩ := q1
  refine ⟨g, env, e, ok, re, ?_⟩
  revert q1
  cases f env g.s with
  | exc c p s' => exact id
  | stuck => exact id
  | ok x s1 =>
    intro q1 g' v x' ok' es r
    obtain ⟨px, g2, env2, e2, ok2, re2, r2, q2⟩ := q1 g' v x' ok' es r
    refine ⟨g2, env2, e2, ok2, re2, ?_⟩
    revert q2
    cases h env2 g2.s with
    | exc c p s' => exact id
    | stuck => exact id
    | ok y s2 =>
      intro q2 g3 w x3 ok3 es3 r3
      have rx := r2.ext ok2 x3
      change OutA K mg _ g2 σ W (mkM (m (deref s2 px) (deref s2 y)) s2) Q at q2
      cases ho : m (deref s2 px) (deref s2 y) with
      | none => rw [ho] at q2; exact q2.elim
      | some l =>
        rw [ho] at q2
        rw [← es3] at ho
        refine ⟨g3, _, _, l, rfl, ok3, rx.deref ok3, r3.deref ok3, ho, fun vs p rl hp => ?_⟩
        have x4 := newM_ext (g := g3) (u := .lst vs) (o := .lst l) hp
        refine q2 (g3.newM p (.lst vs) (.lst l)) _ (x3.trans ok2 ok3 x4) (newM_ok ok3 hp ⟨vs, upd_same, rl.ext ok3 x4⟩) (by rw [← es3]) ?_
        rw [← es3]
        simp only [RelP]
        exact ⟨Nat.lt_succ_self _, by simp⟩
theorem ie_binM {op : Operator} {m : PV → PV → Option (List PV)} {a b : Expr} {f h : EX} (ho : OpR X (binaryOp op) (OpMM X.K X.mg m)) (ha : IE X W a f) (hb : IE X W b h) : IE X W (.BinOp a op b pos) (eBinM m f h) :=
  PE.weak (pe_op ho ha hb) fun σ H Q q => RdE.opM q
theorem o_catM : OpR X (binaryOp .Add) (OpMM X.K X.mg mCat) := by
  intro pins s σ H x y v u Q I rx ry ⟨g, px, py, z, eH, ok, r1, r2, hz, q⟩
  subst eH
  unfold mCat at hz
  split at hz
  · split at hz
    · rename_i hl
      cases hz
      obtain ⟨a, xs, rfl, ha, ra⟩ := relL r1
      obtain ⟨b, ys, rfl, hb, rb⟩ := relL r2
      exact op_cat pins s σ g.H _ _ v u Q I rx ry ⟨a, b, xs, ys, rfl, rfl, ha, hb, by rw [← ra.length, ← rb.length]; exact toSz hl, fun p hp => q _ p (ra.append rb) hp⟩
    · cases hz
  · cases hz
theorem o_repM : OpR X (binaryOp .Mult) (OpMM X.K X.mg mRep) := by
  intro pins s σ H x y v u Q I rx ry ⟨g, px, py, z, eH, ok, r1, r2, hz, q⟩
  subst eH
  unfold mRep at hz
  split at hz
  · rename_i a k
    split at hz
    · rename_i hl
      obtain ⟨h0, h12⟩ := hl
      obtain ⟨h1, h2⟩ := fits_iff.mp h12
      cases hz
      obtain ⟨p, xs, rfl, ha, ra⟩ := relL r1
      obtain rfl := relI r2
      have rep : ∀ n : Nat, RelPs X.K X.mg g (List.replicate n a).flatten (List.replicate n xs).flatten := by
        intro n
        induction n with
        | zero => exact RelPs.nil
        | succ n ih => rw [List.replicate_succ, List.replicate_succ, List.flatten_cons, List.flatten_cons]; exact ra.append ih
      exact op_rep pins s σ g.H _ _ v u Q I rx ry ⟨p, k, xs, rfl, rfl, ha, by omega, by omega, by rw [← ra.length, ← sizeLIM]; exact h0, fun p hp => q _ p (rep _) hp⟩
    · cases hz
  · cases hz
end
end
end Mr
namespace Mr
noncomputable section
section
variable {m : PV → PV → Option (List PV)} {f h : EX} {e : Env} {s : MS} {x y : PV} {a b l : List PV} {k : Nat}
def kBinMA (m : PV → PV → Option (List PV)) (h : EX) (e : Env) (x : PV) (s : MS) : Res PV := (h e s).bind fun y s => mkM (m (deref s x) (deref s y)) s
def kBinMB (m : PV → PV → Option (List PV)) (x y : PV) (s : MS) : Res PV := mkM (m (deref s x) (deref s y)) s
theorem zp_binM : eBinM m f h e s = (f e s).bind (kBinMA m h e) := rfl
theorem zp_binMA : kBinMA m h e x s = (h e s).bind (kBinMB m x) := rfl
theorem zp_binMB : kBinMB m x y s = mkM (m (deref s x) (deref s y)) s := rfl
theorem mkM_some : mkM (some l) s = .ok (.obj s.n) (s.new (.lst l)) := rfl
theorem v_mCat (h : a.length + b.length ≤ 10000) : mCat (.lst a) (.lst b) = some (a ++ b) := if_pos (le_lim h)
theorem v_mRep (h : a.length * k ≤ 10000) (h1 : k ≤ 1000000000) : mRep (.lst a) (.int (k : Nat)) = some (List.replicate k a).flatten := by
  show (if a.length * ((k : Nat) : Int).toNat ≤ LIM ∧ fits 62 ((k : Nat) : Int) = true then some (List.replicate ((k : Nat) : Int).toNat a).flatten else none) = _
  rw [Int.toNat_natCast, if_pos ⟨le_lim h, fitsK (by omega) (by omega)⟩]
end
end
end Mr
/-! str.startswith -/
namespace Mr
noncomputable section
open PySem PySem.Spec PyProof.Rows L2
section
variable {K : PySem.W.Frag} {mg : MG} {g : G} {X : Cx}
theorem starts_mk (a b : List Nat) : PySem.Txt.startswith (mkS a) (mkS b) = b.isPrefixOf a := by
  unfold PySem.Txt.startswith
  have h1 : (mkS a).length = a.length := strlen a
  have h2 : (mkS b).length = b.length := strlen b
  rw [PySem.StrLaws.subAt_eq, h1, h2, Nat.zero_add, List.drop_zero]
  show (decide (b.length ≤ a.length) && (a.toArray.toList.take b.length == b.toArray.toList)) = _
  rw [Bool.eq_iff_iff, Bool.and_eq_true, decide_eq_true_eq, beq_iff_eq, List.isPrefixOf_iff_prefix]
  constructor
  · rintro ⟨_, h⟩
    rw [List.prefix_iff_eq_take]
    exact h.symm
  · intro h
    exact ⟨h.length_le, (List.prefix_iff_eq_take.mp h).symm⟩
theorem m_starts : MtR X "str.startswith" (MtM' X.K X.mg mStarts) := by
  intro pins s σ H x xs v us Q I rx rv ⟨g, p, ps, z, eH, ok, r1, r2, hz, q⟩
  subst eH
  unfold mStarts at hz
  split at hz
  · rename_i a b
    cases hz
    obtain ⟨w, rfl, r3⟩ := r2.one
    obtain rfl := relS r1
    obtain rfl := relS r3
    exact mt_startswith pins s σ g.H _ _ v us Q I rx rv ⟨mkS a, mkS b, rfl, rfl, by rw [starts_mk]; exact fin_bl ok q⟩
  · cases hz
theorem v_starts {a b : List Nat} : mStarts (.str a) [.str b] = some (.bl (b.isPrefixOf a)) := rfl
end
end
end Mr
/-! sorted(set(..)) of texts or of whole numbers -/
namespace Mr
noncomputable section
open PySem PySem.Spec PyProof.Rows L2
/-- the key that a value is -/
def kOf : Value → Option Key
  | .int i _ => some (.inl i)
  | .str x _ => some (.inr x)
  | _ => none
theorem is_kOf {P : Program} {w : World} {k : Key} {v : Value} : (mixKind P w).is k v = true ↔ kOf v = some k := by
  constructor
  · intro h
    rcases keyIs_shape h with ⟨i, t, rfl, rfl⟩ | ⟨x, t, rfl, rfl⟩ <;> rfl
  · intro h
    cases v <;> first | cases h | skip
    · exact mixKind_int P w _ _
    · exact mixKind_str P w _ _
theorem kOf_scan {k : Key} {v : Value} (h : kOf v = some k) : v.scannable = true := by
  cases v <;> first | rfl | cases h
theorem kOf_rel {k : Key} {v : Value} (h : kOf v = some k) : RelV (kV k) v := by
  cases v <;> first | cases h | skip
  · exact ⟨_, rfl⟩
  · exact ⟨_, rfl⟩
theorem rel_kOf {k : Key} {v : Value} (h : RelV (kV k) v) : kOf v = some k := by
  cases k with
  | inl i => obtain ⟨t, e⟩ := (show ∃ t, v = Value.int i t from h); rw [e]; rfl
  | inr x => obtain ⟨t, e⟩ := (show ∃ t, v = Value.str x t from h); rw [e]; rfl
/-- one key more -/
def addK (ks : List Key) (k : Key) : List Key := @ite _ (k ∈ ks) (Classical.propDecidable _) ks (ks ++ [k])
theorem addK_mem {ks : List Key} {k : Key} (h : k ∈ ks) : addK ks k = ks := by unfold addK; exact if_pos h
theorem addK_not {ks : List Key} {k : Key} (h : k ∉ ks) : addK ks k = ks ++ [k] := by unfold addK; exact if_neg h
/-- a set of keys at D -/
def SG (P : Program) (w : World) (h : Heap) (D : Addr) (ks : List Key) : Prop :=
  ∃ ob rs ep tb, h.get? D = some ob ∧ ob.cls = .type "set" ∧ ob.data = .set rs ep tb ∧ ElemsOf (mixKind P w) rs.toList ∧ (rs.toList.map fun r => kOf r.2).Perm (ks.map some) ∧
    rs.size < scanBound ∧ tb.fits rs.size = true ∧ Ris tb.place.toList ∧ (w.params.followText "set-order" = true ∨ tb.led = true)
section
variable {P : Program} {w : World} {A : Around} {E : Value → Shared → Prop} {s : Shared} {D : Addr} {ks : List Key}
theorem SG.at {h h' : Heap} (R : SG P w h D ks) (hk : ∀ o, h.get? D = some o → h'.get? D = some o) : SG P w h' D ks := by
  obtain ⟨ob, rs, ep, tb, h1, rest⟩ := R
  exact ⟨ob, rs, ep, tb, hk ob h1, rest⟩
theorem sg_tail {gw : Bool → Sem Unit} (hgw : ∀ (b : Bool) (s1 : Shared) (K : Unit → Shared → Prop), K () s1 → wpAny (model P w) A (gw b) K E s1)
    {ob : Obj} {rs : Array (Int × Value)} {ep : Nat} {tb : SetTable} (h1 : s.heap.get? D = some ob) (hcl : ob.cls = .type "set") (h2 : ob.data = .set rs ep tb)
    {rs1 : Array (Int × Value)} {tb2 : SetTable} {ks' : List Key} (el : ElemsOf (mixKind P w) rs1.toList) (pm : (rs1.toList.map fun r => kOf r.2).Perm (ks'.map some))
    (hb : rs1.size < scanBound) (hf : tb2.fits rs1.size = true) (hr : Ris tb2.place.toList) (hl : w.params.followText "set-order" = true ∨ tb2.led = true) {wd : Bool} {K : Option Bool → Shared → Prop}
    (hK : ∀ h', Heap.SameBut D s.heap h' → SG P w h' D ks' → K (some true) { s with heap := h' }) :
    wpAny (model P w) A (do
        storeSet D rs1 tb2
        if (!wd && tb2.tooFull) = true then do
            gw (relayAll tb2 rs1 (SetTable.grown rs1.size)).2.2
            storeSet D (relayAll tb2 rs1 (SetTable.grown rs1.size)).1 (relayAll tb2 rs1 (SetTable.grown rs1.size)).2.1
            pure (some true)
          else pure (some true)) K E s := by
  refine wpAny_bind (wpAny_storeSet_of h1 h2 ?_ (fits_of_scanBound hb))
  have at1 := store_at (es' := rs1) (t' := tb2) h1 h2
  have same1 := Heap.SameBut.update s.heap D (Obj.putSet rs1 tb2)
  split
  · have p2 := relayAll_perm tb2 rs1 (SetTable.grown rs1.size)
    have f2 := relayAll_fits tb2 rs1 (SetTable.grown rs1.size)
    have r2 := relayAll_ris tb2 rs1 (SetTable.grown rs1.size)
    have l2 := relayAll_led tb2 rs1 (SetTable.grown rs1.size)
    generalize relayAll tb2 rs1 (SetTable.grown rs1.size) = Z at p2 f2 r2 l2 ⊢
    obtain ⟨rs2, tb3, gv⟩ := Z
    dsimp only at p2 f2 r2 l2 ⊢
    have n2 : rs2.size = rs1.size := by rw [← Array.length_toList, p2.length_eq, Array.length_toList]
    have b2 : rs2.size < scanBound := by omega
    refine wpAny_bind (hgw _ _ _ ?_)
    refine wpAny_bind (wpAny_storeSet_of at1 rfl ?_ (fits_of_scanBound b2))
    have at2 := store_at (es' := rs2) (t' := tb3) at1 rfl
    refine wpAny_pure (hK _ (same1.trans (Heap.SameBut.update _ D _)) ⟨_, rs2, _, tb3, at2, hcl, rfl, fun r hr => el r (p2.mem_iff.mp hr), (p2.map _).trans pm, b2, f2, r2, ?_⟩)
    rcases hl with z | z
    · exact .inl z
    · exact .inr (by rw [l2]; exact z)
  · exact wpAny_pure (hK _ same1 ⟨_, rs1, _, tb2, at1, hcl, rfl, el, pm, hb, hf, hr, hl⟩)
theorem sg_size {h : Heap} {rs : Array (Int × Value)} (pm : (rs.toList.map fun r => kOf r.2).Perm (ks.map some)) : rs.size = ks.length := by
  have := pm.length_eq
  rwa [List.length_map, List.length_map, Array.length_toList] at this
theorem sg_add {k : Key} {u : Value} {Q : Bool → Shared → Prop} (hu : kOf u = some k) (R : SG P w s.heap D ks) (room : ks.length + 1 < scanBound)
    (hQ : ∀ (b : Bool) h', Heap.SameBut D s.heap h' → SG P w h' D (addK ks k) → Q b { s with heap := h' }) :
    wpAny (model P w) A (setAddHashed D u ((mixKind P w).hash k)) Q E s := by
  obtain ⟨ob, rs, ep, tb, h1, hcl, h2, el, pm, hb, hf, hr, hl⟩ := R
  have hn := sg_size (h := s.heap) pm
  have key : (mixKind P w).is k u = true := is_kOf.mpr hu
  have scan : u.scannable = true := kOf_scan hu
  unfold setAddHashed setAddHashedIn
  refine wpAny_holding (wpAny_bind (wpAny_setState_of h1 h2 hf ?_))
  dsimp only
  rw [byScan_of scan hb el]
  simp only [↓reduceIte]
  unfold setAddByScan
  refine wpAny_bind (wpAny_bind (wpAny_rule ?_))
  refine wpAny_bind (wpAny_setScan_of key h1 h2 hf el ?_)
  cases hfi : List.findIdx? (fun r => (mixKind P w).is k r.2) rs.toList with
  | some j =>
    dsimp only
    obtain ⟨hj, pj, _⟩ := List.findIdx?_eq_some_iff_getElem.mp hfi
    have hmem : k ∈ ks := by
      have : some k ∈ rs.toList.map fun r => kOf r.2 := List.mem_map.mpr ⟨_, List.getElem_mem hj, is_kOf.mp pj⟩
      obtain ⟨k', hk', e⟩ := List.mem_map.mp (pm.mem_iff.mp this)
      cases e; exact hk'
    refine wpAny_pure (wpAny_pure ?_)
    refine hQ _ s.heap (Heap.SameBut.refl D s.heap) ?_
    rw [addK_mem hmem]
    exact ⟨ob, rs, ep, tb, h1, hcl, h2, el, pm, hb, hf, hr, hl⟩
  | none =>
    dsimp only
    have hno : k ∉ ks := fun z => by
      have : some k ∈ rs.toList.map fun r => kOf r.2 := pm.mem_iff.mpr (List.mem_map.mpr ⟨k, z, rfl⟩)
      obtain ⟨r, hr1, q⟩ := List.mem_map.mp this
      have c := List.findIdx?_eq_none_iff.mp hfi r hr1
      rw [is_kOf.mpr q] at c
      cases c
    have gave : ∀ (b : Bool) {s1 : Shared} {K : Unit → Shared → Prop}, K () s1 → wpAny (model P w) A (match b with | true => rule "set.scan.the-table-gave-way" | false => pure ()) K E s1 :=
      fun b s1 K q => by cases b <;> first | exact wpAny_pure q | exact wpAny_rule q
    have p1 := layNew_perm tb rs ((mixKind P w).hash k) u
    have f1 := layNew_fits tb rs ((mixKind P w).hash k) u
    have r1 := layNew_ris tb rs ((mixKind P w).hash k) u hr
    have l1 := layNew_led tb rs ((mixKind P w).hash k) u
    generalize layNew tb rs ((mixKind P w).hash k) u = Z at p1 f1 r1 l1 ⊢
    obtain ⟨rs1, tb1, wd, gv⟩ := Z
    dsimp only at p1 f1 r1 l1 ⊢
    rw [Array.toList_push] at p1
    have pc : rs1.toList.Perm (rs.toList ++ [((mixKind P w).hash k, u)]) := p1
    have el1 : ElemsOf (mixKind P w) rs1.toList := fun r hr1 => by
      rcases List.mem_append.mp (pc.mem_iff.mp hr1) with z | z
      · exact el r z
      · rw [List.mem_singleton.mp z]; exact ⟨⟨k, key, rfl⟩, scan⟩
    have pm1 : (rs1.toList.map fun r => kOf r.2).Perm ((ks ++ [k]).map some) := by
      refine (pc.map _).trans ?_
      rw [List.map_append, List.map_append]
      refine pm.append ?_
      show [kOf u].Perm [some k]
      rw [hu]
    have n1 : rs1.size = ks.length + 1 := by rw [sg_size (h := s.heap) pm1, List.length_append]; rfl
    have b1 : rs1.size < scanBound := by omega
    have led1 : w.params.followText "set-order" = true ∨ tb1.led = true := by
      rcases hl with z | z
      · exact .inl z
      · exact .inr (by rw [l1]; exact z)
    have fin : ∀ h', Heap.SameBut D s.heap h' → SG P w h' D (ks ++ [k]) → Q true { s with heap := h' } := fun h' sb r => hQ true h' sb (by rw [addK_not hno]; exact r)
    refine wpAny_bind (gave _ ?_)
    split
    · refine wpAny_bind ?_
      rw [hashByValue_scannable 8 scan]
      refine wpAny_pure ?_
      refine sg_tail ?_ h1 hcl h2 el1 pm1 b1 ?_ ?_ ?_ ?_
      · intro b s1 K q; cases b <;> first | exact wpAny_pure q | exact wpAny_rule q
      · first | (split <;> first | exact f1 | exact SetTable.fits_plain_off f1) | exact f1
      · first | (split <;> exact r1) | exact r1
      · first | (split <;> exact led1) | exact led1
      · intro h' sb r; dsimp only; exact wpAny_pure (fin h' sb r)
    · refine wpAny_bind (wpAny_pure ?_)
      simp only [↓reduceIte]
      refine sg_tail ?_ h1 hcl h2 el1 pm1 b1 f1 r1 led1 ?_
      · intro b s1 K q; cases b <;> first | exact wpAny_pure q | exact wpAny_rule q
      · intro h' sb r; dsimp only; exact wpAny_pure (fin h' sb r)
end
section
variable {P : Program} {w : World} {A : Around} {E : Value → Shared → Prop} {s : Shared}
theorem addK_len (ks : List Key) (k : Key) : (addK ks k).length ≤ ks.length + 1 := by
  by_cases h : k ∈ ks
  · rw [addK_mem h]; omega
  · rw [addK_not h, List.length_append]; exact Nat.le_refl _
def allK (xs : List Key) : List Key := xs.foldl addK []
theorem foldK_len : ∀ (xs ks : List Key), (xs.foldl addK ks).length ≤ ks.length + xs.length
  | [], ks => Nat.le_refl _
  | x :: xs, ks => by
    have h1 := foldK_len xs (addK ks x)
    have h2 := addK_len ks x
    rw [List.foldl_cons, List.length_cons]; omega
/-- each value is the key that stands there -/
def KeysAre (vs : List Value) (xs : List Key) : Prop := vs.map kOf = xs.map some
theorem KeysAre.at {vs : List Value} {xs : List Key} (h : KeysAre vs xs) {i : Nat} {v : Value} (hv : vs[i]? = some v) : ∃ k, xs[i]? = some k ∧ kOf v = some k := by
  have e := congrArg (fun l => l[i]?) h
  simp only [List.getElem?_map, hv, Option.map_some] at e
  cases hk : xs[i]? with
  | none => rw [hk] at e; cases e
  | some k => rw [hk] at e; exact ⟨k, rfl, Option.some.inj e⟩
theorem KeysAre.len {vs : List Value} {xs : List Key} (h : KeysAre vs xs) : vs.length = xs.length := by
  have e := congrArg List.length h
  rwa [List.length_map, List.length_map] at e
theorem sg_loop {It : Addr} {foot wrote : List Addr} {G : Array GenState → Array GenState → Prop} {n : Nat} {Pv : Nat → Value → Prop} {St : Nat → Shared → Prop} {K : Result → Shared → Prop}
    (walk : WalksS P w A.in1 It foot wrote G n Pv St) (D : Addr) (hD : D ∉ foot) (xs : List Key) (hn : n = xs.length) (hb : xs.length + 1 < scanBound) (hv : ∀ i v, Pv i v → ∃ k, xs[i]? = some k ∧ kOf v = some k) :
    ∀ (left i : Nat) (s : Shared), n - i = left → i ≤ n → St i s → SG P w s.heap D (allK (xs.take i)) →
      (∀ s', Moved (D :: wrote) G s s' → SG P w s'.heap D (allK xs) → K (.ok (.ret .none)) s') →
      codeAny (model P w) A (.builtin "set.update.loop" ⟨[.ref D, .ref It], []⟩) K s := by
  have hDw : D ∉ wrote := fun z => hD (walk.sub _ z)
  have more : ∀ b ∈ wrote, b ∈ D :: wrote := fun b z => List.mem_cons_of_mem _ z
  intro left
  induction left with
  | zero =>
    intro i s e0 hi st hS hK
    obtain rfl : i = n := by omega
    refine codeAny_builtin F.entry_set_update_loop ?_
    rw [Around.under_plainId F.plain_set_update_loop _]
    show wpAny _ A.in1 (pyNext (.ref It) >>= _) _ _ s
    refine wpAny_bind (walk.done s _ _ st fun s' mv => ?_)
    show wpAny _ A.in1 (ret Value.none) _ _ s'
    rw [List.take_of_length_le (by omega)] at hS
    exact wpAny_pure (hK s' (mv.mono more) (hS.at fun o e => mv.heap D o hDw e))
  | succ left ih =>
    intro i s e0 hi st hS hK
    have lt : i < n := by omega
    refine codeAny_builtin F.entry_set_update_loop ?_
    rw [Around.under_plainId F.plain_set_update_loop _]
    show wpAny _ A.in1 (pyNext (.ref It) >>= _) _ _ s
    refine wpAny_bind (walk.item i s _ _ lt st fun v s' pv st' mv => ?_)
    obtain ⟨k, hk, hkv⟩ := hv i v pv
    have hS1 : SG P w s'.heap D (allK (xs.take i)) := hS.at fun o e => mv.heap D o hDw e
    show wpAny _ A.in1 (holding [v] (setAdd D v) >>= _) _ _ s'
    refine wpAny_bind (wpAny_holding ?_)
    unfold setAdd
    refine wpAny_holding (wpAny_bind ((mixKind P w).pyHash (k := k) (is_kOf.mpr hkv) ?_))
    have hl := foldK_len (xs.take i) []
    rw [List.length_take] at hl
    refine sg_add (s := { s' with toks := s'.toks + 1 }) hkv hS1 (by unfold allK; simp only [List.length_nil] at hl; omega) fun b h' sb hS2 => ?_
    have hS3 : SG P w h' D (allK (xs.take (i + 1))) := by
      rw [List.take_add_one, hk]
      show SG P w h' D ((xs.take i ++ [k]).foldl addK [])
      rw [List.foldl_append]
      exact hS2
    refine wpAny_pure ⟨plainId_quiet F.plain_set_update_loop _, ih (i + 1) _ (by omega) lt (walk.frame _ s' _ _ st' (Nat.le_succ _) fun c hc o e => ?_) hS3 fun s2 mv2 hS4 => ?_⟩
    · rw [sb.2 c (fun z : c = D => hD (by rw [← z]; exact hc))]; exact e
    · refine hK s2 (Moved.trans walk.gtrans ((mv.mono more).then_heap (Nat.le_succ _) fun c o hc e => ?_) mv2) hS4
      rw [sb.2 c (fun z : c = D => hc (by rw [z]; exact List.mem_cons_self))]; exact e
/-- a set in which nothing is -/
abbrev bare (w : World) : Obj := { cls := .type "set", dict := none, data := .set #[] 0 (.fresh 0 0 (!w.params.followText "set-order")) }
theorem sg_bare {h : Heap} {D : Addr} (e : h.get? D = some (bare w)) : SG P w h D [] :=
  ⟨_, #[], 0, _, e, rfl, rfl, fun r hr => by simp at hr, List.Perm.refl _, by decide, by rfl, List.Pairwise.nil, by
    show _ ∨ (!w.params.followText "set-order") = true
    cases w.params.followText "set-order"
    · exact .inr rfl
    · exact .inl rfl⟩
theorem set_of_tup {l : Addr} {vs : Array Value} {xs : List Key} {K : Value → Shared → Prop} (calm : A.handled = none) (hl : s.heap.IsTuple l vs) (hx : KeysAre vs.toList xs) (hb : xs.length + 1 < scanBound)
    (hK : ∀ (h' : Heap) (tk : Nat), SG P w h' s.heap.objs.size (allK xs) → (∀ b o, s.heap.get? b = some o → h'.get? b = some o) → K (.ref s.heap.objs.size) { s with heap := h', toks := tk }) :
    wpAny (model P w) A (call (.type "set") [.ref l]) K E s := by
  have n1 : vs.size = xs.length := by
    have q := hx.len
    rwa [Array.length_toList] at q
  obtain ⟨c, tl, order⟩ := F.called_set.mro
  have made1 := F.called_set.made
  have sub1 := F.called_set.sub
  refine wpAny_call (codeAny_of_tree ?_)
  show wpAny _ _ (callAny (.type "set") _) _ _ _
  refine wpAny_pure ⟨Code.quiet_builtin _ (by decide +kernel), codeAny_builtin F.entry_type_call ?_⟩
  rw [Around.under_plain (weight_type_call_type "set" [.ref l] []) rfl]
  have c1 := F.called_set.notType
  have c2 := F.called_set.canCreate
  have c3 := F.typeCall_set_1 (.ref l)
  repeat (any_goals (first | assumption | wp_step))
  refine codeAny_mono (code_set_led1 (.ref l) (E := E) (Q₁ := fun v s1 => v = .ref s.heap.objs.size ∧ s1 = { s with heap := s.heap.push (bare w) }) ⟨rfl, rfl⟩) fun r s1 hr => ?_
  cases r with
  | error e => exact hr
  | ok fl =>
    cases fl with
    | ret v =>
      obtain ⟨rfl, rfl⟩ := hr
      have at1 : (s.heap.push (bare w)).get? s.heap.objs.size = some (bare w) := Heap.get?_push_size _ rfl
      have hT : Shared.TypeIs { s with heap := s.heap.push (bare w) } (.ref s.heap.objs.size) "set" := ⟨_, at1, rfl⟩
      have look := F.called_set.init.lookup
      have bound := F.called_set.init.bind (.ref s.heap.objs.size)
      repeat (any_goals (first | assumption | wp_step))
      refine codeAny_mono (codeAny_call_builtin (R := wants (fun r s2 => r = .none ∧ ∃ h' tk, s2 = { s with heap := h', toks := tk } ∧ SG P w h' s.heap.objs.size (allK xs) ∧
          (∀ b o, s.heap.get? b = some o → h'.get? b = some o)) E) F.called_set.init.plain F.entry_set_init (check_set_init_1 hT ?_)) fun r2 s2 hr2 => ?_
      · obtain ⟨ol, hol, hcl, nl, hdl⟩ := hl
        obtain ⟨oc, od, oa, os1⟩ := ol
        simp only at hcl hdl
        subst hcl; subst hdl
        have up : (s.heap.push (bare w)).get? l = some { cls := .type "tuple", dict := od, data := .seq vs nl, slots := os1 } := Heap.get?_push_of_some _ hol
        have no1 := F.sub_tuple_set
        have no2 := F.sub_tuple_frozenset
        have no3 : (Value.type "tuple" == Value.type "dict") = false := by decide
        have there : (s.heap.push (bare w)).IsTuple l vs := ⟨_, up, rfl, nl, rfl⟩
        have zs : (s.heap.push (bare w)).objs.size = s.heap.objs.size + 1 := by rw [Heap.size_push]
        unfold Builtin.«set.__init__» noKeywords Builtin.Frozenset.updateFrom
        generalize hPI : pyIter = PI
        wp_walk
        subst hPI
        refine wpAny_pyIter_tuple there ?_
        refine wpAny_bind (wpAny_runValue ?_)
        have below : l < s.heap.objs.size := Heap.lt_size hol
        have calm3 : A.in1.in1.in1.handled = none := by simp [calm]
        have apart : l ≠ (s.heap.push (bare w)).objs.size := by rw [zs]; exact Nat.ne_of_lt (Nat.lt_succ_of_lt below)
        have outside : s.heap.objs.size ∉ [(s.heap.push (bare w)).objs.size, l] := by
          rw [zs]
          intro z
          rcases List.mem_cons.mp z with z | z
          · exact absurd z (Nat.ne_of_lt (Nat.lt_succ_self _))
          · exact absurd (List.mem_singleton.mp z) (Nat.ne_of_gt below)
        refine sg_loop ((Walks.tuple calm3 _ l apart vs).toS) s.heap.objs.size outside xs n1 hb (fun i v hv => hx.at (by rw [Array.getElem?_toList]; exact hv)) (vs.size - 0) 0 _ (by omega) (Nat.zero_le _)
          ⟨⟨_, Heap.get?_push_size _ rfl, rfl, rfl⟩, (there.push _)⟩ ?first ?last
        case first => exact sg_bare (Heap.get?_push_of_some _ at1)
        case last =>
          intro s3 mv hS
          obtain ⟨h3, g3, d3, t3, o3⟩ := s3
          have eg : g3 = s.gens := mv.gens
          have ed : d3 = s.drawn := mv.drawn
          have eo : o3 = s.os := mv.os
          subst eg; subst ed; subst eo
          show wpAny _ _ _ _ _ _
          refine wpAny_pure ?_
          show wpAny _ _ (ret Value.none) _ _ _
          refine wpAny_pure ⟨rfl, h3, t3, rfl, hS, fun b o e => ?_⟩
          have lt : b < s.heap.objs.size := Heap.lt_size e
          refine mv.heap b o (fun z => ?_) (Heap.get?_push_of_some _ (Heap.get?_push_of_some _ e))
          rcases List.mem_cons.mp z with z | z
          · exact absurd z (Nat.ne_of_lt lt)
          · have q := List.mem_singleton.mp z
            rw [zs] at q
            exact absurd q (Nat.ne_of_lt (Nat.lt_succ_of_lt lt))
      · cases r2 with
        | error e => exact hr2
        | ok fl2 =>
          cases fl2 with
          | ret r =>
            obtain ⟨rfl, h', tk, rfl, hS, kept⟩ := hr2
            repeat (any_goals (first | assumption | wp_step))
            exact hK _ _ hS kept
          | _ => exact hr2.elim
    | _ => exact hr.elim
theorem set_of_lst {l : Addr} {vs : Array Value} {xs : List Key} {K : Value → Shared → Prop} (calm : A.handled = none) (hl : s.heap.IsList l vs) (hx : KeysAre vs.toList xs) (hb : xs.length + 1 < scanBound)
    (hK : ∀ (h' : Heap) (tk : Nat), SG P w h' s.heap.objs.size (allK xs) → (∀ b o, s.heap.get? b = some o → h'.get? b = some o) → K (.ref s.heap.objs.size) { s with heap := h', toks := tk }) :
    wpAny (model P w) A (call (.type "set") [.ref l]) K E s := by
  have n1 : vs.size = xs.length := by
    have q := hx.len
    rwa [Array.length_toList] at q
  obtain ⟨c, tl, order⟩ := F.called_set.mro
  have made1 := F.called_set.made
  have sub1 := F.called_set.sub
  refine wpAny_call (codeAny_of_tree ?_)
  show wpAny _ _ (callAny (.type "set") _) _ _ _
  refine wpAny_pure ⟨Code.quiet_builtin _ (by decide +kernel), codeAny_builtin F.entry_type_call ?_⟩
  rw [Around.under_plain (weight_type_call_type "set" [.ref l] []) rfl]
  have c1 := F.called_set.notType
  have c2 := F.called_set.canCreate
  have c3 := F.typeCall_set_1 (.ref l)
  repeat (any_goals (first | assumption | wp_step))
  refine codeAny_mono (code_set_led1 (.ref l) (E := E) (Q₁ := fun v s1 => v = .ref s.heap.objs.size ∧ s1 = { s with heap := s.heap.push (bare w) }) ⟨rfl, rfl⟩) fun r s1 hr => ?_
  cases r with
  | error e => exact hr
  | ok fl =>
    cases fl with
    | ret v =>
      obtain ⟨rfl, rfl⟩ := hr
      have at1 : (s.heap.push (bare w)).get? s.heap.objs.size = some (bare w) := Heap.get?_push_size _ rfl
      have hT : Shared.TypeIs { s with heap := s.heap.push (bare w) } (.ref s.heap.objs.size) "set" := ⟨_, at1, rfl⟩
      have look := F.called_set.init.lookup
      have bound := F.called_set.init.bind (.ref s.heap.objs.size)
      repeat (any_goals (first | assumption | wp_step))
      refine codeAny_mono (codeAny_call_builtin (R := wants (fun r s2 => r = .none ∧ ∃ h' tk, s2 = { s with heap := h', toks := tk } ∧ SG P w h' s.heap.objs.size (allK xs) ∧
          (∀ b o, s.heap.get? b = some o → h'.get? b = some o)) E) F.called_set.init.plain F.entry_set_init (check_set_init_1 hT ?_)) fun r2 s2 hr2 => ?_
      · obtain ⟨ol, hol, hcl, nl, hdl⟩ := hl
        obtain ⟨oc, od, oa, os1⟩ := ol
        simp only at hcl hdl
        subst hcl; subst hdl
        have up : (s.heap.push (bare w)).get? l = some { cls := .type "list", dict := od, data := .seq vs nl, slots := os1 } := Heap.get?_push_of_some _ hol
        have no1 := F.sub_list_set
        have no2 := F.sub_list_frozenset
        have no3 : (Value.type "list" == Value.type "dict") = false := by decide
        have there : (s.heap.push (bare w)).IsList l vs := ⟨_, up, rfl, nl, rfl⟩
        have zs : (s.heap.push (bare w)).objs.size = s.heap.objs.size + 1 := by rw [Heap.size_push]
        unfold Builtin.«set.__init__» noKeywords Builtin.Frozenset.updateFrom
        generalize hPI : pyIter = PI
        wp_walk
        subst hPI
        refine wpAny_pyIter_list there ?_
        refine wpAny_bind (wpAny_runValue ?_)
        have below : l < s.heap.objs.size := Heap.lt_size hol
        have calm3 : A.in1.in1.in1.handled = none := by simp [calm]
        have apart : l ≠ (s.heap.push (bare w)).objs.size := by rw [zs]; exact Nat.ne_of_lt (Nat.lt_succ_of_lt below)
        have outside : s.heap.objs.size ∉ [(s.heap.push (bare w)).objs.size, l] := by
          rw [zs]
          intro z
          rcases List.mem_cons.mp z with z | z
          · exact absurd z (Nat.ne_of_lt (Nat.lt_succ_self _))
          · exact absurd (List.mem_singleton.mp z) (Nat.ne_of_gt below)
        refine sg_loop ((Walks.list calm3 _ l apart vs).toS) s.heap.objs.size outside xs n1 hb (fun i v hv => hx.at (by rw [Array.getElem?_toList]; exact hv)) (vs.size - 0) 0 _ (by omega) (Nat.zero_le _)
          ⟨⟨_, Heap.get?_push_size _ rfl, rfl, rfl⟩, (there.push _)⟩ ?first ?last
        case first => exact sg_bare (Heap.get?_push_of_some _ at1)
        case last =>
          intro s3 mv hS
          obtain ⟨h3, g3, d3, t3, o3⟩ := s3
          have eg : g3 = s.gens := mv.gens
          have ed : d3 = s.drawn := mv.drawn
          have eo : o3 = s.os := mv.os
          subst eg; subst ed; subst eo
          show wpAny _ _ _ _ _ _
          refine wpAny_pure ?_
          show wpAny _ _ (ret Value.none) _ _ _
          refine wpAny_pure ⟨rfl, h3, t3, rfl, hS, fun b o e => ?_⟩
          have lt : b < s.heap.objs.size := Heap.lt_size e
          refine mv.heap b o (fun z => ?_) (Heap.get?_push_of_some _ (Heap.get?_push_of_some _ e))
          rcases List.mem_cons.mp z with z | z
          · exact absurd z (Nat.ne_of_lt lt)
          · have q := List.mem_singleton.mp z
            rw [zs] at q
            exact absurd q (Nat.ne_of_lt (Nat.lt_succ_of_lt lt))
      · cases r2 with
        | error e => exact hr2
        | ok fl2 =>
          cases fl2 with
          | ret r =>
            obtain ⟨rfl, h', tk, rfl, hS, kept⟩ := hr2
            repeat (any_goals (first | assumption | wp_step))
            exact hK _ _ hS kept
          | _ => exact hr2.elim
    | _ => exact hr.elim
end
end
end Mr
namespace Mr
noncomputable section
open PySem PySem.Spec PyProof.Rows L2
/-! ### sorted of it -/
theorem kOf_val {k : Key} {v : Value} (h : kOf v = some k) : ∃ w, RelV w v ∧ w = kV k := ⟨_, kOf_rel h, rfl⟩
theorem vals_keys : ∀ {vs : List Value} {ks : List Key}, KeysAre vs ks → Vals (ks.map kV) vs
  | [], [], _ => .nil
  | [], _ :: _, h => by simp [KeysAre] at h
  | _ :: _, [], h => by simp [KeysAre] at h
  | v :: vs, k :: ks, h => by
    have h2 : kOf v = some k ∧ vs.map kOf = ks.map some := by
      have e : kOf v :: vs.map kOf = some k :: ks.map some := h
      injection e with a b
      exact ⟨a, b⟩
    exact .cons (kOf_rel h2.1) (vals_keys h2.2)
theorem keys_vals : ∀ {vs : List Value} {ks : List Key}, Vals (ks.map kV) vs → KeysAre vs ks
  | [], [], _ => rfl
  | v :: vs, k :: ks, .cons a b => by
    show kOf v :: vs.map kOf = some k :: ks.map some
    rw [rel_kOf a, keys_vals b]
def isNum : PV → Bool
  | .int _ => true
  | _ => false
def kOk (l : List PV) : Bool := l.all isTxt || l.all isNum
theorem sb_key {l : List PV} (h : kOk l = true) (hz : l.length ≤ LIM) : Sb l := by
  have hh : (∀ x ∈ l, isTxt x = true) ∨ ∀ x ∈ l, isNum x = true := by
    unfold kOk at h
    rw [Bool.or_eq_true] at h
    exact h.imp List.all_eq_true.mp List.all_eq_true.mp
  have one : ∀ x ∈ l, isD x = true ∧ dep x = 0 ∧ isNon x = false ∧ isTup x = false := fun x hx => by
    rcases hh with h | h
    · have := h x hx
      cases x <;> first | exact ⟨rfl, rfl, rfl, rfl⟩ | exact (Bool.false_ne_true this).elim
    · have := h x hx
      cases x <;> first | exact ⟨rfl, rfl, rfl, rfl⟩ | exact (Bool.false_ne_true this).elim
  refine ⟨?_, fun x hx y hy => ?_, .inr fun x hx => (one x hx).2.2, ?_, hz⟩
  · clear hh h hz
    induction l with
    | nil => rfl
    | cons x l ih => simp only [isDs, (one x List.mem_cons_self).1, Bool.true_and]; exact ih fun y hy => one y (List.mem_cons_of_mem _ hy)
  · rcases hh with h | h
    · have a := h x hx
      have b := h y hy
      cases x <;> first | exact (Bool.false_ne_true a).elim | skip
      cases y <;> first | exact (Bool.false_ne_true b).elim | rfl
    · have a := h x hx
      have b := h y hy
      cases x <;> first | exact (Bool.false_ne_true a).elim | skip
      cases y <;> first | exact (Bool.false_ne_true b).elim | rfl
  · refine Nat.le_trans (m := 0) ?_ (Nat.zero_le _)
    clear hh h hz
    induction l with
    | nil => exact Nat.le_refl _
    | cons x l ih => simp only [deps]; rw [(one x List.mem_cons_self).2.1]; exact Nat.max_le.mpr ⟨Nat.le_refl _, ih fun y hy => one y (List.mem_cons_of_mem _ hy)⟩
theorem keys_rel {K : PySem.W.Frag} {mg : MG} {g : G} : ∀ ks : List Key, RelPs K mg g (ks.map pvKey) (ks.map kV)
  | [] => RelPs.nil
  | .inl i :: ks => RelPs.cons (by simp only [RelP, pvKey, kV]) (keys_rel ks)
  | .inr x :: ks => RelPs.cons (by simp only [RelP, pvKey, kV]) (keys_rel ks)
theorem all_txt {ks : List Key} (h : (ks.map pvKey).all isTxt = true) : ∃ ss : List (List Nat), ks.map pvKey = ss.map .str := by
  induction ks with
  | nil => exact ⟨[], rfl⟩
  | cons k ks ih =>
    rw [List.map_cons, List.all_cons, Bool.and_eq_true] at h
    obtain ⟨ss, e⟩ := ih h.2
    cases k with
    | inl i => cases h.1
    | inr x => exact ⟨x.cps.toList :: ss, by rw [List.map_cons, e]; rfl⟩
theorem all_num {ks : List Key} (h : (ks.map pvKey).all isNum = true) : ∃ ss : List Int, ks.map pvKey = ss.map .int := by
  induction ks with
  | nil => exact ⟨[], rfl⟩
  | cons k ks ih =>
    rw [List.map_cons, List.all_cons, Bool.and_eq_true] at h
    obtain ⟨ss, e⟩ := ih h.2
    cases k with
    | inl i => exact ⟨i :: ss, by rw [List.map_cons, e]; rfl⟩
    | inr x => cases h.1
def leZ (a b : Int) : Bool := !decide (b < a)
theorem sortV_nums (ss : List Int) : sortV (ss.map .int) = (ss.mergeSort leZ).map .int := by
  unfold sortV
  exact (PySem.W.sort_maps (r := leZ) (s := leV) PV.int (l := ss) fun a _ b _ => rfl).symm
theorem sorted_nums_uniq {ss ys : List Int} (hp : ys.Perm ss) (hs : ys.Pairwise fun a b => ¬ b < a) : ys = ss.mergeSort leZ := by
  refine List.Perm.eq_of_pairwise (le := fun a b => leZ a b = true) (fun a b _ _ h1 h2 => ?_) (hs.imp fun h => by simpa [leZ] using h)
    (List.pairwise_mergeSort (fun a b c h1 h2 => ?_) (fun a b => ?_) ss) (hp.trans (List.mergeSort_perm ss leZ).symm)
  · simp only [leZ, Bool.not_eq_true', decide_eq_false_iff_not] at h1 h2; omega
  · simp only [leZ, Bool.not_eq_true', decide_eq_false_iff_not] at h1 h2 ⊢; omega
  · simp only [leZ, Bool.or_eq_true, Bool.not_eq_true', decide_eq_false_iff_not]; omega
theorem sortV_perm {ks ys : List Key} (hp : ys.Perm ks) (hk : kOk (ks.map pvKey) = true) : sortV (ys.map pvKey) = sortV (ks.map pvKey) := by
  have hpm := hp.map pvKey
  unfold kOk at hk
  rw [Bool.or_eq_true] at hk
  rcases hk with h | h
  · have h' : (ys.map pvKey).all isTxt = true := List.all_eq_true.mpr fun x hx => List.all_eq_true.mp h x (hpm.mem_iff.mp hx)
    obtain ⟨ss, e⟩ := all_txt h
    obtain ⟨ss', e'⟩ := all_txt h'
    rw [e, e'] at hpm
    have h2 : ss'.Perm ss := by
      have := hpm.filterMap (fun p => match p with | .str l => some l | _ => none)
      rwa [List.filterMap_map, List.filterMap_map, show ((fun p => match p with | PV.str l => some l | _ => none) ∘ PV.str) = some from rfl, List.filterMap_some, List.filterMap_some] at this
    rw [e, e', sortV_strs, sortV_strs]
    congr 1
    refine sorted_strs_uniq ((List.mergeSort_perm ss' leL).trans h2) ((List.pairwise_mergeSort leL_trans leL_total ss').imp fun h => by simpa [leL] using h)
  · have h' : (ys.map pvKey).all isNum = true := List.all_eq_true.mpr fun x hx => List.all_eq_true.mp h x (hpm.mem_iff.mp hx)
    obtain ⟨ss, e⟩ := all_num h
    obtain ⟨ss', e'⟩ := all_num h'
    rw [e, e'] at hpm
    have h2 : ss'.Perm ss := by
      have := hpm.filterMap (fun p => match p with | .int l => some l | _ => none)
      rwa [List.filterMap_map, List.filterMap_map, show ((fun p => match p with | PV.int l => some l | _ => none) ∘ PV.int) = some from rfl, List.filterMap_some, List.filterMap_some] at this
    rw [e, e', sortV_nums, sortV_nums]
    congr 1
    refine sorted_nums_uniq ((List.mergeSort_perm ss' leZ).trans h2) ((List.pairwise_mergeSort (fun a b c h1 h2 => ?_) (fun a b => ?_) ss').imp fun h => by simpa [leZ] using h)
    · simp only [leZ, Bool.not_eq_true', decide_eq_false_iff_not] at h1 h2 ⊢; omega
    · simp only [leZ, Bool.or_eq_true, Bool.not_eq_true', decide_eq_false_iff_not]; omega
section
variable {g : G} {X : Cx}
theorem sg_sorted {pins : List (Addr × Obj)} {s : Shared} {σ : L2.St} {D : Addr} {ks : List Key} {Q : VK} (hu : X.A.units + 66 < cLine) (hc : X.calm = true) (I : L2.Inv X pins σ g.H s) (ok : g.Ok X.K X.mg)
    (R : SG X.prog X.w s.heap D ks) (hk : kOk (ks.map pvKey) = true)
    (q : ∀ g' v, Ext g g' → g'.Ok X.K X.mg → g'.s = g.s → RelP X.K X.mg g' (.lst (sortV (ks.map pvKey))) v → Q v g'.H) : wpAny (model X.prog X.w) X.A (call (.builtin "sorted") [.ref D]) (EP X pins σ Q) X.xe s := by
  obtain ⟨ob, rs, ep, tb, h1, hcl, h2, el, pm, hb, hf, hr, hl⟩ := R
  refine PySem.Calls.call_function_entry PyProof.Rows.kind_sorted PyProof.Rows.plain_sorted PyProof.Rows.entry_sorted (PyProof.Rows.args_sorted1 _) ?_
  unfold Builtin.«sorted»
  refine wpAny_bind (m := checkCount "sorted" 1 1 _) (wpAny_pure ?_)
  refine wpAny_bind (collect_set (A := X.A.in1) (I.ok.hd hc) ⟨ob, h1, hcl, h2⟩ hf hb hr hl fun s1 out k1 z1 g1 o1 pv => ?_)
  have I1 : L2.Inv X pins σ g.H s1 := I.call' (ch := []) o1 (Un.kept k1) (I.hok.kept k1) (by rw [g1]; exact I.bare) (fun _ z => nomatch z)
  have pk : (out.map kOf).Perm (ks.map some) := by
    have := pv.map kOf
    rw [List.map_map] at this
    exact this.trans pm
  obtain ⟨ys, hys, hyp⟩ : ∃ ys : List Key, KeysAre out ys ∧ ys.Perm ks := by
    refine ⟨(out.map kOf).filterMap id, ?_, ?_⟩
    · have all : ∀ o ∈ out.map kOf, o.isSome = true := fun o ho => by
        obtain ⟨k, _, e⟩ := List.mem_map.mp (pk.mem_iff.mp ho)
        rw [← e]; rfl
      unfold KeysAre
      generalize out.map kOf = l at all
      clear pk
      induction l with
      | nil => rfl
      | cons o l ih =>
        have a := all o List.mem_cons_self
        cases o with
        | none => cases a
        | some k =>
          rw [List.filterMap_cons_some (f := id) rfl, List.map_cons, ← ih fun o ho => all o (List.mem_cons_of_mem _ ho)]
    · have := pk.filterMap id
      have e : (ks.map some).filterMap id = ks := by rw [List.filterMap_map]; exact List.filterMap_some
      rwa [e] at this
  have hlen : out.length = ks.length := by rw [hys.len, hyp.length_eq]
  have h40 : ks.length < 4096 := by rw [← sg_size (h := s.heap) pm]; exact hb
  rw [← sortV_perm hyp hk] at q
  have hk' : kOk (ys.map pvKey) = true := by
    unfold kOk at hk ⊢
    rw [Bool.or_eq_true] at hk ⊢
    have pmm := hyp.map pvKey
    exact hk.imp (fun h => List.all_eq_true.mpr fun x hx => List.all_eq_true.mp h x (pmm.mem_iff.mp hx)) fun h => List.all_eq_true.mpr fun x hx => List.all_eq_true.mp h x (pmm.mem_iff.mp hx)
  have sb : Sb (ys.map pvKey) := sb_key hk' (by rw [List.length_map, hyp.length_eq, LIM_eq]; omega)
  have rv : Vals (ys.map kV) out := vals_keys hys
  have rp : RelPs X.K X.mg g (ys.map pvKey) (ys.map kV) := keys_rel ys
  have hyl : ys.length = ks.length := hyp.length_eq
  generalize hM : ys.map pvKey = M at *
  have hE := each_of rp rv
  have hml : out.length = M.length := by rw [← rv.length, rp.length]
  have halk : PySem.W.AllAlike (M.map toD) := fun d hd d' hd' => by
    obtain ⟨x, hx, rfl⟩ := List.mem_map.mp hd
    obtain ⟨y, hy, rfl⟩ := List.mem_map.mp hd'
    rw [toD_alike x y (isDs_mem sb.d x hx) (isDs_mem sb.d y hy)]
    exact sb.al x hx y hy
  have hsrt : PySem.W.Sortable (M.map toD) := by
    rcases sb.k with h | h
    · left
      intro d hd
      obtain ⟨x, hx, rfl⟩ := List.mem_map.mp hd
      have := h x hx
      unfold kOk at hk'
      rw [Bool.or_eq_true] at hk'
      rcases hk' with z | z
      · have := List.all_eq_true.mp z x hx
        cases x <;> simp_all [isTxt, isTupC]
      · have := List.all_eq_true.mp z x hx
        cases x <;> simp_all [isNum, isTupC]
    · right
      intro d hd
      obtain ⟨x, hx, rfl⟩ := List.mem_map.mp hd
      have h1 := h x hx
      have h2 := isDs_mem sb.d x hx
      cases x <;> simp_all [isNon, isTup, isD, toD]
  have hsl : out.length ≤ sizeLine := by rw [hml, ← sizeLIM]; exact sb.sz
  refine wpAny_bind (wpAny_newList ?_ hsl)
  have hoL : (s1.heap.push (seqObj "list" out.toArray 0)).get? s1.heap.objs.size = some (seqObj "list" out.toArray 0) := Heap.get?_push_size _ rfl
  show wpAny _ _ _ _ _ { s1 with heap := s1.heap.push (seqObj "list" out.toArray 0) }
  have zz : (s1.heap.push (seqObj "list" out.toArray 0)).objs.size = s1.heap.objs.size + 1 := size_push' _ _
  have er : PySem.W.EachIs (fun v p => ∃ as, Reads (PySem.W.sortingHeap (s1.heap.push (seqObj "list" out.toArray 0)) s1.heap.objs.size out) v (toD p) as) out M :=
    each_imp hE fun v p hp ⟨u, ru, rpp⟩ => by
      obtain ⟨as, z⟩ := Dp.reads I1 _ u v (RelP.dp p u (isDs_mem sb.d p hp) rpp) ru
      exact ⟨as, Reads.keeps (fun b o e => PySem.W.sortingHeap_old (Nat.ne_of_lt (Heap.lt_size e)) (Heap.get?_push_of_some _ e)) z⟩
  have SA := PySem.W.SortsAt.data (prog := X.prog) (w := X.w) (A := X.A.in1.in1) (s := { s1 with heap := PySem.W.sortingHeap (s1.heap.push (seqObj "list" out.toArray 0)) s1.heap.objs.size out }) (PySem.W.each_map (R := fun v d => ∃ as, Reads (PySem.W.sortingHeap (s1.heap.push (seqObj "list" out.toArray 0)) s1.heap.objs.size out) v d as) toD er) halk hsrt (fun d hd => by
    obtain ⟨x, hx, rfl⟩ := List.mem_map.mp hd
    rw [toD_dep]
    have := deps_mem hx
    have := sb.dp
    show X.A.units + 1 + 1 + _ < _
    omega)
  refine wpAny_bind (wpAny_holding (wpAny_call_entry PyProof.Rows.slot_list_sort ⟨_, hoL, rfl⟩ PyProof.Rows.entry_list_sort
    (PySem.W.list_sort_vals (s := { s1 with heap := s1.heap.push (seqObj "list" out.toArray 0) }) hoL SA hsl ⟨_, rfl, ?_⟩)
    (PyProof.Rows.args_list_sort _)))
  have hout := PySem.W.sortVals_data false hE er halk
  have hol := PySem.W.sortVals_length (κ := PySem.W.dataKind (PySem.W.sortingHeap (s1.heap.push (seqObj "list" out.toArray 0)) s1.heap.objs.size out) (M.map toD)) false (ks := out) (vs := out) rfl
  rw [PySem.W.sort_congr (dataLe_leV sb)] at hout
  obtain ⟨ws, rw1, rw2⟩ := of_each hout
  obtain ⟨e', he'⟩ := PyProof.Rows.sortedHeap_at (vs := out) (out := (PySem.W.sortVals (PySem.W.dataKind (PySem.W.sortingHeap (s1.heap.push (seqObj "list" out.toArray 0)) s1.heap.objs.size out) (M.map toD)) false out out).toArray) hoL
  have I2 := I1.laid (o := .lst ws) (a := s1.heap.objs.size) (h' := PyProof.Rows.sortedHeap (s1.heap.push (seqObj "list" out.toArray 0)) s1.heap.objs.size out (PySem.W.sortVals (PySem.W.dataKind (PySem.W.sortingHeap (s1.heap.push (seqObj "list" out.toArray 0)) s1.heap.objs.size out) (M.map toD)) false out out).toArray) (t' := s1.toks) (fun b u e => by
    have lt : b < s1.heap.objs.size := Heap.lt_size e
    rw [PyProof.Rows.sortedHeap_old (Nat.ne_of_lt lt) (by rw [zz]; exact Nat.lt_succ_of_lt lt)]
    exact Heap.get?_push_of_some _ e) (Nat.le_refl _) ⟨by rw [rw1.length, hol]; exact hsl, _, e', rw1, he'⟩
  exact wpAny_pure ⟨_, rfl, .ref s1.heap.objs.size, _, I2, rfl, fin_lst ok rw2 q _ (I1.hok.fresh (Nat.le_refl _))⟩
end
/-! the mirror -/
def sameK : PV → PV → Bool
  | .str a, .str b => decide (a = b)
  | .int a, .int b => decide (a = b)
  | _, _ => false
def ddP (l : List PV) : List PV := l.foldl (fun a x => if a.any (fun y => sameK y x) then a else a ++ [x]) []
def bSortSet : PV → Option PV
  | .tup l | .lst l => if (kOk l && decide (l.length < 4000)) = true then some (.lst (sortV (ddP l))) else none
  | _ => none
def keyP : PV → Key
  | .str l => .inr ⟨l.toArray⟩
  | .int i => .inl i
  | _ => .inl 0
theorem pv_key {l : List PV} (h : kOk l = true) : (l.map keyP).map pvKey = l := by
  have hh : (∀ x ∈ l, isTxt x = true) ∨ ∀ x ∈ l, isNum x = true := by
    unfold kOk at h
    rw [Bool.or_eq_true] at h
    exact h.imp List.all_eq_true.mp List.all_eq_true.mp
  rw [List.map_map]
  conv => rhs; rw [← List.map_id l]
  refine List.map_congr_left fun x hx => ?_
  rcases hh with h | h
  · have := h x hx
    cases x <;> first | exact (Bool.false_ne_true this).elim | rfl
  · have := h x hx
    cases x <;> first | exact (Bool.false_ne_true this).elim | rfl
theorem same_key : ∀ a b : Key, sameK (pvKey a) (pvKey b) = true ↔ a = b
  | .inl a, .inl b => by simp [sameK, pvKey]
  | .inl a, .inr b => by simp [sameK, pvKey]
  | .inr a, .inl b => by simp [sameK, pvKey]
  | .inr a, .inr b => by
    simp only [sameK, pvKey, decide_eq_true_eq]
    constructor
    · intro e
      obtain ⟨x⟩ := a
      obtain ⟨y⟩ := b
      have : x = y := Array.toList_inj.mp e
      rw [this]
    · intro e; rw [Sum.inr.inj e]
theorem dd_keys : ∀ (xs ks : List Key), (xs.map pvKey).foldl (fun a x => if a.any (fun y => sameK y x) then a else a ++ [x]) (ks.map pvKey) = (xs.foldl addK ks).map pvKey
  | [], ks => rfl
  | x :: xs, ks => by
    rw [List.map_cons, List.foldl_cons, List.foldl_cons]
    have e : (if (ks.map pvKey).any (fun y => sameK y (pvKey x)) then ks.map pvKey else ks.map pvKey ++ [pvKey x]) = (addK ks x).map pvKey := by
      by_cases h : x ∈ ks
      · rw [addK_mem h, if_pos]
        exact List.any_eq_true.mpr ⟨pvKey x, List.mem_map_of_mem h, (same_key x x).mpr rfl⟩
      · rw [addK_not h, if_neg, List.map_append]; rfl
        intro z
        obtain ⟨y, hy, hs⟩ := List.any_eq_true.mp z
        obtain ⟨k, hk, rfl⟩ := List.mem_map.mp hy
        exact h ((same_key k x).mp hs ▸ hk)
    rw [e, dd_keys xs (addK ks x)]
theorem dd_all {l : List PV} (h : kOk l = true) : ddP l = (allK (l.map keyP)).map pvKey := by
  have := dd_keys (l.map keyP) []
  rw [pv_key h] at this
  exact this
theorem fold_sub {k : Key} : ∀ (xs ks : List Key), k ∈ xs.foldl addK ks → k ∈ ks ∨ k ∈ xs
  | [], ks, h => .inl h
  | x :: xs, ks, h => by
    rcases fold_sub xs (addK ks x) h with z | z
    · by_cases hx : x ∈ ks
      · rw [addK_mem hx] at z; exact .inl z
      · rw [addK_not hx] at z
        rcases List.mem_append.mp z with z | z
        · exact .inl z
        · exact .inr (by rw [List.mem_singleton.mp z]; exact List.mem_cons_self)
    · exact .inr (List.mem_cons_of_mem _ z)
theorem kOk_sub {l m : List PV} (h : kOk l = true) (hs : ∀ x ∈ m, x ∈ l) : kOk m = true := by
  unfold kOk at h ⊢
  rw [Bool.or_eq_true] at h ⊢
  exact h.imp (fun h => List.all_eq_true.mpr fun x hx => List.all_eq_true.mp h x (hs x hx)) fun h => List.all_eq_true.mpr fun x hx => List.all_eq_true.mp h x (hs x hx)
theorem rel_keys {K : PySem.W.Frag} {mg : MG} {g : G} : ∀ {l : List PV} {vs : List V}, kOk l = true → RelPs K mg g l vs → vs = (l.map keyP).map kV
  | [], vs, _, r => by simp only [RelPs] at r; exact r
  | p :: l, vs, h, r => by
    simp only [RelPs] at r
    obtain ⟨v, rs, rfl, r1, r2⟩ := r
    have h2 : kOk l = true := kOk_sub h fun x hx => List.mem_cons_of_mem _ hx
    have hp : isTxt p = true ∨ isNum p = true := by
      unfold kOk at h
      rw [Bool.or_eq_true] at h
      exact h.imp (fun h => List.all_eq_true.mp h p List.mem_cons_self) fun h => List.all_eq_true.mp h p List.mem_cons_self
    rw [List.map_cons, List.map_cons, ← rel_keys h2 r2]
    congr 1
    cases p <;> first | (rcases hp with z | z <;> exact (Bool.false_ne_true z).elim) | skip
    · rename_i n
      have e : v = V.int n := by simpa only [RelP] using r1
      exact e
    · rename_i t
      have e : v = V.str ⟨t.toArray⟩ := by simpa only [RelP] using r1
      exact e
/-- sorted(set(..)) -/
def eSS (f : EX) : EX := fun e s => (f e s).bind fun x s => ofO (bSortSet (deref s x)) s
section
variable {X : Cx} {W : WY} {f : EX} {pos p p2 q : Pos} {a : Expr}
theorem ie_srtSet (hu : X.A.units + 66 < cLine) (hc : X.calm = true) (hg : Gl X "sorted") (hm : X.mg "sorted" = none) (hg2 : Gl X "set") (hm2 : X.mg "set" = none) (ha : IE X W a f)
    (na : starEach [a] X.env = (false, eval a X.env) :: starEach [] X.env := by rfl) : IE X W (.Call (.Name "sorted" p) [.Call (.Name "set" p2) [a] [] q] [] pos) (eSS f) := by
  refine ⟨fun pins s σ H Q I h => ?_⟩
  have h' := RdA.seq (R := fun g p v => RelP X.K X.mg g p v) (f := f) (k := fun x e s => ofO (bSortSet (deref s x)) s) h
  refine Call_ (ld_blt I hg hm PyProof.Rows.boot_sorted ?_)
  refine PyProof.Rows.callWith_builtin1 (PyProof.Rows.args_cons ?_ rfl) rfl rfl
  refine Call_ (ld_blt I hg2 hm2 PyProof.Rows.boot_set ?_)
  refine PyProof.Rows.callWith_type1 (PyProof.Rows.args_cons (thn (ha.run pins s σ H _ I h') fun v s1 ⟨x, H1, I1, r1, q1⟩ => PyProof.Rows.args_nil ?_) na) na rfl
  obtain ⟨y, g, env, rfl, ok, re, r, q1⟩ := q1
  have rd := r.deref ok
  cases hz : bSortSet (deref g.s y) with
  | none => rw [hz] at q1; exact q1.elim
  | some z =>
    rw [hz] at q1
    have fin : ∀ (l : List PV) (its : List Value) (vs : List V), RelPs X.K X.mg g l vs → Vals vs its → kOk l = true → z = .lst (sortV (ddP l)) → ∀ (h' : Heap) (tk : Nat), SG X.prog X.w h' s1.heap.objs.size (allK (l.map keyP)) →
        (∀ b o, s1.heap.get? b = some o → h'.get? b = some o) → wpAny (model X.prog X.w) X.A (spliced (backTo pos (starEach [] X.env))) (fun vs s2 => wpAny (model X.prog X.w) X.A (call (.builtin "sorted") (Value.ref s1.heap.objs.size :: vs)) (EP X pins σ Q) X.xe s2) X.xe { s1 with heap := h', toks := tk } :=
      fun l its vs rl rv hk hzz h' tk hS kept => by
        refine PyProof.Rows.args_nil ?_
        have I2 : L2.Inv X pins σ g.H { s1 with heap := h', toks := tk } := I1.kept kept
        have hk2 : kOk ((allK (l.map keyP)).map pvKey) = true := by
          refine kOk_sub hk fun x hx => ?_
          obtain ⟨k, hk', rfl⟩ := List.mem_map.mp hx
          rcases fold_sub _ _ hk' with z | z
          · cases z
          · obtain ⟨y, hy, rfl⟩ := List.mem_map.mp z
            have e := pv_key hk
            have : pvKey (keyP y) ∈ (l.map keyP).map pvKey := List.mem_map_of_mem (List.mem_map_of_mem hy)
            rwa [e] at this
        refine sg_sorted hu hc I2 ok hS hk2 fun g' v x ok' es rr => ?_
        rw [← dd_all hk, ← hzz] at rr
        exact q1 g' v x ok' es rr
    generalize deref g.s y = dy at hz rd
    have hsb : ∀ l : List PV, l.length < 4000 → (l.map keyP).length + 1 < scanBound := fun l hl => by rw [List.length_map]; unfold scanBound; omega
    cases dy with
    | tup l =>
      have hz' : (if (kOk l && decide (l.length < 4000)) = true then some (PV.lst (sortV (ddP l))) else none) = some z := hz
      split at hz' <;> first | cases hz' | skip
      rename_i hk
      rw [Bool.and_eq_true, decide_eq_true_eq] at hk
      obtain ⟨a', vs, rfl, h1, h2⟩ := relT rd
      cases r1
      obtain ⟨its, rv, pl, _⟩ := I1.tuple (SqT.of h1)
      exact set_of_tup (I1.ok.hd hc) pl (keys_vals (by rw [← rel_keys hk.1 h2]; exact rv)) (hsb l hk.2) fun h' tk hS kept => fin l its vs h2 rv hk.1 rfl h' tk hS kept
    | lst l =>
      have hz' : (if (kOk l && decide (l.length < 4000)) = true then some (PV.lst (sortV (ddP l))) else none) = some z := hz
      split at hz' <;> first | cases hz' | skip
      rename_i hk
      rw [Bool.and_eq_true, decide_eq_true_eq] at hk
      obtain ⟨a', vs, rfl, h1, h2⟩ := relL rd
      cases r1
      obtain ⟨its, rv, pl, _⟩ := I1.list (SqL.of h1)
      exact set_of_lst (I1.ok.hd hc) pl.isList (keys_vals (by rw [← rel_keys hk.1 h2]; exact rv)) (hsb l hk.2) fun h' tk hS kept => fin l its vs h2 rv hk.1 rfl h' tk hS kept
    | non | bl | int | str | dct | set | scr | obj | ty | fn | clo => cases hz
end
end
end Mr
/-! math.gcd, math.comb; a display with one tuple as key -/
namespace Mr
noncomputable section
open PySem PySem.Spec PyProof.Rows L2
def bGcd : List PV → Option PV
  | [.int a, .int b] => some (.int ((Nat.gcd a.natAbs b.natAbs : Nat) : Int))
  | _ => none
/-- in how many chooseN so many out of so many -/
def chooseN : Nat → Nat → Nat
  | _, 0 => 1
  | 0, _ + 1 => 0
  | n + 1, k + 1 => chooseN n k + chooseN n (k + 1)
def bComb : List PV → Option PV
  | [.int a, .int b] => if 0 ≤ a ∧ a < 100 ∧ 0 ≤ b ∧ b < 100 then some (.int (PySem.W.mcComb a b)) else none
  | _ => none
section
variable {X : Cx} {W : WY} {pos p : Pos} {a : Expr} {es : List Expr} {f : EX} {fs : List EX} {x : Str} {id : String} {m : List PV → Option PV}
/-- f(..), f a built-in function that the module took from another -/
theorem ie_bG (hc : CallR X (.builtin id) (CalM X.K X.mg m)) (hg : Gl X x) (hm : X.mg x = some (.builtin id)) (ha : IA X W (a :: es) (eList fs)) (hdb : (x == ("__debug__" : Str)) = false := by decide)
    (he : starEach (a :: es) X.env = (false, eval a X.env) :: starEach es X.env := by rfl) (hpl : (backTo pos (starEach es X.env)).any (·.1) = false := by rfl) : IE X W (.Call (.Name x p) (a :: es) [] pos) (eB m fs) :=
  PE.weak (pe_callBfun hc hg hm ha hdb he hpl) fun σ H Q q => RdE.b q
theorem c_gcd : CallR X (.builtin "math.gcd") (CalM X.K X.mg bGcd) := by
  intro pins s σ H xs us Q I r ⟨g, ps, z, eH, ok, rd, hz, q⟩
  subst eH
  unfold bGcd at hz
  split at hz
  · rename_i a b
    cases hz
    obtain ⟨v, w, rfl, r1, r2⟩ := rd.two
    obtain rfl := relI r1
    obtain rfl := relI r2
    exact cr_gcd pins s σ g.H _ us Q I r ⟨a, b, rfl, fin_int ok q⟩
  · cases hz
theorem c_comb : CallR X (.builtin "math.comb") (CalM X.K X.mg bComb) := by
  intro pins s σ H xs us Q I r ⟨g, ps, z, eH, ok, rd, hz, q⟩
  subst eH
  unfold bComb at hz
  split at hz
  · rename_i a b
    split at hz
    · rename_i hb
      cases hz
      obtain ⟨v, w, rfl, r1, r2⟩ := rd.two
      obtain rfl := relI r1
      obtain rfl := relI r2
      obtain ⟨t, u, rfl⟩ := Vals.int2 r
      exact PySem.W.mc_comb hb.1 hb.2.2.1 (by omega) (.inl (by omega)) fun _ => ⟨.int _, g.H, I.tok _, ⟨_, rfl⟩, fin_int ok q⟩
    · cases hz
  · cases hz
end
/-! ### {(a, b): v} -/
section
variable {prog : Program} {w : World} {K : Type} [DecidableEq K] {knd : HeapKind prog w K} {A : Around} {E : Value → Shared → Prop} {s : Shared} {env : PySem.Env}
theorem dict1_walk {k v : Expr} {pos : Pos} {Q : Value → Shared → Prop} (hu : knd.room A)
    (h : wpAny (model prog w) A (eval k env) (fun kv s1 => wpAny (model prog w) A (eval v env) (fun vv s2 => ∃ (b : Addr) (kk : K), kv = .ref b ∧ knd.is s2.heap kk b ∧ s2.heap.DictOfH knd s.heap.objs.size [] ∧
      ∀ h', h'.DictOfH knd s.heap.objs.size (storedH [] kk b vv) → Heap.SameBut s.heap.objs.size s2.heap h' → Q (.ref s.heap.objs.size) { s2 with heap := h', toks := s2.toks + knd.draws kk }) E s1) E
      { s with heap := s.heap.push { cls := .type "dict", data := .dict #[] } }) :
    wpAny (model prog w) A (eval (.Dict [some k] [v] pos) env) Q E s := by
  rw [arm_eval_Dict, zip_pairTrees [some k] [v] env pos rfl rfl, dictDisplay_pairs _ (by simp [pairTrees]) (by simp [pairTrees])]
  refine wpAny_bind (wpAny_standAt (wpAny_bind ?_))
  unfold subDict
  refine wpAny_bind (wpAny_alloc ?_)
  refine wpAny_bind (wpAny_holding ?_)
  rw [if_pos (by simp [pairTrees])]
  refine wpAny_bind (wpAny_mono (Q := fun vs s3 => ∃ kv vv, vs = [(kv, vv)] ∧ ∃ (b : Addr) (kk : K), kv = .ref b ∧ knd.is s3.heap kk b ∧ s3.heap.DictOfH knd s.heap.objs.size [] ∧
      ∀ h', h'.DictOfH knd s.heap.objs.size (storedH [] kk b vv) → Heap.SameBut s.heap.objs.size s3.heap h' → Q (.ref s.heap.objs.size) { s3 with heap := h', toks := s3.toks + knd.draws kk })
    (pairTrees_cons_walk (wpAny_mono h (fun kv s1 h1 => wpAny_mono h1 (fun vv s2 h2 => pairTrees_nil_walk ⟨kv, vv, rfl, h2⟩) fun _ _ e => e) fun _ _ e => e)) (fun vs s1 h1 => ?_) fun _ _ e => e)
  obtain ⟨kv, vv, rfl, b, kk, rfl, hk, hm, hq⟩ := h1
  refine wpAny_holding ?_
  rw [List.forIn_cons]
  refine wpAny_bind (wpAny_bind (wpAny_bind (wpAny_dictSet_heap (hsz := by rw [sizeLine_eq]; simp) hu hk hm fun h1 hm1 hs1 => wpAny_pure ?_)))
  show wpAny _ _ (forIn [] PUnit.unit _) _ _ _
  rw [List.forIn_nil]
  exact wpAny_pure (wpAny_pure (wpAny_pure (wpAny_pure (hq h1 hm1 hs1))))
end
/-- {k: v}, k a tuple -/
def tDispT (tk tv : TE) : TE := fun σ H Q => ∀ p, H p = none → tk σ (upd H p (.dT [])) fun x H1 => tv σ H1 fun y H2 => ∃ (b : Addr) (k : List Key), x = .ref b ∧ H2 b = some (.tup (k.map kV)) ∧ H2 p = some (.dT []) ∧ Q (.ref p) (upd H2 p (.dT [(k, y)]))
theorem pe_dispT {X : Cx} {pos : Pos} {k v : Expr} {tk tv : TE} (hu : X.A.units < cLine) (hk : PE X k tk) (hv : PE X v tv) : PE X (.Dict [some k] [v] pos) (tDispT tk tv) := by
  refine ⟨fun pins s σ H Q I q => ?_⟩
  have hn := I.hok.fresh (Nat.le_refl s.heap.objs.size)
  have I1 := I.laid (a := s.heap.objs.size) (o := .dT []) (h' := s.heap.push { cls := .type "dict", data := .dict #[] }) (t' := s.toks) (fun _ _ q => Heap.get?_push_of_some _ q) (Nat.le_refl _) (dt_empty s.heap I.big)
  refine dict1_walk (knd := tupleKind (mixKind X.prog X.w)) hu (thn (hk.run pins _ σ _ _ I1 (q _ hn)) fun kv s2 ⟨x, H2, I2, rx, q2⟩ => thn (hv.run pins _ σ _ _ I2 q2) fun vv s3 ⟨y, H3, I3, ry, b, kk, ex, hb, hp, q3⟩ => ?_)
  subst ex
  obtain rfl : kv = Value.ref b := rx
  obtain ⟨z, hd, xs, rel, dd⟩ := dt_of I3.hok hp
  cases rel
  refine ⟨b, kk, rfl, L2.key_of I3.hok hb, dd, fun h' dd' hs => ⟨.ref s.heap.objs.size, _, ?_, rfl, q3⟩⟩
  obtain ⟨o, es, ep, h1, h2, h3, h4, _, h5⟩ := dd'
  refine d_write I3 (by rw [hp]; exact True.intro) hs ⟨o, h1⟩ ⟨by rw [sizeLine_eq]; simp, hd, _, (KT.put (H := H3) (kvs := []) (xs := []) .nil kk hb ry).keeps fun c ys ec => ?_, o, es, ep, h1, h2, h3, h4, h5⟩
  rw [upd_ne (ne_of ec hp (fun z => nomatch z))]
  exact ec
theorem _root_.Mr.Room_u0 {k : Nat} {A : Around} (r : Room k A) : A.units < cLine := by have := r.un; omega
def eDispT (f h : EX) : EX := fun e s => (f e s).bind fun x s => (h e s).bind fun y s => if isKey true x = true then .ok (.obj s.n) (s.new (.dct true [x] [y])) else .stuck
section
variable {X : Cx} {W : WY} {pos : Pos} {k v : Expr} {f h : EX}
theorem ie_dispT (hu : X.A.units < cLine) (hk : IE X W k f) (hv : IE X W v h) : IE X W (.Dict [some k] [v] pos) (eDispT f h) :=
  PE.weak (pe_dispT hu hk hv) fun σ H Q q D hD => by
    obtain ⟨g, env, rfl, ok, re, q⟩ := q
    have x0 := G.new_ext (g := g) (u := .dT []) hD
    have ok0 := G.new_ok (u := .dT []) ok hD
    have hid0 := new_hid (u := .dT []) ok hD trivial
    refine ⟨g.new D (.dT []), env, rfl, ok0, re.ext ok x0, ?_⟩
    unfold eDispT at q
    revert q
    show OutA _ _ _ _ _ _ ((f env g.s).bind _) _ → OutA _ _ _ _ _ _ (f env g.s) _
    cases f env g.s with
    | exc c p s' => exact fun q g' cls d x' => q g' cls d (x0.trans ok ok0 x')
    | stuck => exact id
    | ok x s1 =>
      simp only [bind_ok]
      intro q g1 v1 x1 ok1 e1 r1
      subst e1
      have hid1 := hid0.ext ok0 x1
      refine ⟨g1, env, rfl, ok1, (re.ext ok x0).ext ok0 x1, ?_⟩
      revert q
      cases h env g1.s with
      | exc c p s' => exact fun q g' cls d x' => q g' cls d ((x0.trans ok ok0 x1).trans ok ok1 x')
      | stuck => exact id
      | ok y s2 =>
        simp only [bind_ok]
        intro q g2 v2 x2 ok2 e2 r2
        subst e2
        have hid2 := hid1.ext ok1 x2
        by_cases hx : isKey true x = true
        · rw [if_pos hx] at q
          cases x with
          | tup lk =>
            simp only [isKey, Bool.true_and] at hx
            have r1' := r1.ext ok1 x2
            simp only [RelP] at r1'
            obtain ⟨b, us, rfl, hb, rb⟩ := r1'
            obtain ⟨kk, rfl, rfl⟩ := keys_of hx rb
            refine ⟨b, kk, rfl, hb, hid2.at_, ?_⟩
            have xx := HidU.extRe (u' := .dT [(kk, v2)]) ((x0.trans ok ok0 x1).trans ok ok1 x2) hD
            have ok3 := hid2.ok (u' := .dT [(kk, v2)]) ok2
            have hid3 := hid2.re (u' := .dT [(kk, v2)]) trivial
            refine q ({ g2 with H := upd g2.H D (.dT [(kk, v2)]) }.adopt D (.dct true [.tup (kk.map pvKey)] [y])) (.ref D) (adopt_ext xx hD) (adopt_ok (o := .dct true [.tup (kk.map pvKey)] [y]) ok3 hid3 (Or.inr ⟨rfl, [(kk, v2)], hid3.at_, rfl, RelPs.cons (r2.keep hid2.keeps) RelPs.nil⟩)) rfl ?_
            simp only [RelP]
            exact ⟨Nat.lt_succ_self _, by simp⟩
          | _ => simp [isKey] at hx
        · rw [if_neg hx] at q; exact q.elim
end
end
end Mr
namespace Lw
open PySem PySem.Spec PyProof.Rows L2 Mr
def top (i : Nat) : Stmt := PySem.Challenge.pw_leastwords_k44_what_comes_by_shuffling.main.body.getD i (.Pass ⟨0, 0, 0, 0⟩)
/-! ### what each def computes -/
noncomputable section
def m_is_text_of : FN := defF 3 (sRet (eAnd2 (eB bIsi [eVar 0, eC (.ty "str")]) (eB bAll [eComp [2] (iSeq (eVar 0)) (aName 2) (tYs) (eCm pIn (eVar 2) (eVar 1))])))
def m_letters_of : FN := defF 1 (sRet (eCut (eC (.str [97, 98, 99])) (oNone) (oSome (eVar 0))))
def m_is_word_of : FN := defF 2 (sRet (eAnd2 (eCall m_is_text_of [eVar 1, eCall m_letters_of [eVar 0]]) (eCm pLe (eB bLen [eVar 1]) (eC (.int 12)))))
def m_is_worded : FN := defF 1 (sRet (eCall m_is_word_of [eC (.int 3), eVar 0]))
def m_check_word : FN := defF 1 (sIf (tNt (tTru (eCall m_is_worded [eVar 0]))) (sRaise "InvalidWord" (eVar 0)) (sNil))
def m_check_two_words : FN := defF 2 (sSeq (sDo (eCall m_check_word [eVar 0]))
  (sDo (eCall m_check_word [eVar 1])))
def m_is_shuffle_by : FN := defF 9 (sSeq (sIf (tCm pNe2 (eB bLen [eVar 2]) (eBin pAdd (eB bLen [eVar 0]) (eB bLen [eVar 1]))) (sRet (eC (.bl false))) (sNil))
  (sSeq (sSet (eLst [eC (.int 0)]) (aName 3))
  (sSeq (sFor (iEn (eVar 2)) (aTup [aName 4, aName 5]) (sSeq (sSet (eComp [8] (iSeq (eVar 3)) (aName 8) (tCm pEq2 (eCut (eVar 0) (oSome (eVar 8)) (oSome (eBin pAdd (eVar 8) (eC (.int 1))))) (eVar 5)) (eBin pAdd (eVar 8) (eC (.int 1)))) (aName 6))
  (sSeq (sSet (eComp [8] (iSeq (eVar 3)) (aName 8) (tCm pEq2 (eCut (eVar 1) (oSome (eBin pSub (eVar 4) (eVar 8))) (oSome (eBin pAdd (eBin pSub (eVar 4) (eVar 8)) (eC (.int 1))))) (eVar 5)) (eVar 8)) (aName 7))
  (sSet (eSS (eBin pAdd (eVar 6) (eVar 7))) (aName 3)))))
  (sRet (eCm pEq2 (eVar 3) (eLst [eB bLen [eVar 0]]))))))
def m_shuffle_count : FN := defF 2 (sSeq (sDo (eCall m_check_two_words [eVar 0, eVar 1]))
  (sRet (eB bComb [eBin pAdd (eB bLen [eVar 0]) (eB bLen [eVar 1]), eB bLen [eVar 0]])))
def m_is_shuffle : FN := defF 3 (sSeq (sDo (eCall m_check_two_words [eVar 0, eVar 1]))
  (sSeq (sDo (eCall m_check_word [eVar 2]))
  (sRet (eCall m_is_shuffle_by [eVar 0, eVar 1, eVar 2]))))
def m__law_well : FN := defF 5 (sSeq (sSet (eIf (tCm pLt (eVar 1) (eB bLen [eVar 0])) (eB bInt [eBin pIx (eVar 0) (eVar 1)]) (eBin pAdd (eBin pAdd (eBin pMul (eC (.int 9311)) (eVar 1)) (eBin pMod (eB bInt [eB bSum [eCut (eVar 0) (oNone) (oSome (eC (.int 2)))]]) (eC (.int 1000003)))) (eC (.int 71)))) (aName 2))
  (sSeq (sSet (eBin pAdd (eC (.int 50021)) (eBin pMul (eC (.int 1013)) (eVar 1))) (aName 3))
  (sSeq (sFor (iSeq (eBin pAdd (eCut (eVar 0) (oNone) (oSome (eC (.int 5)))) (eLst [eVar 2]))) (aName 4) (sSet (eBin pMod (eB bInt [eBin pAdd (eBin pAdd (eBin pMul (eVar 3) (eC (.int 45013))) (eBin pMod (eB bInt [eVar 4]) (eC (.int 2147483399)))) (eC (.int 37))]) (eC (.int 2147483563))) (aName 3)))
  (sRet (eLstM [eIf (tOr2 (tCm pLt (eVar 2) (eC (.int 0))) (tCm pGe (eVar 2) (eBin pPow (eC (.int 10)) (eC (.int 17))))) (eB bAbs [eVar 2]) (eC (.int 0)), eVar 3, eC (.int 0)])))))
def m__law_take : FN := defF 4 (sSeq (sIf (tCm pGt (eBin pIx (eVar 0) (eC (.int 0))) (eC (.int 0))) (sSeq (sSet (eB bDivmod [eBin pIx (eVar 0) (eC (.int 0)), eVar 1]) (aTup [aSub (eVar 0) (eC (.int 0)), aName 2]))
  (sRet (eVar 2))) (sNil))
  (sSeq (sSet (eBin pAdd (eBin pIx (eVar 0) (eC (.int 2))) (eC (.int 1))) (aSub (eVar 0) (eC (.int 2))))
  (sSeq (sSet (eBin pAdd (eBin pMod (eB bInt [eBin pIx (eVar 0) (eC (.int 1))]) (eC (.int 28657))) (eC (.int 40009))) (aName 3))
  (sSeq (sSet (eBin pMod (eB bInt [eBin pAdd (eBin pAdd (eBin pMul (eBin pIx (eVar 0) (eC (.int 1))) (eVar 3)) (eBin pMul (eC (.int 50023)) (eBin pIx (eVar 0) (eC (.int 2))))) (eC (.int 17))]) (eC (.int 2147483563))) (aSub (eVar 0) (eC (.int 1))))
  (sRet (eBin pMod (eB bInt [eBin pFdiv (eBin pIx (eVar 0) (eC (.int 1))) (eC (.int 83))]) (eVar 1)))))))
def m__law_pick : FN := defF 2 (sRet (eBin pIx (eVar 1) (eCall m__law_take [eVar 0, eB bLen [eVar 1]])))
def m__law_same : Nat → FN
  | 0 => fun _ _ => .stuck
  | d + 1 => let r := m__law_same d
    defF 3 (sSeq (sIf (tOr2 (tTru (eB bIsi [eVar 1, eC (.ty "tuple")])) (tTru (eB bIsi [eVar 1, eC (.ty "list")]))) (sSeq (sIf (tOr2 (tCm pNe2 (eB bIsi [eVar 0, eC (.ty "tuple")]) (eB bIsi [eVar 1, eC (.ty "tuple")])) (tCm pNe2 (eB bIsi [eVar 0, eC (.ty "list")]) (eB bIsi [eVar 1, eC (.ty "list")]))) (sRet (eC (.bl false))) (sNil))
  (sRet (eAnd2 (eCm pEq2 (eB bLen [eVar 0]) (eB bLen [eVar 1])) (eB bAll [eComp [2] (iRng rng1 [eB bLen [eVar 1]]) (aName 2) (tYs) (eCall r [eBin pIx (eVar 0) (eVar 2), eBin pIx (eVar 1) (eVar 2)])])))) (sNil))
  (sSeq (sIf (tCm pIs (eVar 1) (eC .non)) (sRet (eCm pIs (eVar 0) (eC .non))) (sNil))
  (sSeq (sIf (tTru (eB bIsi [eVar 1, eC (.ty "bool")])) (sRet (eAnd2 (eB bIsi [eVar 0, eC (.ty "bool")]) (eCm pEq2 (eVar 0) (eVar 1)))) (sNil))
  (sSeq (sIf (tTru (eB bIsi [eVar 1, eC (.ty "int")])) (sRet (eAnd2 (eB bIsi [eVar 0, eC (.ty "int")]) (eAnd2 (eNt (eB bIsi [eVar 0, eC (.ty "bool")])) (eCm pEq2 (eVar 0) (eVar 1))))) (sNil))
  (sRet (eAnd2 (eB bIsi [eVar 0, eC (.ty "str")]) (eCm pEq2 (eVar 0) (eVar 1))))))))
def m__law_word : FN := defF 6 (sSeq (sSet (eTup [eCall m__law_take [eVar 0, eBin pAdd (eVar 1) (eC (.int 1))], eCall m__law_take [eVar 0, eC (.int 4)]]) (aTup [aName 2, aName 3]))
  (sSeq (sIf (tCm pEq2 (eVar 3) (eC (.int 3))) (sSeq (sSet (eMt "str" mJoin (eC (.str [])) [eComp [5] (iRng rng1 [eBin pAdd (eC (.int 1)) (eCall m__law_take [eVar 0, eC (.int 3)])]) (aName 5) (tYs) (eBin pIx (eC (.str [97, 98, 99])) (eCall m__law_take [eVar 0, eC (.int 3)]))]) (aName 4))
  (sRet (eCut (eBin pMul (eVar 4) (eVar 1)) (oNone) (oSome (eVar 2))))) (sNil))
  (sRet (eMt "str" mJoin (eC (.str [])) [eComp [5] (iRng rng1 [eVar 2]) (aName 5) (tYs) (eBin pIx (eC (.str [97, 98, 99])) (eCall m__law_take [eVar 0, eBin pIx (eLst [eC (.int 3), eC (.int 2), eC (.int 1)]) (eVar 3)]))]))))
def m__law_words : FN := gcF (defF 7 (sSeq (sSet (eLst [eC (.str [])]) (aName 2))
  (sSeq (sFor (iRng rng1 [eVar 0]) (aName 3) (sSeq (sSet (eLstM []) (aName 4))
  (sSeq (sFor (iSeq (eVar 2)) (aName 5) (sDo (eMut uExtend (eVar 4) [eComp [6] (iSeq (eVar 1)) (aName 6) (tYs) (eBin pAdd (eVar 5) (eVar 6))])))
  (sSeq (gFrz 4) (sSet (eVar 4) (aName 2))))))
  (sRet (eVar 2)))))
def m__law_ways : FN := defF 4 (sSeq (sSet (eC (.int 1)) (aName 2))
  (sSeq (sFor (iRng rng1 [eVar 1]) (aName 3) (sSet (eBin pFdiv (eBin pMul (eVar 2) (eBin pSub (eVar 0) (eVar 3))) (eBin pAdd (eVar 3) (eC (.int 1)))) (aName 2)))
  (sRet (eVar 2))))
def m__law_comes : FN := gcF (defF 7 (sSeq (sIf (tCm pNe2 (eB bLen [eVar 2]) (eBin pAdd (eB bLen [eVar 0]) (eB bLen [eVar 1]))) (sRet (eC (.bl false))) (sNil))
  (sSeq (sSet (eDispT (eTup [eC (.int 0), eC (.int 0)]) (eC (.bl true))) (aName 3))
  (sSeq (sFor (iRng rng1 [eBin pAdd (eB bLen [eVar 0]) (eC (.int 1))]) (aName 4) (sFor (iRng rng1 [eBin pAdd (eB bLen [eVar 1]) (eC (.int 1))]) (aName 5) (sIf (tCm pGt (eBin pAdd (eVar 4) (eVar 5)) (eC (.int 0))) (sSeq (sSet (eAnd2 (eCm pGt (eVar 4) (eC (.int 0))) (eAnd2 (eBin pIx (eVar 3) (eTup [eBin pSub (eVar 4) (eC (.int 1)), eVar 5])) (eCm pEq2 (eBin pIx (eVar 0) (eBin pSub (eVar 4) (eC (.int 1)))) (eBin pIx (eVar 2) (eBin pSub (eBin pAdd (eVar 4) (eVar 5)) (eC (.int 1))))))) (aName 6))
  (sSet (eOr2 (eVar 6) (eAnd2 (eCm pGt (eVar 5) (eC (.int 0))) (eAnd2 (eBin pIx (eVar 3) (eTup [eVar 4, eBin pSub (eVar 5) (eC (.int 1))])) (eCm pEq2 (eBin pIx (eVar 1) (eBin pSub (eVar 5) (eC (.int 1)))) (eBin pIx (eVar 2) (eBin pSub (eBin pAdd (eVar 4) (eVar 5)) (eC (.int 1)))))))) (aSub (eVar 3) (eTup [eVar 4, eVar 5])))) (sNil))))
  (sRet (eBin pIx (eVar 3) (eTup [eB bLen [eVar 0], eB bLen [eVar 1]])))))))
def m__law_row : FN := defF 7 (sSeq (sSet (eTup [eC (.str []), eC (.int 0), eC (.int 0)]) (aTup [aName 3, aName 4, aName 5]))
  (sSeq (sFor (iRng rng1 [eBin pAdd (eB bLen [eVar 1]) (eB bLen [eVar 2])]) (aName 6) (sIf (tAnd2 (tCm pLt (eVar 4) (eB bLen [eVar 1])) (tOr2 (tCm pEq2 (eVar 5) (eB bLen [eVar 2])) (tCm pEq2 (eCall m__law_take [eVar 0, eC (.int 2)]) (eC (.int 0))))) (sPar [3, 4] [eBin pAdd (eVar 3) (eBin pIx (eVar 1) (eVar 4)), eBin pAdd (eVar 4) (eC (.int 1))]) (sPar [3, 5] [eBin pAdd (eVar 3) (eBin pIx (eVar 2) (eVar 5)), eBin pAdd (eVar 5) (eC (.int 1))])))
  (sRet (eVar 3))))
def m__law_right : FN := defF 5 (sSeq (sSet (eCall m__law_comes [eVar 0, eVar 1, eVar 2]) (aName 3))
  (sSeq (sSet (eLst [eCall m_is_shuffle [eVar 0, eVar 1, eVar 2], eCallKw m_is_shuffle [2, 1, 0] [] [eVar 2, eVar 1, eVar 0], eCall m_is_shuffle [eVar 1, eVar 0, eVar 2]]) (aName 4))
  (sRet (eCall (m__law_same 6) [eVar 4, eBin pMul (eLst [eVar 3]) (eC (.int 3))]))))
def m_law : FN := defF 14 (sSeq (sSet (eBin pAdd (eBin pAdd (eCall m__law_words [eC (.int 0), eC (.str [97, 98])]) (eCall m__law_words [eC (.int 1), eC (.str [97, 98])])) (eCall m__law_words [eC (.int 2), eC (.str [97, 98])])) (aName 1))
  (sSeq (sFor (iSeq (eVar 1)) (aName 2) (sFor (iSeq (eVar 1)) (aName 3) (sIf (tNt (tTru (eB bAll [eComp [11] (iSeq (eCall m__law_words [eBin pAdd (eB bLen [eVar 2]) (eB bLen [eVar 3]), eC (.str [97, 98])])) (aName 11) (tYs) (eCall m__law_right [eVar 2, eVar 3, eVar 11])]))) (sRet (eC (.bl false))) (sNil))))
  (sSeq (sFor (iRng rng1 [eB bMax2 [eC (.int 2), eB bMin2 [eB bLen [eVar 0], eC (.int 4)]]]) (aName 4) (sSeq (sSet (eCall m__law_well [eVar 0, eVar 4]) (aName 5))
  (sSeq (sFor (iRng rng1 [eC (.int 8)]) (aName 6) (sSeq (sSet (eCall m__law_word [eVar 5, eC (.int 7)]) (aName 2))
  (sSeq (sSet (eCall m__law_word [eVar 5, eBin pSub (eC (.int 12)) (eB bLen [eVar 2])]) (aName 3))
  (sSeq (sSet (eCall m__law_row [eVar 5, eVar 2, eVar 3]) (aName 7))
  (sSeq (sSet (eIf (tCm pNe2 (eVar 7) (eC (.str []))) (eCall m__law_take [eVar 5, eB bLen [eVar 7]]) (eC (.int 0))) (aName 8))
  (sSeq (sSet (eBin pAdd (eBin pAdd (eCut (eVar 7) (oNone) (oSome (eVar 8))) (eCall m__law_pick [eVar 5, eC (.str [97, 98, 99])])) (eCut (eVar 7) (oSome (eBin pAdd (eVar 8) (eC (.int 1)))) (oNone))) (aName 9))
  (sSeq (sSet (eCall m__law_ways [eBin pAdd (eB bLen [eVar 2]) (eB bLen [eVar 3]), eB bLen [eVar 2]]) (aName 10))
  (sSeq (sIf (tOr2 (tCm pIsN (eCall m__law_comes [eVar 2, eVar 3, eVar 7]) (eC (.bl true))) (tNt (tTru (eCall (m__law_same 6) [eLst [eCall m_shuffle_count [eVar 2, eVar 3], eCallKw m_shuffle_count [1, 0] [] [eVar 2, eVar 3]], eLst [eVar 10, eVar 10]])))) (sRet (eC (.bl false))) (sNil))
  (sFor (iSeq (eLst [eVar 7, eCut (eVar 9) (oNone) (oSome (eC (.int 12))), eBin pAdd (eVar 2) (eVar 3), eBin pAdd (eVar 3) (eVar 2), eCut (eVar 7) (oSome (eC (.int 1))) (oNone), eUn pRev (eVar 7), eCall m__law_word [eVar 5, eC (.int 12)]])) (aName 11) (sIf (tNt (tTru (eCall m__law_right [eVar 2, eVar 3, eVar 11]))) (sRet (eC (.bl false))) (sNil)))))))))))
  (sSeq (sPar [12, 13] [eCall m__law_word [eVar 5, eC (.int 12)], eCall m__law_word [eVar 5, eC (.int 12)]])
  (sIf (tOr2 (tNt (tTru (eCall (m__law_same 6) [eCall m_shuffle_count [eVar 12, eVar 13], eCall m__law_ways [eBin pAdd (eB bLen [eVar 12]) (eB bLen [eVar 13]), eB bLen [eVar 13]]]))) (tAnd2 (tCm pGt (eBin pAdd (eB bLen [eVar 12]) (eB bLen [eVar 13])) (eC (.int 12))) (tCm pIsN (eCall m_is_shuffle [eVar 12, eVar 13, eCut (eBin pAdd (eVar 12) (eVar 13)) (oNone) (oSome (eC (.int 12)))]) (eC (.bl false))))) (sRet (eC (.bl false))) (sNil))))))
  (sRet (eC (.bl true))))))
end
/-! ### what the top has written -/
structure Top (K : PySem.W.Frag) (mg : MG) : Prop where
  b_abs : mg "abs" = none
  b_all : mg "all" = none
  b_bool : mg "bool" = none
  b_divmod : mg "divmod" = none
  b_enumerate : mg "enumerate" = none
  b_int : mg "int" = none
  b_isinstance : mg "isinstance" = none
  b_len : mg "len" = none
  b_list : mg "list" = none
  b_max : mg "max" = none
  b_min : mg "min" = none
  b_range : mg "range" = none
  b_set : mg "set" = none
  b_sorted : mg "sorted" = none
  b_str : mg "str" = none
  b_sum : mg "sum" = none
  b_tuple : mg "tuple" = none
  e_InvalidWord : ∃ C f, EG.Txt K mg "InvalidWord" C f
  f__law_comes : ∃ f fd, mg "_law_comes" = some (.ref f) ∧ Fun K "_law_comes" "_law_comes" (top 29) f fd
  f__law_pick : ∃ f fd, mg "_law_pick" = some (.ref f) ∧ Fun K "_law_pick" "_law_pick" (top 24) f fd
  f__law_right : ∃ f fd, mg "_law_right" = some (.ref f) ∧ Fun K "_law_right" "_law_right" (top 31) f fd
  f__law_row : ∃ f fd, mg "_law_row" = some (.ref f) ∧ Fun K "_law_row" "_law_row" (top 30) f fd
  f__law_same : ∃ f fd, mg "_law_same" = some (.ref f) ∧ Fun K "_law_same" "_law_same" (top 25) f fd
  f__law_take : ∃ f fd, mg "_law_take" = some (.ref f) ∧ Fun K "_law_take" "_law_take" (top 23) f fd
  f__law_ways : ∃ f fd, mg "_law_ways" = some (.ref f) ∧ Fun K "_law_ways" "_law_ways" (top 28) f fd
  f__law_well : ∃ f fd, mg "_law_well" = some (.ref f) ∧ Fun K "_law_well" "_law_well" (top 22) f fd
  f__law_word : ∃ f fd, mg "_law_word" = some (.ref f) ∧ Fun K "_law_word" "_law_word" (top 26) f fd
  f__law_words : ∃ f fd, mg "_law_words" = some (.ref f) ∧ Fun K "_law_words" "_law_words" (top 27) f fd
  f_check_two_words : ∃ f fd, mg "check_two_words" = some (.ref f) ∧ Fun K "check_two_words" "check_two_words" (top 15) f fd
  f_check_word : ∃ f fd, mg "check_word" = some (.ref f) ∧ Fun K "check_word" "check_word" (top 14) f fd
  f_is_shuffle : ∃ f fd, mg "is_shuffle" = some (.ref f) ∧ Fun K "is_shuffle" "is_shuffle" (top 20) f fd
  f_is_shuffle_by : ∃ f fd, mg "is_shuffle_by" = some (.ref f) ∧ Fun K "is_shuffle_by" "is_shuffle_by" (top 17) f fd
  f_is_text_of : ∃ f fd, mg "is_text_of" = some (.ref f) ∧ Fun K "is_text_of" "is_text_of" (top 2) f fd
  f_is_word_of : ∃ f fd, mg "is_word_of" = some (.ref f) ∧ Fun K "is_word_of" "is_word_of" (top 8) f fd
  f_is_worded : ∃ f fd, mg "is_worded" = some (.ref f) ∧ Fun K "is_worded" "is_worded" (top 9) f fd
  f_law : ∃ f fd, mg "law" = some (.ref f) ∧ Fun K "law" "law" (top 32) f fd
  f_letters_of : ∃ f fd, mg "letters_of" = some (.ref f) ∧ Fun K "letters_of" "letters_of" (top 7) f fd
  f_shuffle_count : ∃ f fd, mg "shuffle_count" = some (.ref f) ∧ Fun K "shuffle_count" "shuffle_count" (top 19) f fd
  g_LETTERS : ∃ t, mg "LETTERS" = some (.str "abc" t)
  g_LONGEST : ∃ t, mg "LONGEST" = some (.int 12 t)
  g_MOST_LETTERS : ∃ t, mg "MOST_LETTERS" = some (.int 3 t)
  i_comb : mg "comb" = some (.builtin "math.comb")
/-! ### each def computes it -/
section
variable {P : Program} {w : World} {K : PySem.W.Frag} {mg : MG} {base : Heap}
theorem d_is_text_of (T : Top K mg) : Def P w K mg base 1 "is_text_of" (top 2) ["value", "signs"] m_is_text_of := by
  obtain ⟨f, fd, hm0, F⟩ := T.f_is_text_of
  have S : FnScope ["value", "signs", "sign"] ["value", "signs"] (defScope (top 2)) := ⟨rfl, rfl, rfl, by decide +kernel, rfl, by decide +kernel, by decide +kernel⟩
  refine Def.mk' F hm0 S (F.binds fun _ _ _ _ _ _ us hl => match us, hl with | [_, _], _ => rfl) fun cdv A outer s H E hr => ?_
  exact (iss_one (is_ret (ie_and (ie_b c_isi (by rfl) T.b_isinstance rfl (ia_cons (ie_var 0) (ia_cons (ie_tyName "str" (by rfl) T.b_str rfl) ia_nil))) (ie_one (ie_b (c_all rfl) (by rfl) T.b_all rfl (ia_cons (ie_lc (own := [("sign", 2)]) rfl S.nd (ii_seq (ie_var 0)) (blkOk_by (by kernel_rfl)) (fun _ _ _ _ _ => (ig_name 2 S.nd rfl (by first | exact Or.inl rfl | exact Or.inr rfl))) (fun _ _ _ _ _ => its_nil) (fun _ _ _ _ _ => (ie_cm (o_in hr.u66) (ie_var 2) (ie_var 1) (by rfl)))) ia_nil))))))
theorem d_letters_of (T : Top K mg) : Def P w K mg base 1 "letters_of" (top 7) ["number"] m_letters_of := by
  obtain ⟨f, fd, hm0, F⟩ := T.f_letters_of
  have S : FnScope ["number"] ["number"] (defScope (top 7)) := ⟨rfl, rfl, rfl, by decide +kernel, rfl, by decide +kernel, by decide +kernel⟩
  refine Def.mk' F hm0 S (F.binds fun _ _ _ _ _ _ us hl => match us, hl with | [_], _ => rfl) fun cdv A outer s H E hr => ?_
  exact (iss_one (is_ret (ie_cut (ie_gStr [97, 98, 99] (by rfl) T.g_LETTERS) io_none (io_some (ie_var 0)))))
theorem d_is_word_of (T : Top K mg) : Def P w K mg base 2 "is_word_of" (top 8) ["number", "value"] m_is_word_of := by
  obtain ⟨f, fd, hm0, F⟩ := T.f_is_word_of
  have S : FnScope ["number", "value"] ["number", "value"] (defScope (top 8)) := ⟨rfl, rfl, rfl, by decide +kernel, rfl, by decide +kernel, by decide +kernel⟩
  refine Def.mk' F hm0 S (F.binds fun _ _ _ _ _ _ us hl => match us, hl with | [_, _], _ => rfl) fun cdv A outer s H E hr => ?_
  exact (iss_one (is_ret (ie_and (ie_call (d_is_text_of T) (hr.mono (by decide)) (by rfl) (takes_of rfl rfl rfl rfl) (ia_cons (ie_var 1) (ia_cons (ie_call (d_letters_of T) (hr.mono (by decide)) (by rfl) (takes_of rfl rfl rfl rfl) (ia_cons (ie_var 0) ia_nil)) ia_nil))) (ie_one (ie_cm o_le (ie_b c_len (by rfl) T.b_len rfl (ia_cons (ie_var 1) ia_nil)) (ie_gInt (by rfl) T.g_LONGEST) (by rfl))))))
theorem d_is_worded (T : Top K mg) : Def P w K mg base 3 "is_worded" (top 9) ["value"] m_is_worded := by
  obtain ⟨f, fd, hm0, F⟩ := T.f_is_worded
  have S : FnScope ["value"] ["value"] (defScope (top 9)) := ⟨rfl, rfl, rfl, by decide +kernel, rfl, by decide +kernel, by decide +kernel⟩
  refine Def.mk' F hm0 S (F.binds fun _ _ _ _ _ _ us hl => match us, hl with | [_], _ => rfl) fun cdv A outer s H E hr => ?_
  exact (iss_one (is_ret (ie_call (d_is_word_of T) (hr.mono (by decide)) (by rfl) (takes_of rfl rfl rfl rfl) (ia_cons (ie_gInt (by rfl) T.g_MOST_LETTERS) (ia_cons (ie_var 0) ia_nil)))))
theorem d_check_word (T : Top K mg) : Def P w K mg base 4 "check_word" (top 14) ["word"] m_check_word := by
  obtain ⟨_, _, x_InvalidWord⟩ := T.e_InvalidWord
  obtain ⟨f, fd, hm0, F⟩ := T.f_check_word
  have S : FnScope ["word"] ["word"] (defScope (top 14)) := ⟨rfl, rfl, rfl, by decide +kernel, rfl, by decide +kernel, by decide +kernel⟩
  refine Def.mk' F hm0 S (F.binds fun _ _ _ _ _ _ us hl => match us, hl with | [_], _ => rfl) fun cdv A outer s H E hr => ?_
  exact (iss_one (is_if (it_not (it_tru (ie_call (d_is_worded T) (hr.mono (by decide)) (by rfl) (takes_of rfl rfl rfl rfl) (ia_cons (ie_var 0) ia_nil)))) (iss_one (is_raiseG (c := "InvalidWord") x_InvalidWord rfl hr (takes_of rfl rfl rfl rfl) (ie_var 0) (by rfl))) iss_nil))
theorem d_check_two_words (T : Top K mg) : Def P w K mg base 5 "check_two_words" (top 15) ["word", "other"] m_check_two_words := by
  obtain ⟨f, fd, hm0, F⟩ := T.f_check_two_words
  have S : FnScope ["word", "other"] ["word", "other"] (defScope (top 15)) := ⟨rfl, rfl, rfl, by decide +kernel, rfl, by decide +kernel, by decide +kernel⟩
  refine Def.mk' F hm0 S (F.binds fun _ _ _ _ _ _ us hl => match us, hl with | [_, _], _ => rfl) fun cdv A outer s H E hr => ?_
  exact (iss_cons (is_do (ie_call (d_check_word T) (hr.mono (by decide)) (by rfl) (takes_of rfl rfl rfl rfl) (ia_cons (ie_var 0) ia_nil)))
    (iss_one (is_do (ie_call (d_check_word T) (hr.mono (by decide)) (by rfl) (takes_of rfl rfl rfl rfl) (ia_cons (ie_var 1) ia_nil)))))
theorem d_is_shuffle_by (T : Top K mg) : Def P w K mg base 1 "is_shuffle_by" (top 17) ["word", "other", "third"] m_is_shuffle_by := by
  obtain ⟨f, fd, hm0, F⟩ := T.f_is_shuffle_by
  have S : FnScope ["word", "other", "third", "gone", "place", "letter", "first", "second", "many"] ["word", "other", "third"] (defScope (top 17)) := ⟨rfl, rfl, rfl, by decide +kernel, rfl, by decide +kernel, by decide +kernel⟩
  refine Def.mk' F hm0 S (F.binds fun _ _ _ _ _ _ us hl => match us, hl with | [_, _, _], _ => rfl) fun cdv A outer s H E hr => ?_
  exact (iss_cons (is_if (it_cm (o_ne2 hr.units) (ie_b c_len (by rfl) T.b_len rfl (ia_cons (ie_var 2) ia_nil)) (ie_bin o_add (ie_b c_len (by rfl) T.b_len rfl (ia_cons (ie_var 0) ia_nil)) (ie_b c_len (by rfl) T.b_len rfl (ia_cons (ie_var 1) ia_nil))) (by rfl)) (iss_one (is_ret ie_bl)) iss_nil)
    (iss_cons (is_name 3 S.nd rfl (by first | exact Or.inl rfl | exact Or.inr rfl) (ie_lst (ia_cons ie_int ia_nil)))
    (iss_cons (is_for (passes_of rfl) rfl (ii_en (by rfl) T.b_enumerate (ie_var 2)) (ig_tup rfl (igs_cons (ig_name 4 S.nd rfl (by first | exact Or.inl rfl | exact Or.inr rfl)) (igs_cons (ig_name 5 S.nd rfl (by first | exact Or.inl rfl | exact Or.inr rfl)) igs_nil))) (iss_cons (is_nameLc (own := [("many", 8)]) (i := 6) rfl S.nd rfl rfl (sw_true rfl rfl rfl (by decide +kernel)) (ii_seq (ie_var 3)) (blkOk_by (by kernel_rfl)) (fun _ _ _ _ _ => (ig_name 8 S.nd rfl (by first | exact Or.inl rfl | exact Or.inr rfl))) (fun _ _ _ _ _ => (its_one (it_cm (o_eq2 hr.units) (ie_cut (ie_var 0) (io_some (ie_var 8)) (io_some (ie_bin o_add (ie_var 8) ie_int))) (ie_var 5) (by rfl)))) (fun _ _ _ _ _ => (ie_bin o_add (ie_var 8) ie_int)))
    (iss_cons (is_nameLc (own := [("many", 8)]) (i := 7) rfl S.nd rfl rfl (sw_true rfl rfl rfl (by decide +kernel)) (ii_seq (ie_var 3)) (blkOk_by (by kernel_rfl)) (fun _ _ _ _ _ => (ig_name 8 S.nd rfl (by first | exact Or.inl rfl | exact Or.inr rfl))) (fun _ _ _ _ _ => (its_one (it_cm (o_eq2 hr.units) (ie_cut (ie_var 1) (io_some (ie_bin o_sub (ie_var 4) (ie_var 8))) (io_some (ie_bin o_add (ie_bin o_sub (ie_var 4) (ie_var 8)) ie_int))) (ie_var 5) (by rfl)))) (fun _ _ _ _ _ => (ie_var 8)))
    (iss_one (is_name 3 S.nd rfl (by first | exact Or.inl rfl | exact Or.inr rfl) (ie_srtSet hr.u66 rfl (by rfl) T.b_sorted (by rfl) T.b_set (ie_bin o_add (ie_var 6) (ie_var 7))))))))
    (iss_one (is_ret (ie_cm (o_eq2 hr.units) (ie_var 3) (ie_lst (ia_cons (ie_b c_len (by rfl) T.b_len rfl (ia_cons (ie_var 0) ia_nil)) ia_nil)) (by rfl)))))))
theorem d_shuffle_count (T : Top K mg) : Def P w K mg base 6 "shuffle_count" (top 19) ["word", "other"] m_shuffle_count := by
  obtain ⟨f, fd, hm0, F⟩ := T.f_shuffle_count
  have S : FnScope ["word", "other"] ["word", "other"] (defScope (top 19)) := ⟨rfl, rfl, rfl, by decide +kernel, rfl, by decide +kernel, by decide +kernel⟩
  refine Def.mk' F hm0 S (F.binds fun _ _ _ _ _ _ us hl => match us, hl with | [_, _], _ => rfl) fun cdv A outer s H E hr => ?_
  exact (iss_cons (is_do (ie_call (d_check_two_words T) (hr.mono (by decide)) (by rfl) (takes_of rfl rfl rfl rfl) (ia_cons (ie_var 0) (ia_cons (ie_var 1) ia_nil))))
    (iss_one (is_ret (ie_bG c_comb (by rfl) T.i_comb (ia_cons (ie_bin o_add (ie_b c_len (by rfl) T.b_len rfl (ia_cons (ie_var 0) ia_nil)) (ie_b c_len (by rfl) T.b_len rfl (ia_cons (ie_var 1) ia_nil))) (ia_cons (ie_b c_len (by rfl) T.b_len rfl (ia_cons (ie_var 0) ia_nil)) ia_nil))))))
theorem d_is_shuffle (T : Top K mg) : Def P w K mg base 6 "is_shuffle" (top 20) ["word", "other", "third"] m_is_shuffle := by
  obtain ⟨f, fd, hm0, F⟩ := T.f_is_shuffle
  have S : FnScope ["word", "other", "third"] ["word", "other", "third"] (defScope (top 20)) := ⟨rfl, rfl, rfl, by decide +kernel, rfl, by decide +kernel, by decide +kernel⟩
  refine Def.mk' F hm0 S (F.binds fun _ _ _ _ _ _ us hl => match us, hl with | [_, _, _], _ => rfl) fun cdv A outer s H E hr => ?_
  exact (iss_cons (is_do (ie_call (d_check_two_words T) (hr.mono (by decide)) (by rfl) (takes_of rfl rfl rfl rfl) (ia_cons (ie_var 0) (ia_cons (ie_var 1) ia_nil))))
    (iss_cons (is_do (ie_call (d_check_word T) (hr.mono (by decide)) (by rfl) (takes_of rfl rfl rfl rfl) (ia_cons (ie_var 2) ia_nil)))
    (iss_one (is_ret (ie_call (d_is_shuffle_by T) (hr.mono (by decide)) (by rfl) (takes_of rfl rfl rfl rfl) (ia_cons (ie_var 0) (ia_cons (ie_var 1) (ia_cons (ie_var 2) ia_nil))))))))
theorem d__law_well (T : Top K mg) : Def P w K mg base 1 "_law_well" (top 22) ["script", "turn"] m__law_well := by
  obtain ⟨f, fd, hm0, F⟩ := T.f__law_well
  have S : FnScope ["script", "turn", "own", "stir", "cell"] ["script", "turn"] (defScope (top 22)) := ⟨rfl, rfl, rfl, by decide +kernel, rfl, by decide +kernel, by decide +kernel⟩
  refine Def.mk' F hm0 S (F.binds fun _ _ _ _ _ _ us hl => match us, hl with | [_, _], _ => rfl) fun cdv A outer s H E hr => ?_
  exact (iss_cons (is_name 2 S.nd rfl (by first | exact Or.inl rfl | exact Or.inr rfl) (ie_if (it_cm (o_lt hr.units) (ie_var 1) (ie_b c_len (by rfl) T.b_len rfl (ia_cons (ie_var 0) ia_nil)) (by rfl)) (ie_ty c_int (by rfl) T.b_int rfl (ia_cons (ie_ix hr.u1 (ie_var 0) (ie_var 1)) ia_nil)) (ie_bin o_add (ie_bin o_add (ie_bin o_mul ie_int (ie_var 1)) (ie_bin o_mod (ie_ty c_int (by rfl) T.b_int rfl (ia_cons (ie_b (c_sum rfl) (by rfl) T.b_sum rfl (ia_cons (ie_cut (ie_var 0) io_none (io_some ie_int)) ia_nil)) ia_nil)) ie_int)) ie_int)))
    (iss_cons (is_name 3 S.nd rfl (by first | exact Or.inl rfl | exact Or.inr rfl) (ie_bin o_add ie_int (ie_bin o_mul ie_int (ie_var 1))))
    (iss_cons (is_for (passes_of rfl) rfl (ii_seq (ie_bin o_add (ie_cut (ie_var 0) io_none (io_some ie_int)) (ie_lst (ia_cons (ie_var 2) ia_nil)))) (ig_name 4 S.nd rfl (by first | exact Or.inl rfl | exact Or.inr rfl)) (iss_one (is_name 3 S.nd rfl (by first | exact Or.inl rfl | exact Or.inr rfl) (ie_bin o_mod (ie_ty c_int (by rfl) T.b_int rfl (ia_cons (ie_bin o_add (ie_bin o_add (ie_bin o_mul (ie_var 3) ie_int) (ie_bin o_mod (ie_ty c_int (by rfl) T.b_int rfl (ia_cons (ie_var 4) ia_nil)) ie_int)) ie_int) ia_nil)) ie_int))))
    (iss_one (is_ret (ie_lstM (ia_cons (ie_if (it_w (iw_or (it_cm (o_lt hr.units) (ie_var 2) ie_int (by rfl)) (iw_or1 (it_cm o_ge (ie_var 2) (ie_bin o_pow ie_int ie_int) (by rfl))))) (ie_b c_abs (by rfl) T.b_abs rfl (ia_cons (ie_var 2) ia_nil)) ie_int) (ia_cons (ie_var 3) (ia_cons ie_int ia_nil)))))))))
theorem d__law_take (T : Top K mg) : Def P w K mg base 1 "_law_take" (top 23) ["well", "many"] m__law_take := by
  obtain ⟨f, fd, hm0, F⟩ := T.f__law_take
  have S : FnScope ["well", "many", "figure", "by"] ["well", "many"] (defScope (top 23)) := ⟨rfl, rfl, rfl, by decide +kernel, rfl, by decide +kernel, by decide +kernel⟩
  refine Def.mk' F hm0 S (F.binds fun _ _ _ _ _ _ us hl => match us, hl with | [_, _], _ => rfl) fun cdv A outer s H E hr => ?_
  exact (iss_cons (is_if (it_cm o_gt (ie_ix hr.u1 (ie_var 0) ie_int) ie_int (by rfl)) (iss_cons (is_set (ie_b c_divmod (by rfl) T.b_divmod rfl (ia_cons (ie_ix hr.u1 (ie_var 0) ie_int) (ia_cons (ie_var 1) ia_nil))) (ig_tup rfl (igs_cons (ig_sub hr.u1 (ie_var 0) ie_int) (igs_cons (ig_name 2 S.nd rfl (by first | exact Or.inl rfl | exact Or.inr rfl)) igs_nil))))
    (iss_one (is_ret (ie_var 2)))) iss_nil)
    (iss_cons (is_set (ie_bin o_add (ie_ix hr.u1 (ie_var 0) ie_int) ie_int) (ig_sub hr.u1 (ie_var 0) ie_int))
    (iss_cons (is_name 3 S.nd rfl (by first | exact Or.inl rfl | exact Or.inr rfl) (ie_bin o_add (ie_bin o_mod (ie_ty c_int (by rfl) T.b_int rfl (ia_cons (ie_ix hr.u1 (ie_var 0) ie_int) ia_nil)) ie_int) ie_int))
    (iss_cons (is_set (ie_bin o_mod (ie_ty c_int (by rfl) T.b_int rfl (ia_cons (ie_bin o_add (ie_bin o_add (ie_bin o_mul (ie_ix hr.u1 (ie_var 0) ie_int) (ie_var 3)) (ie_bin o_mul ie_int (ie_ix hr.u1 (ie_var 0) ie_int))) ie_int) ia_nil)) ie_int) (ig_sub hr.u1 (ie_var 0) ie_int))
    (iss_one (is_ret (ie_bin o_mod (ie_ty c_int (by rfl) T.b_int rfl (ia_cons (ie_bin o_fdiv (ie_ix hr.u1 (ie_var 0) ie_int) ie_int) ia_nil)) (ie_var 1))))))))
theorem d__law_pick (T : Top K mg) : Def P w K mg base 2 "_law_pick" (top 24) ["well", "some"] m__law_pick := by
  obtain ⟨f, fd, hm0, F⟩ := T.f__law_pick
  have S : FnScope ["well", "some"] ["well", "some"] (defScope (top 24)) := ⟨rfl, rfl, rfl, by decide +kernel, rfl, by decide +kernel, by decide +kernel⟩
  refine Def.mk' F hm0 S (F.binds fun _ _ _ _ _ _ us hl => match us, hl with | [_, _], _ => rfl) fun cdv A outer s H E hr => ?_
  exact (iss_one (is_ret (ie_ix hr.u1 (ie_var 1) (ie_call (d__law_take T) (hr.mono (by decide)) (by rfl) (takes_of rfl rfl rfl rfl) (ia_cons (ie_var 0) (ia_cons (ie_b c_len (by rfl) T.b_len rfl (ia_cons (ie_var 1) ia_nil)) ia_nil))))))
theorem d__law_same (T : Top K mg) : ∀ n : Nat, Def P w K mg base (1 + n) "_law_same" (top 25) ["told", "due"] (m__law_same n)
  | 0 => Def.zero T.f__law_same (fun F => F.binds fun _ _ _ _ _ _ us hl => match us, hl with | [_, _], _ => rfl)
  | n + 1 => by
    have ih := d__law_same T n
    obtain ⟨f, fd, hm0, F⟩ := T.f__law_same
    have S : FnScope ["told", "due", "at"] ["told", "due"] (defScope (top 25)) := ⟨rfl, rfl, rfl, by decide +kernel, rfl, by decide +kernel, by decide +kernel⟩
    refine Def.mk' F hm0 S (F.binds fun _ _ _ _ _ _ us hl => match us, hl with | [_, _], _ => rfl) fun cdv A outer s H E hr => ?_
    exact (iss_cons (is_if (it_w (iw_or (it_tru (ie_b c_isi (by rfl) T.b_isinstance rfl (ia_cons (ie_var 1) (ia_cons (ie_tyName "tuple" (by rfl) T.b_tuple rfl) ia_nil)))) (iw_or1 (it_tru (ie_b c_isi (by rfl) T.b_isinstance rfl (ia_cons (ie_var 1) (ia_cons (ie_tyName "list" (by rfl) T.b_list rfl) ia_nil))))))) (iss_cons (is_if (it_w (iw_or (it_cm (o_ne2 hr.units) (ie_b c_isi (by rfl) T.b_isinstance rfl (ia_cons (ie_var 0) (ia_cons (ie_tyName "tuple" (by rfl) T.b_tuple rfl) ia_nil))) (ie_b c_isi (by rfl) T.b_isinstance rfl (ia_cons (ie_var 1) (ia_cons (ie_tyName "tuple" (by rfl) T.b_tuple rfl) ia_nil))) (by rfl)) (iw_or1 (it_cm (o_ne2 hr.units) (ie_b c_isi (by rfl) T.b_isinstance rfl (ia_cons (ie_var 0) (ia_cons (ie_tyName "list" (by rfl) T.b_list rfl) ia_nil))) (ie_b c_isi (by rfl) T.b_isinstance rfl (ia_cons (ie_var 1) (ia_cons (ie_tyName "list" (by rfl) T.b_list rfl) ia_nil))) (by rfl))))) (iss_one (is_ret ie_bl)) iss_nil)
    (iss_one (is_ret (ie_and (ie_cm (o_eq2 hr.units) (ie_b c_len (by rfl) T.b_len rfl (ia_cons (ie_var 0) ia_nil)) (ie_b c_len (by rfl) T.b_len rfl (ia_cons (ie_var 1) ia_nil)) (by rfl)) (ie_one (ie_b (c_all rfl) (by rfl) T.b_all rfl (ia_cons (ie_lc (own := [("at", 2)]) rfl S.nd (ii_rng1 (by rfl) T.b_range (ia_cons (ie_b c_len (by rfl) T.b_len rfl (ia_cons (ie_var 1) ia_nil)) ia_nil)) (blkOk_by (by kernel_rfl)) (fun _ _ _ _ _ => (ig_name 2 S.nd rfl (by first | exact Or.inl rfl | exact Or.inr rfl))) (fun _ _ _ _ _ => its_nil) (fun _ _ _ _ _ => (ie_call ih (hr.mono (Nat.le_refl _)) (by rfl) takes0 (ia_cons (ie_ix hr.u1 (ie_var 0) (ie_var 2)) (ia_cons (ie_ix hr.u1 (ie_var 1) (ie_var 2)) ia_nil))))) ia_nil))))))) iss_nil)
    (iss_cons (is_if (it_cm o_is (ie_var 1) ie_non (by rfl)) (iss_one (is_ret (ie_cm o_is (ie_var 0) ie_non (by rfl)))) iss_nil)
    (iss_cons (is_if (it_tru (ie_b c_isi (by rfl) T.b_isinstance rfl (ia_cons (ie_var 1) (ia_cons (ie_tyName "bool" (by rfl) T.b_bool rfl) ia_nil)))) (iss_one (is_ret (ie_and (ie_b c_isi (by rfl) T.b_isinstance rfl (ia_cons (ie_var 0) (ia_cons (ie_tyName "bool" (by rfl) T.b_bool rfl) ia_nil))) (ie_one (ie_cm (o_eq2 hr.units) (ie_var 0) (ie_var 1) (by rfl)))))) iss_nil)
    (iss_cons (is_if (it_tru (ie_b c_isi (by rfl) T.b_isinstance rfl (ia_cons (ie_var 1) (ia_cons (ie_tyName "int" (by rfl) T.b_int rfl) ia_nil)))) (iss_one (is_ret (ie_and (ie_b c_isi (by rfl) T.b_isinstance rfl (ia_cons (ie_var 0) (ia_cons (ie_tyName "int" (by rfl) T.b_int rfl) ia_nil))) (ie_and (ie_not (ie_b c_isi (by rfl) T.b_isinstance rfl (ia_cons (ie_var 0) (ia_cons (ie_tyName "bool" (by rfl) T.b_bool rfl) ia_nil)))) (ie_one (ie_cm (o_eq2 hr.units) (ie_var 0) (ie_var 1) (by rfl))))))) iss_nil)
    (iss_one (is_ret (ie_and (ie_b c_isi (by rfl) T.b_isinstance rfl (ia_cons (ie_var 0) (ia_cons (ie_tyName "str" (by rfl) T.b_str rfl) ia_nil))) (ie_one (ie_cm (o_eq2 hr.units) (ie_var 0) (ie_var 1) (by rfl))))))))))
theorem d__law_word (T : Top K mg) : Def P w K mg base 2 "_law_word" (top 26) ["well", "most"] m__law_word := by
  obtain ⟨f, fd, hm0, F⟩ := T.f__law_word
  have S : FnScope ["well", "most", "many", "manner", "piece", "at"] ["well", "most"] (defScope (top 26)) := ⟨rfl, rfl, rfl, by decide +kernel, rfl, by decide +kernel, by decide +kernel⟩
  refine Def.mk' F hm0 S (F.binds fun _ _ _ _ _ _ us hl => match us, hl with | [_, _], _ => rfl) fun cdv A outer s H E hr => ?_
  exact (iss_cons (is_set (ie_tup (ia_cons (ie_call (d__law_take T) (hr.mono (by decide)) (by rfl) (takes_of rfl rfl rfl rfl) (ia_cons (ie_var 0) (ia_cons (ie_bin o_add (ie_var 1) ie_int) ia_nil))) (ia_cons (ie_call (d__law_take T) (hr.mono (by decide)) (by rfl) (takes_of rfl rfl rfl rfl) (ia_cons (ie_var 0) (ia_cons ie_int ia_nil))) ia_nil))) (ig_tup rfl (igs_cons (ig_name 2 S.nd rfl (by first | exact Or.inl rfl | exact Or.inr rfl)) (igs_cons (ig_name 3 S.nd rfl (by first | exact Or.inl rfl | exact Or.inr rfl)) igs_nil))))
    (iss_cons (is_if (it_cm (o_eq2 hr.units) (ie_var 3) ie_int (by rfl)) (iss_cons (is_name 4 S.nd rfl (by first | exact Or.inl rfl | exact Or.inr rfl) (ie_m pa_str PySem.F.slot_str_join rfl m_join (ie_str []) (ia_cons (ie_lc (own := [("at", 5)]) rfl S.nd (ii_rng1 (by rfl) T.b_range (ia_cons (ie_bin o_add ie_int (ie_call (d__law_take T) (hr.mono (by decide)) (by rfl) (takes_of rfl rfl rfl rfl) (ia_cons (ie_var 0) (ia_cons ie_int ia_nil)))) ia_nil)) (blkOk_by (by kernel_rfl)) (fun _ _ _ _ _ => (ig_name 5 S.nd rfl (by first | exact Or.inl rfl | exact Or.inr rfl))) (fun _ _ _ _ _ => its_nil) (fun _ _ _ _ _ => (ie_ix hr.u1 (ie_str [97, 98, 99]) (ie_call (d__law_take T) (hr.mono (by decide)) (by rfl) takes0 (ia_cons (ie_var 0) (ia_cons ie_int ia_nil)))))) ia_nil)))
    (iss_one (is_ret (ie_cut (ie_bin o_mul (ie_var 4) (ie_var 1)) io_none (io_some (ie_var 2)))))) iss_nil)
    (iss_one (is_ret (ie_m pa_str PySem.F.slot_str_join rfl m_join (ie_str []) (ia_cons (ie_lc (own := [("at", 5)]) rfl S.nd (ii_rng1 (by rfl) T.b_range (ia_cons (ie_var 2) ia_nil)) (blkOk_by (by kernel_rfl)) (fun _ _ _ _ _ => (ig_name 5 S.nd rfl (by first | exact Or.inl rfl | exact Or.inr rfl))) (fun _ _ _ _ _ => its_nil) (fun _ _ _ _ _ => (ie_ix hr.u1 (ie_str [97, 98, 99]) (ie_call (d__law_take T) (hr.mono (by decide)) (by rfl) takes0 (ia_cons (ie_var 0) (ia_cons (ie_ix hr.u1 (ie_lst (ia_cons ie_int (ia_cons ie_int (ia_cons ie_int ia_nil)))) (ie_var 3)) ia_nil)))))) ia_nil))))))
theorem d__law_words (T : Top K mg) : Def P w K mg base 1 "_law_words" (top 27) ["size", "letters"] m__law_words := by
  obtain ⟨f, fd, hm0, F⟩ := T.f__law_words
  have S : FnScope ["size", "letters", "rows", "turn", "longer", "row", "letter"] ["size", "letters"] (defScope (top 27)) := ⟨rfl, rfl, rfl, by decide +kernel, rfl, by decide +kernel, by decide +kernel⟩
  refine Def.gc (Def.mk' F hm0 S (F.binds fun _ _ _ _ _ _ us hl => match us, hl with | [_, _], _ => rfl) fun cdv A outer s H E hr => ?_)
  exact (iss_cons (is_name 2 S.nd rfl (by first | exact Or.inl rfl | exact Or.inr rfl) (ie_lst (ia_cons (ie_str []) ia_nil)))
    (iss_cons (is_for (passes_of rfl) rfl (ii_rng1 (by rfl) T.b_range (ia_cons (ie_var 0) ia_nil)) (ig_name 3 S.nd rfl (by first | exact Or.inl rfl | exact Or.inr rfl)) (iss_cons (is_name 4 S.nd rfl (by first | exact Or.inl rfl | exact Or.inr rfl) (ie_lstM ia_nil))
    (iss_cons (is_for (passes_of rfl) rfl (ii_seq (ie_var 2)) (ig_name 5 S.nd rfl (by first | exact Or.inl rfl | exact Or.inr rfl)) (iss_one (is_do (ie_mut PySem.F.slot_list_extend PySem.F.type_list_extend u_extend (ie_var 4) (ia_cons (ie_lc (own := [("letter", 6)]) rfl S.nd (ii_seq (ie_var 1)) (blkOk_by (by kernel_rfl)) (fun _ _ _ _ _ => (ig_name 6 S.nd rfl (by first | exact Or.inl rfl | exact Or.inr rfl))) (fun _ _ _ _ _ => its_nil) (fun _ _ _ _ _ => (ie_bin o_add (ie_var 5) (ie_var 6)))) ia_nil)))))
    (iss_one (is_frz 4 (is_name 2 S.nd rfl (by first | exact Or.inl rfl | exact Or.inr rfl) (ie_var 4)))))))
    (iss_one (is_ret (ie_var 2)))))
theorem d__law_ways (T : Top K mg) : Def P w K mg base 1 "_law_ways" (top 28) ["many", "some"] m__law_ways := by
  obtain ⟨f, fd, hm0, F⟩ := T.f__law_ways
  have S : FnScope ["many", "some", "found", "at"] ["many", "some"] (defScope (top 28)) := ⟨rfl, rfl, rfl, by decide +kernel, rfl, by decide +kernel, by decide +kernel⟩
  refine Def.mk' F hm0 S (F.binds fun _ _ _ _ _ _ us hl => match us, hl with | [_, _], _ => rfl) fun cdv A outer s H E hr => ?_
  exact (iss_cons (is_name 2 S.nd rfl (by first | exact Or.inl rfl | exact Or.inr rfl) ie_int)
    (iss_cons (is_for (passes_of rfl) rfl (ii_rng1 (by rfl) T.b_range (ia_cons (ie_var 1) ia_nil)) (ig_name 3 S.nd rfl (by first | exact Or.inl rfl | exact Or.inr rfl)) (iss_one (is_name 2 S.nd rfl (by first | exact Or.inl rfl | exact Or.inr rfl) (ie_bin o_fdiv (ie_bin o_mul (ie_var 2) (ie_bin o_sub (ie_var 0) (ie_var 3))) (ie_bin o_add (ie_var 3) ie_int)))))
    (iss_one (is_ret (ie_var 2)))))
theorem d__law_comes (T : Top K mg) : Def P w K mg base 1 "_law_comes" (top 29) ["word", "other", "third"] m__law_comes := by
  obtain ⟨f, fd, hm0, F⟩ := T.f__law_comes
  have S : FnScope ["word", "other", "third", "rows", "i", "j", "first"] ["word", "other", "third"] (defScope (top 29)) := ⟨rfl, rfl, rfl, by decide +kernel, rfl, by decide +kernel, by decide +kernel⟩
  refine Def.gc (Def.mk' F hm0 S (F.binds fun _ _ _ _ _ _ us hl => match us, hl with | [_, _, _], _ => rfl) fun cdv A outer s H E hr => ?_)
  exact (iss_cons (is_if (it_cm (o_ne2 hr.units) (ie_b c_len (by rfl) T.b_len rfl (ia_cons (ie_var 2) ia_nil)) (ie_bin o_add (ie_b c_len (by rfl) T.b_len rfl (ia_cons (ie_var 0) ia_nil)) (ie_b c_len (by rfl) T.b_len rfl (ia_cons (ie_var 1) ia_nil))) (by rfl)) (iss_one (is_ret ie_bl)) iss_nil)
    (iss_cons (is_name 3 S.nd rfl (by first | exact Or.inl rfl | exact Or.inr rfl) (ie_dispT (Room_u0 hr) (ie_tup (ia_cons ie_int (ia_cons ie_int ia_nil))) ie_bl))
    (iss_cons (is_for (passes_of rfl) rfl (ii_rng1 (by rfl) T.b_range (ia_cons (ie_bin o_add (ie_b c_len (by rfl) T.b_len rfl (ia_cons (ie_var 0) ia_nil)) ie_int) ia_nil)) (ig_name 4 S.nd rfl (by first | exact Or.inl rfl | exact Or.inr rfl)) (iss_one (is_for (passes_of rfl) rfl (ii_rng1 (by rfl) T.b_range (ia_cons (ie_bin o_add (ie_b c_len (by rfl) T.b_len rfl (ia_cons (ie_var 1) ia_nil)) ie_int) ia_nil)) (ig_name 5 S.nd rfl (by first | exact Or.inl rfl | exact Or.inr rfl)) (iss_one (is_if (it_cm o_gt (ie_bin o_add (ie_var 4) (ie_var 5)) ie_int (by rfl)) (iss_cons (is_name 6 S.nd rfl (by first | exact Or.inl rfl | exact Or.inr rfl) (ie_and (ie_cm o_gt (ie_var 4) ie_int (by rfl)) (ie_and (ie_ix hr.u1 (ie_var 3) (ie_tup (ia_cons (ie_bin o_sub (ie_var 4) ie_int) (ia_cons (ie_var 5) ia_nil)))) (ie_one (ie_cm (o_eq2 hr.units) (ie_ix hr.u1 (ie_var 0) (ie_bin o_sub (ie_var 4) ie_int)) (ie_ix hr.u1 (ie_var 2) (ie_bin o_sub (ie_bin o_add (ie_var 4) (ie_var 5)) ie_int)) (by rfl))))))
    (iss_one (is_set (ie_or (ie_var 6) (ie_one (ie_and (ie_cm o_gt (ie_var 5) ie_int (by rfl)) (ie_and (ie_ix hr.u1 (ie_var 3) (ie_tup (ia_cons (ie_var 4) (ia_cons (ie_bin o_sub (ie_var 5) ie_int) ia_nil)))) (ie_one (ie_cm (o_eq2 hr.units) (ie_ix hr.u1 (ie_var 1) (ie_bin o_sub (ie_var 5) ie_int)) (ie_ix hr.u1 (ie_var 2) (ie_bin o_sub (ie_bin o_add (ie_var 4) (ie_var 5)) ie_int)) (by rfl))))))) (ig_sub hr.u1 (ie_var 3) (ie_tup (ia_cons (ie_var 4) (ia_cons (ie_var 5) ia_nil))))))) iss_nil)))))
    (iss_one (is_ret (ie_ix hr.u1 (ie_var 3) (ie_tup (ia_cons (ie_b c_len (by rfl) T.b_len rfl (ia_cons (ie_var 0) ia_nil)) (ia_cons (ie_b c_len (by rfl) T.b_len rfl (ia_cons (ie_var 1) ia_nil)) ia_nil)))))))))
theorem d__law_row (T : Top K mg) : Def P w K mg base 2 "_law_row" (top 30) ["well", "word", "other"] m__law_row := by
  obtain ⟨f, fd, hm0, F⟩ := T.f__law_row
  have S : FnScope ["well", "word", "other", "found", "i", "j", "turn"] ["well", "word", "other"] (defScope (top 30)) := ⟨rfl, rfl, rfl, by decide +kernel, rfl, by decide +kernel, by decide +kernel⟩
  refine Def.mk' F hm0 S (F.binds fun _ _ _ _ _ _ us hl => match us, hl with | [_, _, _], _ => rfl) fun cdv A outer s H E hr => ?_
  exact (iss_cons (is_set (ie_tup (ia_cons (ie_str []) (ia_cons ie_int (ia_cons ie_int ia_nil)))) (ig_tup rfl (igs_cons (ig_name 3 S.nd rfl (by first | exact Or.inl rfl | exact Or.inr rfl)) (igs_cons (ig_name 4 S.nd rfl (by first | exact Or.inl rfl | exact Or.inr rfl)) (igs_cons (ig_name 5 S.nd rfl (by first | exact Or.inl rfl | exact Or.inr rfl)) igs_nil)))))
    (iss_cons (is_for (passes_of rfl) rfl (ii_rng1 (by rfl) T.b_range (ia_cons (ie_bin o_add (ie_b c_len (by rfl) T.b_len rfl (ia_cons (ie_var 1) ia_nil)) (ie_b c_len (by rfl) T.b_len rfl (ia_cons (ie_var 2) ia_nil))) ia_nil)) (ig_name 6 S.nd rfl (by first | exact Or.inl rfl | exact Or.inr rfl)) (iss_one (is_if (it_w (iw_and (it_cm (o_lt hr.units) (ie_var 4) (ie_b c_len (by rfl) T.b_len rfl (ia_cons (ie_var 1) ia_nil)) (by rfl)) (iw_and1 (it_w (iw_or (it_cm (o_eq2 hr.units) (ie_var 5) (ie_b c_len (by rfl) T.b_len rfl (ia_cons (ie_var 2) ia_nil)) (by rfl)) (iw_or1 (it_cm (o_eq2 hr.units) (ie_call (d__law_take T) (hr.mono (by decide)) (by rfl) (takes_of rfl rfl rfl rfl) (ia_cons (ie_var 0) (ia_cons ie_int ia_nil))) ie_int (by rfl)))))))) (iss_one (is_par2 rfl S.nd (ia_cons (ie_bin o_add (ie_var 3) (ie_ix hr.u1 (ie_var 1) (ie_var 4))) (ia_cons (ie_bin o_add (ie_var 4) ie_int) ia_nil)))) (iss_one (is_par2 rfl S.nd (ia_cons (ie_bin o_add (ie_var 3) (ie_ix hr.u1 (ie_var 2) (ie_var 5))) (ia_cons (ie_bin o_add (ie_var 5) ie_int) ia_nil)))))))
    (iss_one (is_ret (ie_var 3)))))
theorem d__law_right (T : Top K mg) : Def P w K mg base 8 "_law_right" (top 31) ["word", "other", "third"] m__law_right := by
  obtain ⟨f, fd, hm0, F⟩ := T.f__law_right
  have S : FnScope ["word", "other", "third", "due", "told"] ["word", "other", "third"] (defScope (top 31)) := ⟨rfl, rfl, rfl, by decide +kernel, rfl, by decide +kernel, by decide +kernel⟩
  refine Def.mk' F hm0 S (F.binds fun _ _ _ _ _ _ us hl => match us, hl with | [_, _, _], _ => rfl) fun cdv A outer s H E hr => ?_
  exact (iss_cons (is_name 3 S.nd rfl (by first | exact Or.inl rfl | exact Or.inr rfl) (ie_call (d__law_comes T) (hr.mono (by decide)) (by rfl) (takes_of rfl rfl rfl rfl) (ia_cons (ie_var 0) (ia_cons (ie_var 1) (ia_cons (ie_var 2) ia_nil)))))
    (iss_cons (is_name 4 S.nd rfl (by first | exact Or.inl rfl | exact Or.inr rfl) (ie_lst (ia_cons (ie_call (d_is_shuffle T) (hr.mono (by decide)) (by rfl) (takes_of rfl rfl rfl rfl) (ia_cons (ie_var 0) (ia_cons (ie_var 1) (ia_cons (ie_var 2) ia_nil)))) (ia_cons (ie_callK0 (order := [2, 1, 0]) (d_is_shuffle T) (hr.mono (by decide)) (by rfl) (takes_of rfl rfl rfl rfl) (ik_cons (ie_var 2) (ik_cons (ie_var 1) (ik_cons (ie_var 0) ik_nil))) (by decide) (fun _ _ _ _ _ _ _ us ws h1 h2 => match us, ws, h1, h2 with | [], [_, _, _], _, _ => rfl)) (ia_cons (ie_call (d_is_shuffle T) (hr.mono (by decide)) (by rfl) (takes_of rfl rfl rfl rfl) (ia_cons (ie_var 1) (ia_cons (ie_var 0) (ia_cons (ie_var 2) ia_nil)))) ia_nil)))))
    (iss_one (is_ret (ie_call (d__law_same T 6) (hr.mono (by decide)) (by rfl) (takes_of rfl rfl rfl rfl) (ia_cons (ie_var 4) (ia_cons (ie_bin o_mul (ie_lst (ia_cons (ie_var 3) ia_nil)) ie_int) ia_nil)))))))
theorem d_law (T : Top K mg) : Def P w K mg base 9 "law" (top 32) ["script"] m_law := by
  obtain ⟨f, fd, hm0, F⟩ := T.f_law
  have S : FnScope ["script", "small", "word", "other", "turn", "well", "again", "row", "at", "bent", "ways", "third", "long", "far"] ["script"] (defScope (top 32)) := ⟨rfl, rfl, rfl, by decide +kernel, rfl, by decide +kernel, by decide +kernel⟩
  refine Def.mk' F hm0 S (F.binds fun _ _ _ _ _ _ us hl => match us, hl with | [_], _ => rfl) fun cdv A outer s H E hr => ?_
  exact (iss_cons (is_name 1 S.nd rfl (by first | exact Or.inl rfl | exact Or.inr rfl) (ie_bin o_add (ie_bin o_add (ie_call (d__law_words T) (hr.mono (by decide)) (by rfl) (takes_of rfl rfl rfl rfl) (ia_cons ie_int (ia_cons (ie_str [97, 98]) ia_nil))) (ie_call (d__law_words T) (hr.mono (by decide)) (by rfl) (takes_of rfl rfl rfl rfl) (ia_cons ie_int (ia_cons (ie_str [97, 98]) ia_nil)))) (ie_call (d__law_words T) (hr.mono (by decide)) (by rfl) (takes_of rfl rfl rfl rfl) (ia_cons ie_int (ia_cons (ie_str [97, 98]) ia_nil)))))
    (iss_cons (is_for (passes_of rfl) rfl (ii_seq (ie_var 1)) (ig_name 2 S.nd rfl (by first | exact Or.inl rfl | exact Or.inr rfl)) (iss_one (is_for (passes_of rfl) rfl (ii_seq (ie_var 1)) (ig_name 3 S.nd rfl (by first | exact Or.inl rfl | exact Or.inr rfl)) (iss_one (is_if (it_not (it_tru (ie_b (c_all rfl) (by rfl) T.b_all rfl (ia_cons (ie_lc (own := [("third", 11)]) rfl S.nd (ii_seq (ie_call (d__law_words T) (hr.mono (by decide)) (by rfl) (takes_of rfl rfl rfl rfl) (ia_cons (ie_bin o_add (ie_b c_len (by rfl) T.b_len rfl (ia_cons (ie_var 2) ia_nil)) (ie_b c_len (by rfl) T.b_len rfl (ia_cons (ie_var 3) ia_nil))) (ia_cons (ie_str [97, 98]) ia_nil)))) (blkOk_by (by kernel_rfl)) (fun _ _ _ _ _ => (ig_name 11 S.nd rfl (by first | exact Or.inl rfl | exact Or.inr rfl))) (fun _ _ _ _ _ => its_nil) (fun _ _ _ _ _ => (ie_call (d__law_right T) (hr.mono (by decide)) (by rfl) takes0 (ia_cons (ie_var 2) (ia_cons (ie_var 3) (ia_cons (ie_var 11) ia_nil)))))) ia_nil)))) (iss_one (is_ret ie_bl)) iss_nil)))))
    (iss_cons (is_for (passes_of rfl) rfl (ii_rng1 (by rfl) T.b_range (ia_cons (ie_b (c_max2 rfl) (by rfl) T.b_max rfl (ia_cons ie_int (ia_cons (ie_b (c_min2 rfl) (by rfl) T.b_min rfl (ia_cons (ie_b c_len (by rfl) T.b_len rfl (ia_cons (ie_var 0) ia_nil)) (ia_cons ie_int ia_nil))) ia_nil))) ia_nil)) (ig_name 4 S.nd rfl (by first | exact Or.inl rfl | exact Or.inr rfl)) (iss_cons (is_name 5 S.nd rfl (by first | exact Or.inl rfl | exact Or.inr rfl) (ie_call (d__law_well T) (hr.mono (by decide)) (by rfl) (takes_of rfl rfl rfl rfl) (ia_cons (ie_var 0) (ia_cons (ie_var 4) ia_nil))))
    (iss_cons (is_for (passes_of rfl) rfl (ii_rng1 (by rfl) T.b_range (ia_cons ie_int ia_nil)) (ig_name 6 S.nd rfl (by first | exact Or.inl rfl | exact Or.inr rfl)) (iss_cons (is_name 2 S.nd rfl (by first | exact Or.inl rfl | exact Or.inr rfl) (ie_call (d__law_word T) (hr.mono (by decide)) (by rfl) (takes_of rfl rfl rfl rfl) (ia_cons (ie_var 5) (ia_cons ie_int ia_nil))))
    (iss_cons (is_name 3 S.nd rfl (by first | exact Or.inl rfl | exact Or.inr rfl) (ie_call (d__law_word T) (hr.mono (by decide)) (by rfl) (takes_of rfl rfl rfl rfl) (ia_cons (ie_var 5) (ia_cons (ie_bin o_sub ie_int (ie_b c_len (by rfl) T.b_len rfl (ia_cons (ie_var 2) ia_nil))) ia_nil))))
    (iss_cons (is_name 7 S.nd rfl (by first | exact Or.inl rfl | exact Or.inr rfl) (ie_call (d__law_row T) (hr.mono (by decide)) (by rfl) (takes_of rfl rfl rfl rfl) (ia_cons (ie_var 5) (ia_cons (ie_var 2) (ia_cons (ie_var 3) ia_nil)))))
    (iss_cons (is_name 8 S.nd rfl (by first | exact Or.inl rfl | exact Or.inr rfl) (ie_if (it_cm (o_ne2 hr.units) (ie_var 7) (ie_str []) (by rfl)) (ie_call (d__law_take T) (hr.mono (by decide)) (by rfl) (takes_of rfl rfl rfl rfl) (ia_cons (ie_var 5) (ia_cons (ie_b c_len (by rfl) T.b_len rfl (ia_cons (ie_var 7) ia_nil)) ia_nil))) ie_int))
    (iss_cons (is_name 9 S.nd rfl (by first | exact Or.inl rfl | exact Or.inr rfl) (ie_bin o_add (ie_bin o_add (ie_cut (ie_var 7) io_none (io_some (ie_var 8))) (ie_call (d__law_pick T) (hr.mono (by decide)) (by rfl) (takes_of rfl rfl rfl rfl) (ia_cons (ie_var 5) (ia_cons (ie_str [97, 98, 99]) ia_nil)))) (ie_cut (ie_var 7) (io_some (ie_bin o_add (ie_var 8) ie_int)) io_none)))
    (iss_cons (is_name 10 S.nd rfl (by first | exact Or.inl rfl | exact Or.inr rfl) (ie_call (d__law_ways T) (hr.mono (by decide)) (by rfl) (takes_of rfl rfl rfl rfl) (ia_cons (ie_bin o_add (ie_b c_len (by rfl) T.b_len rfl (ia_cons (ie_var 2) ia_nil)) (ie_b c_len (by rfl) T.b_len rfl (ia_cons (ie_var 3) ia_nil))) (ia_cons (ie_b c_len (by rfl) T.b_len rfl (ia_cons (ie_var 2) ia_nil)) ia_nil))))
    (iss_cons (is_if (it_w (iw_or (it_cm o_isN (ie_call (d__law_comes T) (hr.mono (by decide)) (by rfl) (takes_of rfl rfl rfl rfl) (ia_cons (ie_var 2) (ia_cons (ie_var 3) (ia_cons (ie_var 7) ia_nil)))) ie_bl (by rfl)) (iw_or1 (it_not (it_tru (ie_call (d__law_same T 6) (hr.mono (by decide)) (by rfl) (takes_of rfl rfl rfl rfl) (ia_cons (ie_lst (ia_cons (ie_call (d_shuffle_count T) (hr.mono (by decide)) (by rfl) (takes_of rfl rfl rfl rfl) (ia_cons (ie_var 2) (ia_cons (ie_var 3) ia_nil))) (ia_cons (ie_callK0 (order := [1, 0]) (d_shuffle_count T) (hr.mono (by decide)) (by rfl) (takes_of rfl rfl rfl rfl) (ik_cons (ie_var 2) (ik_cons (ie_var 3) ik_nil)) (by decide) (fun _ _ _ _ _ _ _ us ws h1 h2 => match us, ws, h1, h2 with | [], [_, _], _, _ => rfl)) ia_nil))) (ia_cons (ie_lst (ia_cons (ie_var 10) (ia_cons (ie_var 10) ia_nil))) ia_nil)))))))) (iss_one (is_ret ie_bl)) iss_nil)
    (iss_one (is_for (passes_of rfl) rfl (ii_seq (ie_lst (ia_cons (ie_var 7) (ia_cons (ie_cut (ie_var 9) io_none (io_some ie_int)) (ia_cons (ie_bin o_add (ie_var 2) (ie_var 3)) (ia_cons (ie_bin o_add (ie_var 3) (ie_var 2)) (ia_cons (ie_cut (ie_var 7) (io_some ie_int) io_none) (ia_cons (ie_rev (ie_var 7)) (ia_cons (ie_call (d__law_word T) (hr.mono (by decide)) (by rfl) (takes_of rfl rfl rfl rfl) (ia_cons (ie_var 5) (ia_cons ie_int ia_nil))) ia_nil))))))))) (ig_name 11 S.nd rfl (by first | exact Or.inl rfl | exact Or.inr rfl)) (iss_one (is_if (it_not (it_tru (ie_call (d__law_right T) (hr.mono (by decide)) (by rfl) (takes_of rfl rfl rfl rfl) (ia_cons (ie_var 2) (ia_cons (ie_var 3) (ia_cons (ie_var 11) ia_nil)))))) (iss_one (is_ret ie_bl)) iss_nil))))))))))))
    (iss_cons (is_par2 rfl S.nd (ia_cons (ie_call (d__law_word T) (hr.mono (by decide)) (by rfl) (takes_of rfl rfl rfl rfl) (ia_cons (ie_var 5) (ia_cons ie_int ia_nil))) (ia_cons (ie_call (d__law_word T) (hr.mono (by decide)) (by rfl) (takes_of rfl rfl rfl rfl) (ia_cons (ie_var 5) (ia_cons ie_int ia_nil))) ia_nil)))
    (iss_one (is_if (it_w (iw_or (it_not (it_tru (ie_call (d__law_same T 6) (hr.mono (by decide)) (by rfl) (takes_of rfl rfl rfl rfl) (ia_cons (ie_call (d_shuffle_count T) (hr.mono (by decide)) (by rfl) (takes_of rfl rfl rfl rfl) (ia_cons (ie_var 12) (ia_cons (ie_var 13) ia_nil))) (ia_cons (ie_call (d__law_ways T) (hr.mono (by decide)) (by rfl) (takes_of rfl rfl rfl rfl) (ia_cons (ie_bin o_add (ie_b c_len (by rfl) T.b_len rfl (ia_cons (ie_var 12) ia_nil)) (ie_b c_len (by rfl) T.b_len rfl (ia_cons (ie_var 13) ia_nil))) (ia_cons (ie_b c_len (by rfl) T.b_len rfl (ia_cons (ie_var 13) ia_nil)) ia_nil))) ia_nil))))) (iw_or1 (it_w (iw_and (it_cm o_gt (ie_bin o_add (ie_b c_len (by rfl) T.b_len rfl (ia_cons (ie_var 12) ia_nil)) (ie_b c_len (by rfl) T.b_len rfl (ia_cons (ie_var 13) ia_nil))) ie_int (by rfl)) (iw_and1 (it_cm o_isN (ie_call (d_is_shuffle T) (hr.mono (by decide)) (by rfl) (takes_of rfl rfl rfl rfl) (ia_cons (ie_var 12) (ia_cons (ie_var 13) (ia_cons (ie_cut (ie_bin o_add (ie_var 12) (ie_var 13)) io_none (io_some ie_int)) ia_nil)))) ie_bl (by rfl)))))))) (iss_one (is_ret ie_bl)) iss_nil))))))
    (iss_one (is_ret ie_bl)))))
end
end Lw
namespace Lw
open Mr
local macro_rules
  | `(tactic| simp_arith [$ls,*]) => `(tactic| simp (maxSteps := 1000000) (disch := first | assumption | decide +kernel | exact rfl | omega | (simp only [List.length_map, List.length_append, List.length_cons, List.length_nil, List.length_take, List.length_drop, List.length_reverse, List.length_range, List.length_dropLast, Int.toNat_natCast, Nat.reduceAdd]; omega)) only [ap_var, ap_c, ap_nil, ap_none, ap_yes, ap_snil, ap_sseq, ap_name, ap_asTup, ap_aAll0, ap_aAllN, optB_some, optE_some, optN_some, zp_and2, zp_andA, zp_b, zp_bA, zp_bin, zp_binA, zp_binB, zp_bl, zp_call, zp_ca, zp_cb, zp_callKw, zp_chA, zp_chB, zp_chC, zp_chD, zp_chain, zp_cm, zp_cmA, zp_cmB, zp_comp, zp_comp2, zp_comp2A, zp_compA, zp_cons, zp_consA, zp_consB, zp_cut, zp_cutA, zp_cutB, zp_cutC, zp_eand, zp_eandA, zp_eandB, zp_en, zp_enA, zp_ent, zp_entA, zp_entB, zp_eor, zp_eorA, zp_eorB, zp_if, zp_ifA, zp_kwA, zp_kwB, zp_lst, zp_lstA, zp_lstM, zp_lstMA, zp_lstV, zp_mt, zp_mtB, zp_mtS, zp_mtL, zp_nt, zp_ntA, zp_or2, zp_orA, zp_osome, zp_osomeA, zp_par, zp_parA, zp_rng, zp_rngA, zp_sdo, zp_sdoA, zp_seq, zp_seqA, zp_setAll0, zp_setAllS, zp_sfor, zp_sforA, zp_sif, zp_sifA, zp_sraise, zp_sraiseA, zp_sret, zp_sretA, zp_sset, zp_ssetN, zp_ssetT, zp_tchA, zp_tchB, zp_tchC, zp_tchain, zp_tcm, zp_tcmA, zp_tcmB, zp_tru, zp_truA, zp_tup, zp_tupA, zp_cns, zp_cnsA, zp_str, zp_strA, zp_strB, zp_app, zp_tupAA, zp_lstAA, zp_lstAMA, v_seqT, v_seqTL, zp_binM, zp_binMA, zp_binMB, mkM_some, v_mCat, v_mRep, zp_itm, zp_itmA, zp_get2, zp_get2A, zp_get2B, zp_get2C, v_items, zp_dcp, v_rstrip, v_strip, zp_un, zp_unA, then_nx, then_rt, then_ex, then_bk, then_ct, then_st, d_non, d_bl, d_int, d_str, d_tup, d_lst, d_scr, d_dct, d_ty, t_bl, t_non, defF_ap, fin_rt, fin_nx, fin_ex, bind_ok, bind_exc, bind_stuck, sbind_ok, sbind_exc, sbind_stuck, ofO_some, ofO_none, calm_ok, ok_ok, ok_exc, sw_nx, sw_rt, sw_bk, sw_ex,  fs_name, loop_nx, loop_bk, loop_rt, loop_ex, fs_tup, ap_try, tryK_nx, tryK_rt, tryK_ex, tryE_nx, tryE_rt, sub_t, sub_f, ap_isE, ap_fld, List.getElem?_cons_zero, List.getElem?_cons_succ, st_set0, st_setS, List.map_cons, List.map_nil, List.length_cons, List.length_nil, List.cons_append, List.nil_append, List.getD_cons_zero, List.getD_cons_succ, Nat.reduceAdd, Nat.reduceSub, Nat.zero_add, startE_eq, nones_0, nones_s, wipeE, if_ft, if_tt, Bool.not_true, Bool.not_false, leLim, recv, isStr, isLst, v_add_int, v_add_str, v_add_lst, v_add_tup, v_sub_int, v_neg, v_mulL, v_mulR, v_fdiv, v_mod, v_len_str, v_len_lst, v_len_tup, v_len_scr, v_int, v_min2, v_max2, v_min2S, v_min2I, v_tuple, v_tuple2, v_tuple_str, v_list, v_list2, v_list_str, v_rev, v_rev_lst, v_eq_int, v_eq_str, v_eq_bl, v_eq_tups, v_eq_lsts, v_eq_nil, v_ne, v_map_some, v_lt_int, v_lt_str, v_gt_int, v_gt_str, v_le_int, v_ge_int, v_is_non, v_is_bl, v_isN, isNon, isBl, v_cut_from, v_cut_to, v_cut_ft, v_cut_all, v_cut_m1, v_pCut_str, v_pCut_lst, v_pCut_tup, v_pCut_scr, v_ixL0, v_ixT0, v_ixL1, v_ixT1, v_ixL2, v_ixT2, v_in_sign, v_in_tup, v_in_lst, v_nin, v_el_lst, v_el_tup, v_el_str, v_rng1, v_rng2, v_all, v_any, v_sortS, v_sortSl, v_idxS, v_idxL, v_min, v_max,  Int.toNat_natCast, Int.toNat_zero, Int.toNat_one, beq_self_eq_true, decide_true, decide_false, ite_true, ite_false, $ls,*])
  | `(tactic| simp_arith! [$ls,*]) => `(tactic| simp (maxSteps := 1000000) (disch := first | assumption | decide +kernel | exact rfl | omega | (simp only [List.length_map, List.length_append, List.length_cons, List.length_nil, List.length_take, List.length_drop, List.length_reverse, List.length_range, List.length_range', List.length_mergeSort, List.length_dropLast, Int.toNat_natCast, Nat.reduceAdd]; omega)) only [↓n_lit, ap_c, zp_newD, zp_dcomp, zp_dcompA, zp_dct, v_range1, v_range2, d_set, n_elR, n_tupleR, n_listR, n_mulT, v_zipL, v_zipT, v_rev_tup, n_add, n_sub, n_mulL, n_mulR, n_fdiv, n_mod, n_mul_str, n_eq, n_lt, n_gt, n_le, n_ge, n_min2, n_max2, n_min2I, n_rng1, n_rng2, n_cut_from, n_cut_to, n_cut_ft, n_ixS, n_L0, n_L1, n_L2, n_T0, n_T1, n_T2, zp_ssetS, v_list_dct, v_len_dct, n_dt, n_df, Nat.reduceMul, Nat.reduceDiv, Nat.sub_zero, Nat.add_zero, Nat.add_sub_cancel, List.getElem?_map, ap_var, ap_nil, ap_none, ap_yes, ap_snil, ap_sseq, ap_name, ap_asTup, ap_aAll0, ap_aAllN, optB_some, optE_some, optN_some, zp_and2, zp_andA, zp_b, zp_bA, zp_bin, zp_binA, zp_binB, zp_bl, zp_call, zp_ca, zp_cb, zp_callKw, zp_chA, zp_chB, zp_chC, zp_chD, zp_chain, zp_cm, zp_cmA, zp_cmB, zp_comp, zp_comp2, zp_comp2A, zp_compA, zp_cons, zp_consA, zp_consB, zp_cut, zp_cutA, zp_cutB, zp_cutC, zp_eand, zp_eandA, zp_eandB, zp_en, zp_enA, zp_ent, zp_entA, zp_entB, zp_eor, zp_eorA, zp_eorB, zp_if, zp_ifA, zp_kwA, zp_kwB, zp_lst, zp_lstA, zp_lstM, zp_lstMA, zp_lstV, zp_mt, zp_mtB, zp_mtS, zp_mtL, zp_nt, zp_ntA, zp_or2, zp_orA, zp_osome, zp_osomeA, zp_par, zp_parA, zp_rng, zp_rngA, zp_sdo, zp_sdoA, zp_seq, zp_seqA, zp_setAll0, zp_setAllS, zp_sfor, zp_sforA, zp_sif, zp_sifA, zp_sraise, zp_sraiseA, zp_sret, zp_sretA, zp_sset, zp_ssetN, zp_ssetT, zp_tchA, zp_tchB, zp_tchC, zp_tchain, zp_tcm, zp_tcmA, zp_tcmB, zp_tru, zp_truA, zp_tup, zp_tupA, zp_cns, zp_cnsA, zp_str, zp_strA, zp_strB, zp_app, zp_tupAA, zp_lstAA, zp_lstAMA, v_seqT, v_seqTL, zp_binM, zp_binMA, zp_binMB, mkM_some, v_mCat, v_mRep, zp_itm, zp_itmA, zp_get2, zp_get2A, zp_get2B, zp_get2C, v_items, zp_dcp, v_rstrip, v_strip, zp_un, zp_unA, then_nx, then_rt, then_ex, then_bk, then_ct, then_st, d_non, d_bl, d_int, d_str, d_tup, d_lst, d_scr, d_dct, d_ty, t_bl, t_non, defF_ap, fin_rt, fin_nx, fin_ex, bind_ok, bind_exc, bind_stuck, sbind_ok, sbind_exc, sbind_stuck, ofO_some, ofO_none, calm_ok, ok_ok, ok_exc, sw_nx, sw_rt, sw_bk, sw_ex, fs_name, loop_nx, loop_bk, loop_rt, loop_ex, fs_tup, ap_try, tryK_nx, tryK_rt, tryK_ex, tryE_nx, tryE_rt, sub_t, sub_f, ap_isE, ap_fld, List.getElem?_cons_zero, List.getElem?_cons_succ, st_set0, st_setS, List.map_cons, List.map_nil, List.length_cons, List.length_nil, List.cons_append, List.nil_append, List.getD_cons_zero, List.getD_cons_succ, Nat.reduceAdd, Nat.reduceSub, Nat.zero_add, startE_eq, nones_0, nones_s, wipeE, if_ft, if_tt, Bool.not_true, Bool.not_false, leLim, recv, isStr, isLst, v_add_str, v_add_lst, v_add_tup, v_neg, v_len_str, v_len_lst, v_len_tup, v_len_scr, v_int, v_min2S, v_tuple, v_tuple2, v_tuple_str, v_list, v_list2, v_list_str, v_rev, v_rev_lst, v_eq_str, v_eq_bl, v_eq_tups, v_eq_lsts, v_eq_nil, v_ne, v_map_some, v_lt_str, v_gt_str, v_is_non, v_is_bl, v_isN, isNon, isBl, v_cut_all, v_cut_m1, v_pCut_str, v_pCut_lst, v_pCut_tup, v_pCut_scr, v_ixL0, v_ixT0, v_ixL1, v_ixT1, v_ixL2, v_ixT2, v_in_sign, v_in_tup, v_in_lst, v_nin, v_el_lst, v_el_tup, v_el_str, v_all, v_any, v_sortS, v_sortSl, v_idxS, v_idxL, v_min, v_max, Int.toNat_natCast, beq_self_eq_true, decide_true, decide_false, ite_true, ite_false, $ls,*])
def abc : List Nat := [97, 98, 99]
/-- a word -/
def Wd (l : List Nat) : Prop := l.length ≤ 12 ∧ ∀ c ∈ l, c ∈ abc
def wdB : PV → Bool
  | .str l => l.all (fun c => decide (c ∈ abc)) && decide (l.length ≤ 12)
  | _ => false
theorem wd_iff {l : List Nat} : wdB (.str l) = true ↔ Wd l := by
  simp [wdB, Wd, and_comm]
theorem notlt (a b : Int) : (!decide (a < b)) = decide (b ≤ a) := by
  by_cases h : a < b
  · simp [h]
  · simp [h]; omega
/-- a comprehension of tests over the signs of a text -/
theorem comp_signs {e : Mr.Env} {i : Nat} {b : List Nat} (f : EX) (hf : ∀ c s, f (e.set i (some (.str [c]))) s = .ok (.bl (decide (c ∈ b))) s) : ∀ (l : List Nat) (s : MS),
    compM (aName i) tYs f e (l.map fun c => .str [c]) s = .ok (l.map fun c => .bl (decide (c ∈ b))) s
  | [], s => rfl
  | c :: l, s => by simp [compM, hf, comp_signs f hf l s]
theorem allBl_map {α : Type} (g : α → Bool) : ∀ l : List α, allBl (l.map fun c => .bl (g c)) = some (l.map g)
  | [] => rfl
  | c :: l => by simp [allBl, allBl_map g l]
theorem m_is_text_of_str {s : MS} (l b : List Nat) (h : l.length ≤ LIM) : m_is_text_of [.str l, .str b] s = .ok (.bl (l.all fun c => decide (c ∈ b))) s := by
  have hc := comp_signs (e := [some (.str l), some (.str b), none]) (i := 2) (b := b) (eCm pIn (eVar 2) (eVar 1)) (by intro c s; simp [pIn]) l s
  simp [m_is_text_of, defF_ap, bIsi, tyOf, kinds, isSub, elems, startE, h, wipeE, hc, Res.calm, bAll, allBl_map, List.all_map, Function.comp_def]
theorem m_is_text_of_no {s : MS} (p q : PV) (t : String) (h1 : tyOf (deref s p) = some t) (h2 : (t == "str") = false) : m_is_text_of [p, q] s = .ok (.bl false) s := by
  have h3 : isSub t "str" = false := by simp [isSub] at h2 ⊢; exact h2
  simp [m_is_text_of, defF_ap, startE, bIsi, h1, kinds, h3]
theorem m_letters_of_3 {s : MS} : m_letters_of [.int 3] s = .ok (.str abc) s := by
  simp [m_letters_of, defF_ap, startE, pCut, cutL, sIx, LIM_eq]
  rfl
theorem m_is_word_of_str {s : MS} (l : List Nat) (h : l.length ≤ LIM) : m_is_word_of [.int 3, .str l] s = .ok (.bl (wdB (.str l))) s := by
  simp only [m_is_word_of, defF_ap, startE, wdB]
  cases hc : (l.all fun c => decide (c ∈ abc)) with
  | true =>
    simp [m_letters_of_3, m_is_text_of_str _ _ h, hc, bLen, h, pLe, qLt, notlt]
    by_cases h12 : l.length ≤ 12
    · simp [h12]; omega
    · simp [h12]; omega
  | false => simp [m_letters_of_3, m_is_text_of_str _ _ h, hc]
theorem m_is_word_of_no {s : MS} (p : PV) (t : String) (h1 : tyOf (deref s p) = some t) (h2 : (t == "str") = false) : m_is_word_of [.int 3, p] s = .ok (.bl false) s := by
  simp [m_is_word_of, defF_ap, startE, m_letters_of_3, m_is_text_of_no p _ t h1 h2]
/-- a value that the checks look at -/
def Val (p : PV) : Prop := (∃ l, p = .str l ∧ l.length ≤ 1000) ∨ ∃ t, tyOf p = some t ∧ (t == "str") = false ∧ ∀ s, deref s p = p
theorem m_is_worded_ap {s : MS} {p : PV} (h : Val p) : m_is_worded [p] s = .ok (.bl (wdB p)) s := by
  rcases h with ⟨l, rfl, hl⟩ | ⟨t, h1, h2, h3⟩
  · simp [m_is_worded, defF_ap, startE, m_is_word_of_str l (by rw [LIM_eq]; omega)]
  · have hw : wdB p = false := by cases p <;> simp_all [wdB, tyOf]
    simp [m_is_worded, defF_ap, startE, m_is_word_of_no (s := s) p t (by rw [h3]; exact h1) h2, hw]
theorem m_check_word_ok {s : MS} {l : List Nat} (h : Wd l) : m_check_word [.str l] s = .ok .non s := by
  have hw := wd_iff.mpr h
  have := h.1
  simp [m_check_word, defF_ap, startE, m_is_worded_ap (.inl ⟨l, rfl, by omega⟩), hw]
def rot (l : List Nat) (k : Nat) : List Nat := l.drop (k % l.length) ++ l.take (k % l.length)
theorem rot_mod (l : List Nat) (k : Nat) : rot l (k % l.length) = rot l k := by
  unfold rot; rw [Nat.mod_mod]
theorem rot_zero (l : List Nat) : rot l 0 = l := by
  unfold rot; simp
def Per (l : List Nat) (k : Nat) : Prop := rot l k = l
/-- the least divisor of the length that is a period -/
structure Least (l : List Nat) (p : Nat) : Prop where
  pos : 0 < p
  dvd : p ∣ l.length
  per : Per l p
  low : ∀ d, 0 < d → d < p → d ∣ l.length → ¬ Per l d
theorem rep_len (u : List Nat) (q : Nat) : (List.replicate q u).flatten.length = q * u.length := by
  simp [List.length_flatten]
theorem fits_nat {k n m : Nat} (h : n ≤ m) (hm : (m : Int) < 2 ^ k) (h0 : (0 : Int) < 2 ^ k) : fits k (n : Int) = true := fits_iff.mpr ⟨by omega, by omega⟩
theorem le_LIM {n : Nat} (h : n ≤ 1000) : n ≤ LIM := by rw [LIM_eq]; omega
instance {l : List Nat} {k : Nat} : Decidable (Per l k) := inferInstanceAs (Decidable (rot l k = l))
theorem new_m (s : MS) (o : PO) : (s.new o).m s.n = some o := by simp [MS.new]
theorem new_put (s : MS) (o o' : PO) : (s.new o).put s.n o' = s.new o' := by
  unfold MS.new MS.put
  congr 1
  funext j
  by_cases h : j = s.n <;> simp [h]
/-- at i stands a well -/
def WS (i : Nat) (s : MS) : Prop := (∃ a b c : Int, s.m i = some (.lst [.int a, .int b, .int c])) ∧ i < s.n
theorem WS.put {i : Nat} {s : MS} {a b c : Int} (h : WS i s) : WS i (s.put i (.lst [.int a, .int b, .int c])) := ⟨⟨a, b, c, by simp [MS.put]⟩, h.2⟩
theorem WS.new {i : Nat} {s : MS} {o : PO} (h : WS i s) : WS i (s.new o) := by
  obtain ⟨⟨a, b, c, e⟩, l⟩ := h
  exact ⟨⟨a, b, c, by simp [MS.new, Nat.ne_of_lt l, e]⟩, Nat.lt_succ_of_lt l⟩
theorem fits_lit {k : Nat} {z : Int} (h1 : -(2 ^ k) < z) (h2 : z < 2 ^ k) : fits k z = true := fits_iff.mpr ⟨h1, h2⟩
theorem put_put (s : MS) (i : Nat) (o o' : PO) : (s.put i o).put i o' = s.put i o' := by
  unfold MS.put
  congr 1
  funext j
  by_cases h : j = i <;> simp [h]
theorem put_m (s : MS) (i : Nat) (o : PO) : (s.put i o).m i = some o := by simp [MS.put]
theorem deref_lst {s : MS} {i : Nat} {l : List PV} (h : s.m i = some (.lst l)) : deref s (.obj i) = .lst l := by simp [deref, h]
theorem ix3 (a b c : PV) : pIx (.lst [a, b, c]) (.int 0) = some a ∧ pIx (.lst [a, b, c]) (.int 1) = some b ∧ pIx (.lst [a, b, c]) (.int 2) = some c := ⟨rfl, rfl, rfl⟩
theorem m__law_take_ap {i n : Nat} {s : MS} (h : WS i s) (h0 : 0 < n) (h1 : n ≤ 1000) : ∃ (k : Nat) (s' : MS), m__law_take [.obj i, .int (n : Nat)] s = .ok (.int (k : Nat)) s' ∧ k < n ∧ WS i s' := by
  obtain ⟨⟨a, b, c, e⟩, hi⟩ := h
  have hf : fits 30 (n : Nat) = true := fits_nat h1 (by decide) (by decide)
  have hn : (0 : Int) < (n : Nat) := by omega
  have key : ∀ z : Int, ∃ k : Nat, z % (n : Nat) = (k : Nat) ∧ k < n := fun z => by
    have q1 := Int.emod_nonneg z (show ((n : Nat) : Int) ≠ 0 by omega)
    have q2 := Int.emod_lt_of_pos z hn
    exact ⟨(z % (n : Nat)).toNat, by omega, by omega⟩
  have hd := deref_lst e
  obtain ⟨i0, i1, i2⟩ := ix3 (.int a) (.int b) (.int c)
  by_cases ha : 0 < a
  · obtain ⟨k, hk, hk2⟩ := key a
    refine ⟨k, s.put i (.lst [.int (a / (n : Nat)), .int b, .int c]), ?_, hk2, WS.put ⟨⟨a, b, c, e⟩, hi⟩⟩
    simp [m__law_take, defF_ap, startE, hd, i0, pGt, qLt, ha, bDivmod, h0, hf, aTup, aAll, aSub, e, oSet, ixL, hk]
  · have s1 : (small b || small (b % 28657 + 40009)) = true := by
      have q1 := Int.emod_nonneg b (show (28657 : Int) ≠ 0 by decide)
      have q2 := Int.emod_lt_of_pos b (show (0 : Int) < 28657 by decide)
      have : small (b % 28657 + 40009) = true := fits_lit (by omega) (by omega)
      rw [this, Bool.or_true]
    have s2 : (small 50023 || small (c + 1)) = true := by
      have : small 50023 = true := fits_lit (by decide) (by decide)
      rw [this, Bool.true_or]
    have f83 : fits 30 83 = true := fits_lit (by decide) (by decide)
    obtain ⟨k, hk, hk2⟩ := key ((b * (b % 28657 + 40009) + 50023 * (c + 1) + 17) % 2147483563 / 83)
    refine ⟨k, s.put i (.lst [.int a, .int ((b * (b % 28657 + 40009) + 50023 * (c + 1) + 17) % 2147483563), .int (c + 1)]), ?_, hk2, WS.put ⟨⟨a, b, c, e⟩, hi⟩⟩
    have d1 : ∀ l, deref (s.put i (.lst l)) (.obj i) = .lst l := fun l => deref_lst (put_m s i _)
    have m1 : ∀ x y : Int, (small x || small y) = true → pMul (.int x) (.int y) = some (.int (x * y)) := fun x y q => by
      show (if small x || small y then some (PV.int (x * y)) else none) = _
      rw [if_pos q]
    simp [m__law_take, defF_ap, startE, hd, pIx, atL, ixL, pGt, qLt, ha, aSub, e, oSet, pAdd, d1, put_m, put_put, bInt, pMod, m1 _ _ s1, m1 _ _ s2, pFdiv, f83, h0, hk]
/-- signs are drawn -/
def sg (k : Nat) : Nat := 97 + k
theorem sign_k {k : Nat} (hk : k < 3) : pIx (.str [97, 98, 99]) (.int (k : Nat)) = some (.str [sg k]) := by
  show (if ([97, 98, 99] : List Nat).length ≤ LIM then (atL [97, 98, 99] (k : Nat)).map (fun c => PV.str [c]) else none) = _
  rw [if_pos (le_LIM (by decide))]
  have h : k = 0 ∨ k = 1 ∨ k = 2 := by omega
  rcases h with rfl | rfl | rfl <;> rfl
theorem joinL_one : ∀ l : List Nat, joinL [] (l.map fun c => [c]) = l
  | [] => rfl
  | [c] => rfl
  | c :: d :: l => by
    have ih := joinL_one (d :: l)
    simp only [List.map_cons] at ih ⊢
    show [c] ++ ([] ++ joinL [] ([d] :: l.map fun c => [c])) = c :: d :: l
    rw [ih]; rfl
theorem allStr_signs (l : List Nat) : allStr (l.map fun c => PV.str [c]) = some (l.map fun c => [c]) := by
  induction l with
  | nil => rfl
  | cons c l ih => simp only [List.map_cons, allStr, ih]; rfl
theorem sum_ones (l : List Nat) : ((l.map fun c => [c]).map (·.length)).sum = l.length := by
  induction l with
  | nil => rfl
  | cons c l ih => simp only [List.map_cons, List.sum_cons, ih, List.length_cons, List.length_nil]; omega
theorem join_signs {l : List Nat} (h : l.length ≤ 1000) : mJoin (.str []) [.lst (l.map fun c => .str [c])] = some (.str l) := by
  show ((allStr (l.map fun c => PV.str [c])).bind fun ss => if (ss.map (·.length)).sum + ss.length * ([] : List Nat).length ≤ LIM then some (PV.str (joinL [] ss)) else none) = _
  rw [allStr_signs, Option.bind_some, sum_ones, joinL_one, if_pos (le_LIM (by simpa using h))]
theorem rep_mem {u : List Nat} {q c : Nat} (h : c ∈ (List.replicate q u).flatten) : c ∈ u := by
  obtain ⟨v, hv, hc⟩ := List.mem_flatten.mp h
  rw [(List.mem_replicate.mp hv).2] at hc
  exact hc
noncomputable def wellB : SX := sSet (eBin pMod (eB bInt [eBin pAdd (eBin pAdd (eBin pMul (eVar 3) (eC (.int 45013))) (eBin pMod (eB bInt [eVar 4]) (eC (.int 2147483399)))) (eC (.int 37))]) (eC (.int 2147483563))) (aName 3)
theorem mul_lit {x y : Int} (h : fits 64 y = true) : pMul (.int x) (.int y) = some (.int (x * y)) := by
  show (if small x || small y then some (PV.int (x * y)) else none) = _
  have : small y = true := h
  rw [this, Bool.or_true, if_pos rfl]
theorem mul_lit' {x y : Int} (h : fits 64 x = true) : pMul (.int x) (.int y) = some (.int (x * y)) := by
  show (if small x || small y then some (PV.int (x * y)) else none) = _
  have : small x = true := h
  rw [this, Bool.true_or, if_pos rfl]
theorem forM_well {a b c : Option PV} : ∀ (zs : List Int) (st : Int) (o : Option PV) (s : MS), ∃ (st' : Int) (o' : Option PV), Mr.forM (aName 4) wellB (zs.map .int) [a, b, c, some (.int st), o] s = .nx [a, b, c, some (.int st'), o'] s
  | [], st, o, s => ⟨st, o, rfl⟩
  | z :: zs, st, o, s => by
    have m1 := mul_lit (x := st) (y := 45013) (fits_lit (by decide) (by decide))
    obtain ⟨st', o', e⟩ := forM_well (a := a) (b := b) (c := c) zs ((st * 45013 + z % 2147483399 + 37) % 2147483563) (some (.int z)) s
    refine ⟨st', o', ?_⟩
    rw [List.map_cons]
    have hb : wellB [a, b, c, some (.int st), some (.int z)] s = .nx [a, b, c, some (.int ((st * 45013 + z % 2147483399 + 37) % 2147483563)), some (.int z)] s := by
      simp [wellB, m1, bInt, pMod, pAdd]
    show (match (match wellB [a, b, c, some (.int st), some (.int z)] s with
      | .nx e s => Mr.forM (aName 4) wellB (zs.map .int) e s
      | .ct e s => Mr.forM (aName 4) wellB (zs.map .int) e s
      | .bk e s => .nx e s
      | r => r) with
      | r => r) = _
    rw [hb]
    exact e
theorem allInt_map : ∀ l : List Int, allInt (l.map .int) = some l
  | [] => rfl
  | z :: l => by simp only [List.map_cons, allInt, allInt_map l]; rfl
theorem cutL_map {α β : Type} (f : α → β) (l : List α) (a b : Option Int) : cutL (l.map f) a b = (cutL l a b).map f := by
  unfold cutL
  rw [List.length_map, List.map_take, List.map_drop]
theorem cutL_len {α : Type} (l : List α) (a b : Option Int) : (cutL l a b).length ≤ l.length := by
  unfold cutL
  rw [List.length_take, List.length_drop]; omega
theorem pow_len (u : List Nat) (q : Nat) : (powL u q).length = q * u.length := rep_len u q
theorem Least.uniq {l : List Nat} {p q : Nat} (h : Least l p) (h2 : Least l q) : p = q := by
  rcases Nat.lt_trichotomy p q with c | c | c
  · exact absurd h.per (h2.low p h.pos c h.dvd)
  · exact c
  · exact absurd h2.per (h.low q h2.pos c h2.dvd)
/-- the end from d on begins the word -/
def Bor (l : List Nat) (d : Nat) : Prop := l.take (l.length - d) = l.drop d
instance {l : List Nat} {d : Nat} : Decidable (Bor l d) := inferInstanceAs (Decidable (_ = _))
/-- m is the least turn of l -/
structure Ring (l m : List Nat) : Prop where
  turn : ∃ k, m = rot l k
  low : ∀ k, ¬ rot l k < m
theorem Ring.uniq {l m n : List Nat} (h : Ring l m) (h2 : Ring l n) : m = n := by
  obtain ⟨a, rfl⟩ := h.turn
  obtain ⟨b, rfl⟩ := h2.turn
  exact lt_trichotomy _ _ (h2.low a) (h.low b)
theorem minL_mem (x : List Nat) (ss : List (List Nat)) : minL x ss ∈ x :: ss ∧ ∀ y ∈ x :: ss, ¬ y < minL x ss := by
  unfold minL
  induction ss generalizing x with
  | nil => exact ⟨by simp, fun y hy => by simp at hy; rw [hy]; exact List.lt_irrefl _⟩
  | cons z ss ih =>
    rw [List.foldl_cons]
    by_cases c : z < x
    · rw [if_pos c]
      obtain ⟨h1, h2⟩ := ih z
      refine ⟨by rcases List.mem_cons.mp h1 with h | h <;> simp [h], fun y hy => ?_⟩
      rcases List.mem_cons.mp hy with rfl | hy
      · exact fun q => h2 z List.mem_cons_self (List.lt_trans c q)
      · exact h2 y hy
    · rw [if_neg c]
      obtain ⟨h1, h2⟩ := ih x
      refine ⟨by rcases List.mem_cons.mp h1 with h | h <;> simp [h], fun y hy => ?_⟩
      rcases List.mem_cons.mp hy with rfl | hy
      · exact h2 y List.mem_cons_self
      · rcases List.mem_cons.mp hy with rfl | hy
        · intro q
          exact absurd (List.not_lt.mpr (List.le_trans (List.not_lt.mp (h2 x List.mem_cons_self)) (List.not_lt.mp c))) (by simpa using q)
        · exact h2 y (List.mem_cons_of_mem _ hy)
/-- all turns, as they come -/
def turnsL (l : List Nat) : List (List Nat) := (List.range (max 1 l.length)).map (rot l)
theorem mem_turnsL {l x : List Nat} : x ∈ turnsL l ↔ ∃ k, x = rot l k := by
  unfold turnsL
  rw [List.mem_map]
  constructor
  · rintro ⟨k, _, rfl⟩; exact ⟨k, rfl⟩
  · rintro ⟨k, rfl⟩
    rcases Nat.eq_zero_or_pos l.length with h | h
    · have : l = [] := List.length_eq_zero_iff.mp h
      subst this
      exact ⟨0, by simp, by simp [rot]⟩
    · exact ⟨k % l.length, by have := Nat.mod_lt k h; rw [List.mem_range]; omega, rot_mod l k⟩
theorem turnsL_cons (l : List Nat) : ∃ ss, turnsL l = l :: ss := by
  obtain ⟨n, hn⟩ : ∃ n, max 1 l.length = n + 1 := ⟨max 1 l.length - 1, by omega⟩
  refine ⟨((List.range n).map Nat.succ).map (rot l), ?_⟩
  unfold turnsL
  rw [hn, List.range_succ_eq_map, List.map_cons, rot_zero]
/-- the ring of a word -/
def ringT (l : List Nat) : List Nat := minL l (turnsL l).tail
theorem ringT_ring (l : List Nat) : Ring l (ringT l) := by
  obtain ⟨ss, e⟩ := turnsL_cons l
  have h := minL_mem l (turnsL l).tail
  have e2 : l :: (turnsL l).tail = turnsL l := by rw [e]; rfl
  rw [e2] at h
  exact ⟨mem_turnsL.mp h.1, fun k => h.2 _ (mem_turnsL.mpr ⟨k, rfl⟩)⟩
theorem Ring.eq {l m : List Nat} (h : Ring l m) : ringT l = m := (ringT_ring l).uniq h
/-- not empty, less than each of its shorter ends -/
def Lyn (l : List Nat) : Prop := l ≠ [] ∧ ∀ i, 0 < i → i < l.length → l < l.drop i
/-- all words of n letters, k long -/
def allW (n : Nat) : Nat → List (List Nat)
  | 0 => [[]]
  | k + 1 => (allW n k).flatMap fun w => (abc.take n).map fun c => w ++ [c]
theorem flat_len {α β : Type} (f : α → List β) (n : Nat) (h : ∀ a, (f a).length = n) : ∀ l : List α, (l.flatMap f).length = l.length * n
  | [] => by simp
  | a :: l => by rw [List.flatMap_cons, List.length_append, h, flat_len f n h l, List.length_cons, Nat.succ_mul]; omega
theorem abc_take_len {n : Nat} (h : n ≤ 3) : (abc.take n).length = n := by rw [List.length_take]; show min n 3 = n; omega
theorem allW_len {n : Nat} (h : n ≤ 3) : ∀ k, (allW n k).length = n ^ k
  | 0 => rfl
  | k + 1 => by
    show ((allW n k).flatMap fun w => (abc.take n).map fun c => w ++ [c]).length = _
    rw [flat_len _ n (fun a => by rw [List.length_map, abc_take_len h]), allW_len h k, Nat.pow_succ]
theorem allW_wd {n : Nat} : ∀ (k : Nat) (w : List Nat), w ∈ allW n k → w.length = k ∧ ∀ c ∈ w, c ∈ abc.take n
  | 0, w, h => by
    have : w = [] := by simpa [allW] using h
    subst this; simp
  | k + 1, w, h => by
    obtain ⟨u, hu, hw⟩ := List.mem_flatMap.mp h
    obtain ⟨c, hc, rfl⟩ := List.mem_map.mp hw
    obtain ⟨h1, h2⟩ := allW_wd k u hu
    refine ⟨by rw [List.length_append, h1]; rfl, fun d hd => ?_⟩
    rcases List.mem_append.mp hd with hd | hd
    · exact h2 d hd
    · simp at hd; rw [hd]; exact hc
theorem mem_abc_take {n c : Nat} (hn : n ≤ 3) : c ∈ abc.take n ↔ 97 ≤ c ∧ c < 97 + n := by
  have : n = 0 ∨ n = 1 ∨ n = 2 ∨ n = 3 := by omega
  rcases this with rfl | rfl | rfl | rfl <;> simp [abc] <;> omega
/-- a row: which call, what it is given, what is due -/
structure Row where
  w : Nat
  one : PV
  two : PV
  three : PV
  nm : List Nat
  q : PV
def Row.inj (r : Row) : PV := .tup [.int (r.w : Nat), r.one, r.two, r.three, .lst [.str r.nm, r.q]]
theorem drawn_list {n : Nat} : ∀ {ys : List PV}, (∀ y ∈ ys, ∃ c ∈ abc.take n, y = .str [c]) → ∃ l : List Nat, ys = l.map (fun c => PV.str [c]) ∧ ∀ c ∈ l, c ∈ abc.take n
  | [], _ => ⟨[], rfl, fun c hc => by cases hc⟩
  | y :: ys, h => by
    obtain ⟨c, hc, rfl⟩ := h y List.mem_cons_self
    obtain ⟨l, rfl, hl⟩ := drawn_list fun y hy => h y (List.mem_cons_of_mem _ hy)
    refine ⟨c :: l, rfl, fun d hd => ?_⟩
    rcases List.mem_cons.mp hd with rfl | hd
    · exact hc
    · exact hl d hd
theorem m__law_well_ap {ns : List Int} {t : Nat} {s : MS} (hn : ns.length ≤ 63) (ht : t ≤ 10) : ∃ s', m__law_well [.scr (ns.map .int), .int (t : Nat)] s = .ok (.obj s.n) s' ∧ WS s.n s' := by
  have hl : bLen [.scr (ns.map PV.int)] = some (.int (ns.length : Nat)) := by
    show (seqOf (.scr (ns.map PV.int))).map (fun l => PV.int l.length) = _
    simp [seqOf]
  have own : ∃ z : Int, eIf (tCm pLt (eVar 1) (eB bLen [eVar 0])) (eB bInt [eBin pIx (eVar 0) (eVar 1)]) (eBin pAdd (eBin pAdd (eBin pMul (eC (.int 9311)) (eVar 1)) (eBin pMod (eB bInt [eB bSum [eCut (eVar 0) (oNone) (oSome (eC (.int 2)))]]) (eC (.int 1000003)))) (eC (.int 71))) [some (.scr (ns.map .int)), some (.int (t : Nat)), none, none, none] s = .ok (.int z) s := by
    by_cases h : t < ns.length
    · have h' : ((t : Nat) : Int) < (ns.length : Nat) := by omega
      refine ⟨ns[t], ?_⟩
      simp [hl, pLt, h, pIx, atL, ixL, bInt]
    · have h' : ¬ ((t : Nat) : Int) < (ns.length : Nat) := by omega
      have m1 := mul_lit' (x := 9311) (y := (t : Nat)) (fits_lit (by decide) (by decide))
      have hc : pCut (.scr (ns.map PV.int)) none (some 2) = some (.lst ((cutL ns none (some 2)).map .int)) := by
        show some (PV.lst (cutL (ns.map PV.int) none (some 2))) = _
        rw [cutL_map]
      have hsu : bSum [.lst ((cutL ns none (some 2)).map .int)] = some (.int (cutL ns none (some 2)).sum) := by
        show (allInt ((cutL ns none (some 2)).map .int)).map (fun ns => PV.int ns.sum) = _
        rw [allInt_map]; rfl
      refine ⟨9311 * (t : Nat) + (cutL ns none (some 2)).sum % 1000003 + 71, ?_⟩
      simp only [ap_if, ap_tcm, ap_var, ap_b, ap_cons, ap_nil, List.getElem?_cons_zero, List.getElem?_cons_succ, bind_ok, List.map, d_int, d_scr, hl, ofO_some, pLt, decide_eq_false h', if_neg Bool.false_ne_true, ap_bin, ap_c, m1, ap_cut, ap_none, ap_osome, oInt_int, lift_some, hc, d_lst, hsu, bInt, show ∀ x : Int, pMod (.int x) (.int 1000003) = some (.int (x % 1000003)) from fun x => rfl, show ∀ x y : Int, pAdd (.int x) (.int y) = some (.int (x + y)) from fun _ _ => rfl]
  obtain ⟨z, hz⟩ := own
  have m2 := mul_lit' (x := 1013) (y := (t : Nat)) (fits_lit (by decide) (by decide))
  obtain ⟨st', o', hfor⟩ := forM_well (a := some (.scr (ns.map .int))) (b := some (.int (t : Nat))) (c := some (.int z)) (cutL ns none (some 5) ++ [z]) (50021 + 1013 * (t : Nat)) none s
  have hcat : pAdd (.lst ((cutL ns none (some 5)).map .int)) (.lst [.int z]) = some (.lst ((cutL ns none (some 5) ++ [z]).map .int)) := by
    show (if ((cutL ns none (some 5)).map PV.int).length + [PV.int z].length ≤ LIM then some (PV.lst ((cutL ns none (some 5)).map PV.int ++ [PV.int z])) else none) = _
    rw [if_pos (le_LIM (by have := cutL_len ns none (some 5); simp; omega)), List.map_append]
    rfl
  have hcut : pCut (.scr (ns.map PV.int)) none (some 5) = some (.lst ((cutL ns none (some 5)).map .int)) := by
    show some (PV.lst (cutL (ns.map PV.int) none (some 5))) = _
    rw [cutL_map]
  have a1 : ∀ x y : Int, pAdd (.int x) (.int y) = some (.int (x + y)) := fun _ _ => rfl
  have h1L : (1 : Nat) ≤ LIM := le_LIM (by decide)
  have h3L : (3 : Nat) ≤ LIM := le_LIM (by decide)
  have p17 : pPow (.int 10) (.int 17) = some (.int (10 ^ 17)) := by
    show (if (0 : Int) ≤ 17 ∧ fits 19 17 = true ∧ fits 64 10 = true then some (PV.int (10 ^ (17 : Int).toNat)) else none) = _
    rw [if_pos ⟨by decide, fits_lit (by decide) (by decide), fits_lit (by decide) (by decide)⟩]; rfl
  have hfirst : ∃ a : Int, eIf (tOr2 (tCm pLt (eVar 2) (eC (.int 0))) (tCm pGe (eVar 2) (eBin pPow (eC (.int 10)) (eC (.int 17))))) (eB bAbs [eVar 2]) (eC (.int 0)) [some (.scr (ns.map .int)), some (.int (t : Nat)), some (.int z), some (.int st'), o'] s = .ok (.int a) s := by
    have e1 : eB bAbs [eVar 2] [some (.scr (ns.map .int)), some (.int (t : Nat)), some (.int z), some (.int st'), o'] s = .ok (.int (if z < 0 then -z else z)) s := by
      simp only [ap_b, ap_cons, ap_nil, ap_var, List.getElem?_cons_zero, List.getElem?_cons_succ, bind_ok, List.map, d_int, bAbs, ofO_some]
    by_cases c1 : z < 0
    · exact ⟨_, by rw [ap_if]; simp only [ap_or2, ap_tcm, ap_var, ap_c, List.getElem?_cons_zero, List.getElem?_cons_succ, bind_ok, d_int, pLt, decide_eq_true c1, ofO_some, if_true]; exact e1⟩
    · by_cases c2 : z < 10 ^ 17
      · refine ⟨0, ?_⟩
        simp only [ap_if, ap_or2, ap_tcm, ap_var, ap_c, ap_bin, List.getElem?_cons_zero, List.getElem?_cons_succ, bind_ok, d_int, pLt, decide_eq_false c1, ofO_some, if_neg Bool.false_ne_true, p17, pGe, qLt, decide_eq_true c2, Option.map, Bool.not_true]
      · refine ⟨(if z < 0 then -z else z), ?_⟩
        · rw [ap_if]
          simp only [ap_or2, ap_tcm, ap_var, ap_c, ap_bin, List.getElem?_cons_zero, List.getElem?_cons_succ, bind_ok, d_int, pLt, decide_eq_false c1, ofO_some, if_neg Bool.false_ne_true, p17, pGe, qLt, decide_eq_false c2, Option.map, Bool.not_false, if_true]
          exact e1
  obtain ⟨a, ha⟩ := hfirst
  refine ⟨s.new (.lst [.int a, .int st', .int 0]), ?_, ⟨⟨a, st', 0, new_m s _⟩, Nat.lt_succ_self _⟩⟩
  unfold m__law_well
  rw [defF_ap, ap_sseq, ap_sset]
  show (SRes.then ((eIf _ _ _ [some (.scr (ns.map .int)), some (.int (t : Nat)), none, none, none] s).sbind _ _) _).fin = _
  rw [hz, sbind_ok]
  show (SRes.then (SRes.nx [some (.scr (ns.map .int)), some (.int (t : Nat)), some (.int z), none, none] s) _).fin = _
  rw [then_nx, ap_sseq, ap_sset]
  simp only [ap_bin, ap_c, ap_var, List.getElem?_cons_zero, List.getElem?_cons_succ, bind_ok, d_int, m2, ofO_some, a1, sbind_ok, ap_name, List.set, then_nx]
  rw [ap_sseq, ap_sfor]
  have hi : iSeq (eBin pAdd (eCut (eVar 0) (oNone) (oSome (eC (.int 5)))) (eLst [eVar 2])) [some (.scr (ns.map .int)), some (.int (t : Nat)), some (.int z), some (.int (50021 + 1013 * (t : Nat))), none] s = .ok ((cutL ns none (some 5) ++ [z]).map .int) s := by
    simp only [ap_seq, ap_bin, ap_cut, ap_var, ap_none, ap_osome, ap_c, oInt_int, lift_some, List.getElem?_cons_zero, List.getElem?_cons_succ, bind_ok, d_scr, hcut, ofO_some, ap_lst, ap_cons, ap_nil, List.length_cons, List.length_nil, Nat.zero_add, h1L, if_true, d_lst, hcat, elems]
  rw [hi, sbind_ok]
  show (SRes.then (Mr.forM (aName 4) wellB ((cutL ns none (some 5) ++ [z]).map .int) [some (.scr (ns.map .int)), some (.int (t : Nat)), some (.int z), some (.int (50021 + 1013 * (t : Nat))), none] s) _).fin = _
  rw [hfor, then_nx, ap_sret, ap_lstM, ap_cons, ha]
  simp only [bind_ok, ap_cons, ap_nil, ap_var, ap_c, List.getElem?_cons_zero, List.getElem?_cons_succ, List.length_cons, List.length_nil, Nat.zero_add, Nat.reduceAdd, h3L, if_true, sbind_ok, fin_rt]
theorem all_at {α : Type} {V : PV → Prop} {xs : List α} {ys : List PV} (hl : ys.length = xs.length) (hv : ∀ (j : Nat) x y, xs[j]? = some x → ys[j]? = some y → V y) : ∀ y ∈ ys, V y := fun y hy => by
  obtain ⟨j, hj, rfl⟩ := List.mem_iff_getElem.mp hy
  exact hv j _ _ (List.getElem?_eq_getElem (by omega : j < xs.length)) (List.getElem?_eq_getElem hj)
theorem range_at {n k : Nat} {done rest : List Nat} (h : done ++ k :: rest = List.range n) : done = List.range k ∧ k = done.length := by
  have h1 : (done ++ k :: rest)[done.length]? = some k := by simp
  rw [h] at h1
  have hl := congrArg List.length h
  rw [List.length_append, List.length_cons, List.length_range] at hl
  rw [List.getElem?_range (by omega)] at h1
  have e : k = done.length := (Option.some.inj h1).symm
  refine ⟨?_, e⟩
  have h2 := congrArg (List.take done.length) h
  rw [List.take_left] at h2
  rw [h2, List.take_range, e]
  congr 1; omega
theorem noObjs_map {α : Type} {f : α → PV} (h : ∀ a, noObj (f a) = true) (l : List α) : noObjs (l.map f) = true := by
  induction l with
  | nil => rfl
  | cons x l ih => simp only [List.map_cons, noObjs, h, ih, Bool.and_self]
theorem wd_revR {l : List Nat} (h : Wd l) : Wd l.reverse := ⟨by rw [List.length_reverse]; exact h.1, fun c hc => h.2 c (by simpa using hc)⟩
def condP (ps : List (List Nat)) (k : Nat) : Prop := k + 1 < ps.length ∧ ps.getD k [] < ps.getD (k + 1) []
instance (ps : List (List Nat)) (k : Nat) : Decidable (condP ps k) := inferInstanceAs (Decidable (_ ∧ _))
theorem wd_drop' {l : List Nat} {a : Nat} (h : Wd l) : Wd (l.drop a) := ⟨by rw [List.length_drop]; have := h.1; omega, fun c hc => h.2 c (List.mem_of_mem_drop hc)⟩
def okT : Nat → PV → Bool
  | 0, _ => false
  | n + 1, .tup l => l.all (okT n) && decide (l.length ≤ 1000)
  | n + 1, .lst l => l.all (okT n) && decide (l.length ≤ 1000)
  | _ + 1, .non => true
  | _ + 1, .bl _ => true
  | _ + 1, .int _ => true
  | _ + 1, .str _ => true
  | _, _ => false
theorem same_T : ∀ (n : Nat) (p : PV) (s : MS), okT n p = true → m__law_same n [p, p] s = .ok (.bl true) s
  | 0, p, s, h => by simp [okT] at h
  | n + 1, .tup l, s, h => by
    simp only [okT, Bool.and_eq_true, decide_eq_true_eq, List.all_eq_true] at h
    have h2 := h.2
    have i1 : bIsi [.tup l, .ty "tuple"] = some (.bl true) := rfl
    have i3 : bIsi [.tup l, .ty "list"] = some (.bl false) := rfl
    have i2 : decide (((l.length : Nat) : Int) = ((l.length : Nat) : Int)) = true := decide_eq_true rfl
    apply Ok.eq
    simp_arith [m__law_same, i1, i2, i3]
    try simp only [ok_bind, sw_then, sw_sbind, ok_fin]
    refine ok_comp (inj := fun k : Nat => PV.int (k : Nat)) (fun k => .bl true) (fun k hk s => ?_) ?_
    · have hk := List.mem_range.mp hk
      have hx : pIx (.tup l) (.int (k : Nat)) = some l[k] := v_ix_tup (by omega) (by rw [Int.toNat_natCast]; exact List.getElem?_eq_getElem hk)
      simp_arith [hx, same_T n _ s (h.1 _ (List.getElem_mem hk))]
    · simp_arith [v_all]
      simp
  | n + 1, .lst l, s, h => by
    simp only [okT, Bool.and_eq_true, decide_eq_true_eq, List.all_eq_true] at h
    have h2 := h.2
    have i1 : bIsi [.lst l, .ty "tuple"] = some (.bl false) := rfl
    have i3 : bIsi [.lst l, .ty "list"] = some (.bl true) := rfl
    have i2 : decide (((l.length : Nat) : Int) = ((l.length : Nat) : Int)) = true := decide_eq_true rfl
    apply Ok.eq
    simp_arith [m__law_same, i1, i2, i3]
    try simp only [ok_bind, sw_then, sw_sbind, ok_fin]
    refine ok_comp (inj := fun k : Nat => PV.int (k : Nat)) (fun k => .bl true) (fun k hk s => ?_) ?_
    · have hk := List.mem_range.mp hk
      have hx : pIx (.lst l) (.int (k : Nat)) = some l[k] := v_ix_lst (by omega) (by rw [Int.toNat_natCast]; exact List.getElem?_eq_getElem hk)
      simp_arith [hx, same_T n _ s (h.1 _ (List.getElem_mem hk))]
    · simp_arith [v_all]
      simp
  | n + 1, .non, s, h => by simp [m__law_same, defF_ap, startE, bIsi, tyOf, kinds, isSub, pIs, isNon]
  | n + 1, .bl b, s, h => by cases b <;> simp [m__law_same, defF_ap, startE, bIsi, tyOf, kinds, isSub, pIs, isNon, isBl, pEq2, pEq, isD, dep, eqB]
  | n + 1, .int z, s, h => by simp [m__law_same, defF_ap, startE, bIsi, tyOf, kinds, isSub, pIs, isNon, isBl, pEq2, pEq, isD, dep, eqB]
  | n + 1, .str l, s, h => by simp [m__law_same, defF_ap, startE, bIsi, tyOf, kinds, isSub, pIs, isNon, isBl, pEq2, pEq, isD, dep, eqB]
  | n + 1, .dct _ _ _, s, h => by simp [okT] at h
  | n + 1, .set _, s, h => by simp [okT] at h
  | n + 1, .obj _, s, h => by simp [okT] at h
  | n + 1, .ty _, s, h => by simp [okT] at h
  | n + 1, .scr _, s, h => by simp [okT] at h
theorem words_AB {s : MS} {k : Nat} (hk : k ≤ 6) : m__law_words [.int (k : Nat), .str [97, 98]] s = .ok (.lst ((allW 2 k).map .str)) s := by
  apply Ok.eq
  unfold m__law_words
  refine ok_gc ?_
  simp_arith! []
  try simp only [ok_bind, sw_then, sw_sbind, ok_fin]
  refine sw_for (inj := fun j : Nat => PV.int (j : Nat)) (xs := List.range k) (fun done e s' => (∃ a b c d, e = [some (.int (k : Nat)), some (.str [97, 98]), some (.lst ((allW 2 done.length).map .str)), a, b, c, d]) ∧ Agree s s' ∧ s.n ≤ s'.n) ⟨⟨_, _, _, _, rfl⟩, agree_refl s, Nat.le_refl _⟩ (fun done x rest e s' hd hI => ?_) (fun e s' hI => ?_)
  · obtain ⟨⟨a, b, c, d, rfl⟩, hag, hsn⟩ := hI
    have hdl : done.length < k := by
      have := congrArg List.length hd
      rw [List.length_append, List.length_cons, List.length_range] at this
      omega
    have h64 : 2 ^ done.length ≤ 64 := Nat.pow_le_pow_right (by decide) (show done.length ≤ 6 by omega)
    have hlen := allW_len (n := 2) (by decide) done.length
    simp_arith! []
    try simp only [ok_bind, sw_then, sw_sbind, ok_fin]
    refine sw_for (inj := PV.str) (xs := allW 2 done.length) (fun dn e s'' => (∃ a c d, e = [some (.int (k : Nat)), some (.str [97, 98]), some (.lst ((allW 2 done.length).map .str)), a, some (.obj s'.n), c, d]) ∧ s'' = s'.new (.lst ((dn.flatMap fun w => (abc.take 2).map fun c => w ++ [c]).map .str))) ⟨⟨_, _, _, rfl⟩, rfl⟩ (fun dn w rst e s'' hdn hI => ?_) (fun e s'' hI => ?_)
    · obtain ⟨⟨a, c, d, rfl⟩, rfl⟩ := hI
      have hw : w ∈ allW 2 done.length := by rw [← hdn]; simp
      have hwl := (allW_wd _ w hw).1
      have hdnl : dn.length ≤ 64 := by
        have := congrArg List.length hdn
        rw [List.length_append] at this
        omega
      have hfl : (dn.flatMap fun w => (abc.take 2).map fun c => w ++ [c]).length ≤ 128 := by
        rw [flat_len _ 2 (fun a => by rw [List.length_map, abc_take_len (by decide)])]
        omega
      generalize hS : s'.new (.lst ((dn.flatMap fun w => (abc.take 2).map fun c => w ++ [c]).map .str)) = S
      have hSm : S.m s'.n = some (.lst ((dn.flatMap fun w => (abc.take 2).map fun c => w ++ [c]).map .str)) := by rw [← hS]; exact new_m _ _
      have harg : eList [eComp [6] (iSeq (eVar 1)) (aName 6) (tYs) (eBin pAdd (eVar 5) (eVar 6))] [some (.int (k : Nat)), some (.str [97, 98]), some (.lst ((allW 2 done.length).map .str)), a, some (.obj s'.n), some (.str w), d] S = .ok [.lst ((abc.take 2).map fun c => .str (w ++ [c]))] S := by
        apply Ok.eq
        have hel : elems (.str [97, 98]) = some ((abc.take 2).map fun c => .str [c]) := v_el_str (a := [97, 98])
        simp_arith! [hel]
        try simp only [ok_bind, sw_then, sw_sbind, ok_fin]
        refine ok_comp (inj := fun c : Nat => PV.str [c]) (xs := abc.take 2) (fun c => .str (w ++ [c])) (fun c hc s => ?_) ?_
        · simp_arith! []
        · simp_arith! []
          first | trivial | exact ⟨trivial, trivial⟩ | simp
      have hm := mut_ap (m := uExtend) (fo := eVar 4) (z := .non) (l' := ((dn ++ [w]).flatMap fun w => (abc.take 2).map fun c => w ++ [c]).map .str) (e := [some (.int (k : Nat)), some (.str [97, 98]), some (.lst ((allW 2 done.length).map .str)), a, some (.obj s'.n), some (.str w), d]) rfl hSm harg (by
        have hL : ((dn.flatMap fun w => (abc.take 2).map fun c => w ++ [c]).map PV.str).length + ((abc.take 2).map fun c => PV.str (w ++ [c])).length ≤ LIM := by
          rw [List.length_map, List.length_map]
          exact le_lim (by rw [abc_take_len (by decide)]; omega)
        show (if ((dn.flatMap fun w => (abc.take 2).map fun c => w ++ [c]).map PV.str).length + ((abc.take 2).map fun c => PV.str (w ++ [c])).length ≤ LIM then _ else _) = _
        rw [if_pos hL]
        congr 2
        simp only [List.flatMap_append, List.map_append, List.flatMap_cons, List.flatMap_nil, List.append_nil, List.map_map]
        rfl)
      rw [← hS, new_put] at hm
      rw [← hS]
      rw [hS] at hm ⊢
      simp_arith! [hm]
      exact ⟨⟨_, _, _, rfl⟩, by first | rfl | trivial⟩
    · obtain ⟨⟨a, c, d, rfl⟩, rfl⟩ := hI
      have hdd : (done ++ [x]).length = done.length + 1 := by simp
      have hf := frz_ap (i := 4) (e := [some (.int (k : Nat)), some (.str [97, 98]), some (.lst ((allW 2 done.length).map .str)), a, some (.obj s'.n), c, d]) rfl (new_m s' (.lst (((allW 2 done.length).flatMap fun w => (abc.take 2).map fun c => w ++ [c]).map .str)))
      simp only [st_setS, st_set0] at hf
      simp_arith! [hf]
      exact ⟨⟨_, _, _, _, by rw [hdd]; rfl⟩, agree_del (agree_new hag hsn) hsn, Nat.le_succ_of_le hsn⟩
  · obtain ⟨⟨a, b, c, d, rfl⟩, hag, hsn⟩ := hI
    rw [List.length_range]
    simp_arith! []
    exact ⟨noObjs_map (fun _ => rfl) _, hag, by first | exact ⟨rfl, rfl⟩ | exact ⟨rfl, trivial⟩ | trivial⟩
theorem tk' {i n : Nat} {s : MS} (h : WS i s) (h0 : 0 < n) (h1 : n ≤ 1000) : ∃ (k : Nat) (s' : MS), m__law_take [.obj i, .int (n : Nat)] s = .ok (.int (k : Nat)) s' ∧ k < n ∧ WS i s' := m__law_take_ap h h0 h1
theorem m__law_word_W {i most : Nat} {s : MS} (h : WS i s) (hm : most ≤ 12) : ∃ l s', m__law_word [.obj i, .int (most : Nat)] s = .ok (.str l) s' ∧ Wd l ∧ l.length ≤ most ∧ WS i s' := by
  have key : Ok (m__law_word [.obj i, .int (most : Nat)] s) (fun v s' => ∃ l, v = .str l ∧ Wd l ∧ l.length ≤ most ∧ WS i s') NoX := by
    obtain ⟨q, s1, e1, hq, h1⟩ := tk' (n := most + 1) h (by omega) (by omega)
    obtain ⟨way, s2, e2, hw, h2⟩ := tk' (n := 4) h1 (by decide) (by decide)
    have draw : ∀ m, 1 ≤ m → m ≤ 3 → ∀ s, WS i s → ∃ k s', m__law_take [.obj i, .int (m : Nat)] s = .ok (.int (k : Nat)) s' ∧ k < 3 ∧ sg k ∈ abc.take 3 ∧ WS i s' := fun m m1 m2 s hs => by
      obtain ⟨k, s2, e2, hk, h2⟩ := tk' (n := m) hs (by omega) (by omega)
      exact ⟨k, s2, e2, by omega, (mem_abc_take (by decide)).mpr (by unfold sg; omega), h2⟩
    by_cases w3 : way = 3
    · obtain ⟨z, s3, e3, hz, h3⟩ := tk' (n := 3) h2 (by decide) (by decide)
      simp_arith! [m__law_word, e1, e2, w3, e3]
      try simp only [ok_bind, sw_then, sw_sbind, ok_fin]
      refine ok_compI (inj := fun t : Nat => PV.int (t : Nat)) (WS i) (fun _ v => ∃ c ∈ abc.take 3, v = .str [c]) h3 (fun x hx s hs => ?_) (fun ys s' hl hv hs' => ?_)
      · obtain ⟨k, s4, e4, hk, hc, h4⟩ := draw 3 (by decide) (by decide) s hs
        simp_arith! [e4, sign_k hk]
        exact ⟨⟨_, hc, rfl⟩, h4⟩
      · obtain ⟨l, rfl, hl2⟩ := drawn_list (all_at hl hv)
        rw [List.length_map, List.length_range] at hl
        have hl5 : l.length ≤ 3 := by omega
        have hpl := pow_len l most
        have hpl2 : most * l.length ≤ 36 := by
          have := Nat.mul_le_mul hm hl5
          omega
        have hml : l.length * most ≤ 36 := by rw [Nat.mul_comm]; exact hpl2
        simp_arith! [join_signs (show l.length ≤ 1000 by omega)]
        refine ⟨_, rfl, ⟨?_, fun c hc => hl2 c (rep_mem (List.mem_of_mem_take hc))⟩, ?_, hs'⟩
        · rw [List.length_take]; omega
        · rw [List.length_take]; omega
    · obtain ⟨m, hm1, hm3, hix⟩ : ∃ m, 1 ≤ m ∧ m ≤ 3 ∧ pIx (.lst [.int ((3 : Nat) : Int), .int ((2 : Nat) : Int), .int ((1 : Nat) : Int)]) (.int (way : Nat)) = some (.int (m : Nat)) := by
        have : way = 0 ∨ way = 1 ∨ way = 2 := by omega
        rcases this with rfl | rfl | rfl
        · exact ⟨3, by decide, by decide, n_L0⟩
        · exact ⟨2, by decide, by decide, n_L1⟩
        · exact ⟨1, by decide, by decide, n_L2⟩
      simp_arith! [m__law_word, e1, e2, w3]
      try simp only [ok_bind, sw_then, sw_sbind, ok_fin]
      refine ok_compI (inj := fun t : Nat => PV.int (t : Nat)) (WS i) (fun _ v => ∃ c ∈ abc.take 3, v = .str [c]) h2 (fun x hx s hs => ?_) (fun ys s' hl hv hs' => ?_)
      · obtain ⟨k, s4, e4, hk, hc, h4⟩ := draw m hm1 hm3 s hs
        simp_arith! [hix, e4, sign_k hk]
        exact ⟨⟨_, hc, rfl⟩, h4⟩
      · obtain ⟨l, rfl, hl2⟩ := drawn_list (all_at hl hv)
        rw [List.length_map, List.length_range] at hl
        simp_arith! [join_signs (show l.length ≤ 1000 by omega)]
        exact ⟨l, rfl, ⟨by omega, hl2⟩, by omega, hs'⟩
  obtain ⟨v, s', e, l, rfl, h1, h2, h3⟩ := key.ex
  exact ⟨l, s', e, h1, h2, h3⟩
/-- how far w goes as a power of a least word -/
structure WI (w : List Nat) (p q : Nat) : Prop where
  q1 : 1 ≤ q
  qp : q ≤ p
  pl : p ≤ w.length
  lyn : Lyn (w.take q)
  per : ∀ i, i < p → q ≤ i → w.getD i 0 = w.getD (i - q) 0
theorem WI.eq {w : List Nat} {p q : Nat} (h : WI w p q) (hp : p < w.length) (e : w.getD p 0 = w.getD (p - q) 0) : WI w (p + 1) q := ⟨h.q1, by have := h.qp; omega, hp, h.lyn, fun i hi hi2 => by
  by_cases c : i = p
  · rw [c]; exact e
  · exact h.per i (by omega) hi2⟩
theorem dd_nums (as : List Nat) : ∃ d : List Nat, ddP (as.map fun n : Nat => PV.int (n : Nat)) = d.map (fun n : Nat => PV.int (n : Nat)) ∧ d.Nodup ∧ ∀ x, x ∈ d ↔ x ∈ as := by
  have key : ∀ (xs ys : List Nat), ys.Nodup → ∃ d : List Nat, (xs.map fun n : Nat => PV.int (n : Nat)).foldl (fun a x => if a.any (fun y => sameK y x) then a else a ++ [x]) (ys.map fun n : Nat => PV.int (n : Nat)) = d.map (fun n : Nat => PV.int (n : Nat)) ∧ d.Nodup ∧ ∀ x, x ∈ d ↔ x ∈ ys ∨ x ∈ xs := by
    intro xs
    induction xs with
    | nil => intro ys hn; exact ⟨ys, rfl, hn, by simp⟩
    | cons x xs ih =>
      intro ys hn
      have hany : ((ys.map fun n : Nat => PV.int (n : Nat)).any fun y => sameK y (PV.int (x : Nat))) = decide (x ∈ ys) := by
        rw [Bool.eq_iff_iff, List.any_eq_true, decide_eq_true_iff]
        constructor
        · rintro ⟨y, hy, hs⟩
          obtain ⟨z, hz, rfl⟩ := List.mem_map.mp hy
          have h2 : (z : Int) = (x : Int) := of_decide_eq_true hs
          have h3 : z = x := by omega
          exact h3 ▸ hz
        · intro h
          exact ⟨_, List.mem_map_of_mem h, decide_eq_true rfl⟩
      rw [List.map_cons, List.foldl_cons, hany]
      by_cases h : x ∈ ys
      · rw [decide_eq_true h, if_pos rfl]
        obtain ⟨d, e, hd, hm⟩ := ih ys hn
        refine ⟨d, e, hd, fun z => ?_⟩
        rw [hm z, List.mem_cons]
        constructor
        · rintro (q | q)
          · exact .inl q
          · exact .inr (.inr q)
        · rintro (q | q | q)
          · exact .inl q
          · exact .inl (q ▸ h)
          · exact .inr q
      · rw [decide_eq_false h, if_neg (by decide)]
        have e0 : (ys.map fun n : Nat => PV.int (n : Nat)) ++ [PV.int (x : Nat)] = (ys ++ [x]).map fun n : Nat => PV.int (n : Nat) := by rw [List.map_append]; rfl
        rw [e0]
        obtain ⟨d, e, hd, hm⟩ := ih (ys ++ [x]) (by
          rw [List.nodup_append]
          refine ⟨hn, by simp, fun a ha b hb => ?_⟩
          rw [List.mem_singleton] at hb
          subst hb
          exact fun e => h (e ▸ ha))
        refine ⟨d, e, hd, fun z => ?_⟩
        rw [hm z, List.mem_append, List.mem_singleton, List.mem_cons, or_assoc]
  obtain ⟨d, e, hd, hm⟩ := key as [] List.nodup_nil
  exact ⟨d, e, hd, fun x => by rw [hm x]; simp⟩
theorem v_srtSetN {as ys : List Nat} (hasc : ys.Pairwise fun a b => a < b) (hm : ∀ x, x ∈ ys ↔ x ∈ as) (hl : as.length < 4000) : bSortSet (.lst (as.map fun n : Nat => PV.int (n : Nat))) = some (.lst (ys.map fun n : Nat => PV.int (n : Nat))) := by
  obtain ⟨d, e, hd, hmd⟩ := dd_nums as
  show (if (kOk (as.map fun n : Nat => PV.int (n : Nat)) && decide ((as.map fun n : Nat => PV.int (n : Nat)).length < 4000)) = true then some (PV.lst (sortV (ddP (as.map fun n : Nat => PV.int (n : Nat))))) else none) = _
  have hk : kOk (as.map fun n : Nat => PV.int (n : Nat)) = true := by
    unfold kOk
    rw [Bool.or_eq_true]
    exact .inr (by simp [List.all_map, Function.comp_def, isNum])
  have ed : d.map (fun n : Nat => PV.int (n : Nat)) = (d.map fun n : Nat => (n : Int)).map PV.int := by rw [List.map_map]; rfl
  have ey : ys.map (fun n : Nat => PV.int (n : Nat)) = (ys.map fun n : Nat => (n : Int)).map PV.int := by rw [List.map_map]; rfl
  have hnd : ys.Nodup := List.Pairwise.imp (fun {a b} (h : a < b) (e : a = b) => Nat.lt_irrefl b (e ▸ h)) hasc
  have hp : ys.Perm d := (List.perm_ext_iff_of_nodup hnd hd).mpr fun x => by rw [hm x, hmd x]
  rw [hk, List.length_map, decide_eq_true hl, if_pos (show (true && true) = true from rfl), e, ed, ey, sortV_nums, ← sorted_nums_uniq (hp.map fun n : Nat => (n : Int)) (List.pairwise_map.mpr (hasc.imp fun h => by omega))]
/-- of the first letters of t so many are the one's, so many the other one's -/
inductive Sh (w o t : List Nat) : Nat → Nat → Prop
  | nil : Sh w o t 0 0
  | one {i j : Nat} : Sh w o t i j → i < w.length → w[i]? = t[i + j]? → Sh w o t (i + 1) j
  | two {i j : Nat} : Sh w o t i j → j < o.length → o[j]? = t[i + j]? → Sh w o t i (j + 1)
theorem Sh.lt {w o t : List Nat} {i j : Nat} (h : Sh w o t i j) : i ≤ w.length ∧ j ≤ o.length := by
  induction h with
  | nil => exact ⟨Nat.zero_le _, Nat.zero_le _⟩
  | one _ a _ ih => exact ⟨a, ih.2⟩
  | two _ a _ ih => exact ⟨ih.1, a⟩
theorem Sh.swap {w o t : List Nat} {i j : Nat} (h : Sh w o t i j) : Sh o w t j i := by
  induction h with
  | nil => exact .nil
  | one _ a b ih => exact .two ih a (by rw [b, Nat.add_comm])
  | two _ a b ih => exact .one ih a (by rw [b, Nat.add_comm])
theorem Sh.pre {w o t t' : List Nat} {i j : Nat} (h : Sh w o t i j) (e : ∀ k, k < i + j → t[k]? = t'[k]?) : Sh w o t' i j := by
  induction h with
  | nil => exact .nil
  | @one i j _ a b ih => exact .one (ih fun k hk => e k (by omega)) a (by rw [b]; exact e _ (by omega))
  | @two i j _ a b ih => exact .two (ih fun k hk => e k (by omega)) a (by rw [b]; exact e _ (by omega))
noncomputable def shD (w o t : List Nat) (i j : Nat) : Bool := @decide (Sh w o t i j) (Classical.propDecidable _)
theorem shD_iff {w o t : List Nat} {i j : Nat} : shD w o t i j = true ↔ Sh w o t i j := by unfold shD; exact @decide_eq_true_iff _ (Classical.propDecidable _)
theorem shD_swap {w o t : List Nat} {i j : Nat} : shD w o t i j = shD o w t j i := by
  rw [Bool.eq_iff_iff, shD_iff, shD_iff]; exact ⟨Sh.swap, Sh.swap⟩
theorem shD_00 {w o t : List Nat} : shD w o t 0 0 = true := shD_iff.mpr .nil
theorem shD_step {w o t : List Nat} {i j : Nat} (hi : i ≤ w.length) (hj : j ≤ o.length) (h : 0 < i + j) :
    shD w o t i j = ((decide (0 < i) && (shD w o t (i - 1) j && decide (w[i - 1]? = t[i + j - 1]?))) || (decide (0 < j) && (shD w o t i (j - 1) && decide (o[j - 1]? = t[i + j - 1]?)))) := by
  rw [Bool.eq_iff_iff, shD_iff]
  simp only [Bool.or_eq_true, Bool.and_eq_true, decide_eq_true_eq, shD_iff]
  constructor
  · intro q
    cases q with
    | nil => omega
    | @one i _ q a b => exact .inl ⟨by omega, q, by rw [show i + 1 + j - 1 = i + j from by omega]; exact b⟩
    | @two _ j q a b => exact .inr ⟨by omega, q, by rw [show i + (j + 1) - 1 = i + j from by omega]; exact b⟩
  · rintro (⟨a, b, c⟩ | ⟨a, b, c⟩)
    · obtain ⟨i, rfl⟩ : ∃ k, i = k + 1 := ⟨i - 1, by omega⟩
      exact .one b (by omega) (by rw [show i + 1 + j - 1 = i + j from by omega] at c; exact c)
    · obtain ⟨j, rfl⟩ : ∃ k, j = k + 1 := ⟨j - 1, by omega⟩
      exact .two b (by omega) (by rw [show i + (j + 1) - 1 = i + j from by omega] at c; exact c)
/-- so many of the one's letters may be gone with p letters -/
noncomputable def goneL (w o t : List Nat) (p : Nat) : List Nat := (List.range (p + 1)).filter fun i => shD w o t i (p - i)
theorem gone_mem {w o t : List Nat} {p i : Nat} : i ∈ goneL w o t p ↔ i ≤ p ∧ Sh w o t i (p - i) := by
  unfold goneL
  rw [List.mem_filter, List.mem_range, shD_iff]
  constructor
  · rintro ⟨a, b⟩; exact ⟨by omega, b⟩
  · rintro ⟨a, b⟩; exact ⟨by omega, b⟩
theorem gone_asc {w o t : List Nat} {p : Nat} : (goneL w o t p).Pairwise fun a b => a < b := List.Pairwise.filter _ List.pairwise_lt_range
theorem gone_0 {w o t : List Nat} : goneL w o t 0 = [0] := by
  unfold goneL
  show List.filter _ [0] = _
  rw [List.filter_cons, if_pos shD_00]; rfl
theorem gone_end {w o t : List Nat} : goneL w o t (w.length + o.length) = if shD w o t w.length o.length = true then [w.length] else [] := by
  have hm : ∀ i, i ∈ goneL w o t (w.length + o.length) ↔ i = w.length ∧ Sh w o t w.length o.length := fun i => by
    rw [gone_mem]
    constructor
    · rintro ⟨a, b⟩
      have := b.lt
      have e : i = w.length := by omega
      subst e
      rw [show w.length + o.length - w.length = o.length from by omega] at b
      exact ⟨rfl, b⟩
    · rintro ⟨rfl, b⟩
      refine ⟨by omega, ?_⟩
      rw [show w.length + o.length - w.length = o.length from by omega]
      exact b
  have hn : (goneL w o t (w.length + o.length)).Nodup := List.Pairwise.imp (fun {a b} (h : a < b) (e : a = b) => Nat.lt_irrefl b (e ▸ h)) gone_asc
  by_cases h : Sh w o t w.length o.length
  · rw [if_pos (shD_iff.mpr h)]
    exact List.perm_singleton.mp ((List.perm_ext_iff_of_nodup hn (by simp)).mpr fun x => by rw [hm x, List.mem_singleton]; exact ⟨fun q => q.1, fun q => ⟨q, h⟩⟩)
  · rw [if_neg (fun q => h (shD_iff.mp q))]
    exact List.eq_nil_iff_forall_not_mem.mpr fun x hx => h ((hm x).mp hx).2
theorem gone_len {w o t : List Nat} {p : Nat} : (goneL w o t p).length ≤ p + 1 := by
  have := List.length_filter_le (fun i => shD w o t i (p - i)) (List.range (p + 1))
  rw [List.length_range] at this
  exact this
theorem gone_step {w o t : List Nat} {p c : Nat} (hc : t[p]? = some c) : ∀ x, x ∈ goneL w o t (p + 1) ↔ x ∈ ((goneL w o t p).filter fun m => decide (w[m]? = some c)).map (· + 1) ++ (goneL w o t p).filter fun m => decide (o[p - m]? = some c) := fun x => by
  rw [List.mem_append, List.mem_map, gone_mem]
  simp only [List.mem_filter, decide_eq_true_eq, gone_mem]
  constructor
  · rintro ⟨a, b⟩
    generalize ej : p + 1 - x = j at b
    cases b with
    | nil => omega
    | @one i _ q a b =>
      refine .inl ⟨i, ⟨⟨by omega, ?_⟩, ?_⟩, rfl⟩
      · rw [show p - i = j from by omega]; exact q
      · rw [b, show i + j = p from by omega]; exact hc
    | @two _ j q a b =>
      refine .inr ⟨⟨by omega, ?_⟩, ?_⟩
      · rw [show p - x = j from by omega]; exact q
      · rw [show p - x = j from by omega, b, show x + j = p from by omega]; exact hc
  · rintro (⟨i, ⟨⟨a, b⟩, c'⟩, rfl⟩ | ⟨⟨a, b⟩, c'⟩)
    · refine ⟨by omega, ?_⟩
      rw [show p + 1 - (i + 1) = p - i from by omega]
      refine .one b (by rcases Nat.lt_or_ge i w.length with z | z; exact z; rw [List.getElem?_eq_none z] at c'; cases c') ?_
      rw [c', show i + (p - i) = p from by omega, hc]
    · refine ⟨by omega, ?_⟩
      rw [show p + 1 - x = (p - x) + 1 from by omega]
      refine .two b (by rcases Nat.lt_or_ge (p - x) o.length with z | z; exact z; rw [List.getElem?_eq_none z] at c'; cases c') ?_
      rw [c', show x + (p - x) = p from by omega, hc]
theorem enum_txt : ∀ (l : List Nat) (k : Nat), enumL (k : Nat) (l.map fun c => PV.str [c]) = (List.range l.length).map fun j => PV.tup [.int ((k + j : Nat) : Int), .str [l.getD j 0]]
  | [], k => rfl
  | x :: P, k => by
    have ih := enum_txt P (k + 1)
    rw [List.length_cons, List.range_succ_eq_map, List.map_cons, List.map_cons, List.map_map]
    show PV.tup [.int (k : Nat), .str [x]] :: enumL ((k : Nat) + 1) (P.map fun c => PV.str [c]) = _
    rw [show ((k : Nat) : Int) + 1 = ((k + 1 : Nat) : Int) by omega, ih]
    congr 1
    refine List.map_congr_left fun j _ => ?_
    show PV.tup [.int ((k + 1 + j : Nat) : Int), .str [P.getD j 0]] = PV.tup [.int ((k + (j + 1) : Nat) : Int), .str [(x :: P).getD (j + 1) 0]]
    rw [show k + 1 + j = k + (j + 1) by omega]; rfl
theorem v_enumT {l : List Nat} : Option.map (enumL 0) (elemsS (.str l)) = some ((List.range l.length).map fun j => PV.tup [.int (j : Nat), .str [l.getD j 0]]) := by
  have h := enum_txt l 0
  simp only [Nat.zero_add] at h
  show some (enumL 0 (l.map fun c => PV.str [c])) = _
  exact congrArg some h
theorem cut_one {w : List Nat} {m c : Nat} : decide (List.take (m + 1 - m) (List.drop m w) = [c]) = decide (w[m]? = some c) := by
  rw [decide_eq_decide, show m + 1 - m = 1 from by omega]
  rcases Nat.lt_or_ge m w.length with h | h
  · rw [List.drop_eq_getElem_cons h, List.take_succ_cons, List.take_zero, List.getElem?_eq_getElem h]
    simp
  · rw [List.drop_eq_nil_of_le h, List.getElem?_eq_none h]; simp
theorem m_check_two_ok {s : MS} {a b : List Nat} (ha : Wd a) (hb : Wd b) : m_check_two_words [.str a, .str b] s = .ok .non s := by
  have a1 := fun s => m_check_word_ok (s := s) ha
  have a2 := fun s => m_check_word_ok (s := s) hb
  apply Ok.eq
  simp_arith! [m_check_two_words, a1, a2]
  exact ⟨trivial, trivial⟩
noncomputable def shB (w o t : List Nat) : Bool := decide (t.length = w.length + o.length) && shD w o t w.length o.length
theorem shB_swap {w o t : List Nat} : shB w o t = shB o w t := by unfold shB; rw [shD_swap, Nat.add_comm]
theorem m_is_shuffle_by_ap {s : MS} {w o t : List Nat} (hw : w.length ≤ 12) (ho : o.length ≤ 12) (ht : t.length ≤ 24) : m_is_shuffle_by [.str w, .str o, .str t] s = .ok (.bl (shB w o t)) s := by
  apply Ok.eq
  by_cases hl : t.length = w.length + o.length
  · have hen := v_enumT (l := t)
    simp_arith! [m_is_shuffle_by, hl, hen]
    try simp only [ok_bind, sw_then, sw_sbind, ok_fin]
    refine sw_for (inj := fun j : Nat => PV.tup [.int (j : Nat), .str [t.getD j 0]]) (xs := List.range (w.length + o.length)) (fun dn e s' => (∃ a b c d g, e = [some (.str w), some (.str o), some (.str t), some (.lst ((goneL w o t dn.length).map fun n : Nat => PV.int (n : Nat))), a, b, c, d, g]) ∧ s' = s) ⟨⟨none, none, none, none, none, by rw [List.length_nil, gone_0]; rfl⟩, rfl⟩ (fun dn j rst e s' hd hI => ?_) (fun e s' hI => ?_)
    · obtain ⟨⟨a, b, c, d, g, rfl⟩, rfl⟩ := hI
      obtain ⟨_, hjl⟩ := range_at hd
      have hj : j < t.length := by rw [hl]; exact List.mem_range.mp (by rw [← hd]; simp)
      obtain ⟨x, hx⟩ : ∃ x, x = t.getD j 0 := ⟨_, rfl⟩
      have hc : t[j]? = some x := by rw [hx, List.getD_eq_getElem?_getD, List.getElem?_eq_getElem hj]; rfl
      have hgl := gone_len (w := w) (o := o) (t := t) (p := j)
      have hmem : ∀ m ∈ goneL w o t j, m ≤ j := fun m hm => (gone_mem.mp hm).1
      have hst := gone_step (w := w) (o := o) hc
      have hasc := gone_asc (w := w) (o := o) (t := t) (p := j + 1)
      have hz : j + 1 = (dn ++ [j]).length := by rw [List.length_append, ← hjl]; rfl
      rw [← hjl, ← hx]
      simp_arith! []
      try simp only [ok_bind, sw_then, sw_sbind, ok_fin]
      refine ok_filt (inj := fun n : Nat => PV.int (n : Nat)) (fun m => decide (w[m]? = some x)) (fun m => .int ((m + 1 : Nat) : Int)) (fun m hm s => ?_) (fun m hm _ s => ?_) ?_
      · simp_arith! [cut_one]
      · simp_arith! []
      simp_arith! []
      try simp only [ok_bind, sw_then, sw_sbind, ok_fin]
      refine ok_filt (inj := fun n : Nat => PV.int (n : Nat)) (fun m => decide (o[j - m]? = some x)) (fun m => .int (m : Nat)) (fun m hm s => ?_) (fun m hm _ s => ?_) ?_
      · have := hmem m hm
        simp_arith! [cut_one]
      · simp_arith! []
      obtain ⟨F, hF⟩ : ∃ F, F = (goneL w o t j).filter fun m => decide (w[m]? = some x) := ⟨_, rfl⟩
      obtain ⟨G, hG⟩ : ∃ G, G = (goneL w o t j).filter fun m => decide (o[j - m]? = some x) := ⟨_, rfl⟩
      have hFl : F.length ≤ j + 1 := by rw [hF]; exact Nat.le_trans (List.length_filter_le ..) hgl
      have hGl : G.length ≤ j + 1 := by rw [hG]; exact Nat.le_trans (List.length_filter_le ..) hgl
      rw [← hF, ← hG] at hst
      rw [← hF, ← hG]
      have hss := v_srtSetN hasc hst (by rw [List.length_append, List.length_map]; omega)
      have hcat : pAdd (.lst (F.map fun m => PV.int ((m + 1 : Nat) : Int))) (.lst (G.map fun m => PV.int (m : Nat))) = some (.lst ((F.map (· + 1) ++ G).map fun n : Nat => PV.int (n : Nat))) := by
        rw [v_add_lst (by rw [List.length_map, List.length_map]; omega), List.map_append, List.map_map]; rfl
      have zss : ∀ (f : EX) e s, eSS f e s = (f e s).bind fun x s => ofO (bSortSet (deref s x)) s := fun _ _ _ => rfl
      simp_arith! [zss, hcat, hss]
      exact ⟨⟨_, _, _, _, _, by rw [← hz]⟩, trivial⟩
    · obtain ⟨⟨a, b, c, d, g, rfl⟩, rfl⟩ := hI
      have he := gone_end (w := w) (o := o) (t := t)
      have hq : pEq2 (.lst ((goneL w o t (w.length + o.length)).map fun n : Nat => PV.int (n : Nat))) (.lst [.int (w.length : Nat)]) = some (shB w o t) := by
        unfold shB
        rw [decide_eq_true hl, Bool.true_and, he]
        by_cases h : shD w o t w.length o.length = true
        · rw [if_pos h, h]
          have := v_eq_lstG (inj := fun n : Nat => PV.int (n : Nat)) (xs := [w.length]) (ys := [w.length]) (fun _ => rfl) (fun _ => by show 0 ≤ 20; decide) (fun a b => by show decide ((a : Int) = (b : Int)) = _; rw [decide_eq_decide]; omega)
          simpa using this
        · rw [if_neg h]
          rw [Bool.not_eq_true] at h
          rw [h]; rfl
      rw [List.length_range]
      simp_arith! [hq]
      exact ⟨trivial, trivial⟩
  · have hb : shB w o t = false := by unfold shB; rw [decide_eq_false hl]; rfl
    have hn : pNe2 (.int (t.length : Nat)) (.int ((w.length + o.length : Nat) : Int)) = some true := by
      show some (!decide ((t.length : Int) = ((w.length + o.length : Nat) : Int))) = _
      rw [decide_eq_false (by omega)]; rfl
    simp_arith! [m_is_shuffle_by, hn, hb]
    exact ⟨trivial, trivial⟩
theorem m_is_shuffle_ap {s : MS} {w o t : List Nat} (hw : Wd w) (ho : Wd o) (ht : Wd t) : m_is_shuffle [.str w, .str o, .str t] s = .ok (.bl (shB w o t)) s := by
  have a1 := fun s => m_check_two_ok (s := s) hw ho
  have a2 := fun s => m_check_word_ok (s := s) ht
  have h1 := hw.1
  have h2 := ho.1
  have h3 := ht.1
  have a3 := fun s => m_is_shuffle_by_ap (s := s) (w := w) (o := o) (t := t) (by omega) (by omega) (by omega)
  apply Ok.eq
  simp_arith! [m_is_shuffle, a1, a2, a3]
  exact ⟨trivial, trivial⟩
theorem comb_tab : ∀ n < 25, ∀ k < 25, PySem.W.mcComb (n : Nat) (k : Nat) = ((chooseN n k : Nat) : Int) := by decide +kernel
theorem ways_step : ∀ n < 25, ∀ k < 25, k < n → chooseN n k * (n - k) / (k + 1) = chooseN n (k + 1) := by decide +kernel
theorem ways_swap : ∀ n < 25, ∀ k < 25, k ≤ n → chooseN n k = chooseN n (n - k) := by decide +kernel
theorem ways_lt : ∀ n < 25, ∀ k < 25, chooseN n k ≤ 1000000000 := by decide +kernel
theorem m_shuffle_count_ap {s : MS} {w o : List Nat} (hw : Wd w) (ho : Wd o) : m_shuffle_count [.str w, .str o] s = .ok (.int (chooseN (w.length + o.length) w.length : Nat)) s := by
  have a1 := fun s => m_check_two_ok (s := s) hw ho
  have h1 := hw.1
  have h2 := ho.1
  have hc : bComb [.int ((w.length + o.length : Nat) : Int), .int (w.length : Nat)] = some (.int (chooseN (w.length + o.length) w.length : Nat)) := by
    rw [← comb_tab _ (by omega) _ (by omega)]
    show (if _ then _ else _) = _
    rw [if_pos (by omega)]
  apply Ok.eq
  simp_arith! [m_shuffle_count, a1, hc]
  exact ⟨trivial, trivial⟩
theorem choose_0 {n : Nat} : chooseN n 0 = 1 := by cases n <;> rfl
theorem m__law_ways_ap {s : MS} {n k : Nat} (hn : n < 25) (hk : k ≤ n) : m__law_ways [.int (n : Nat), .int (k : Nat)] s = .ok (.int (chooseN n k : Nat)) s := by
  apply Ok.eq
  simp_arith! [m__law_ways]
  try simp only [ok_bind, sw_then, sw_sbind, ok_fin]
  refine sw_for (inj := fun n : Nat => PV.int (n : Nat)) (xs := List.range k) (fun dn e s' => (∃ a, e = [some (.int (n : Nat)), some (.int (k : Nat)), some (.int (chooseN n dn.length : Nat)), a]) ∧ s' = s) ⟨⟨none, by rw [List.length_nil, choose_0]⟩, rfl⟩ (fun dn j rst e s' hd hI => ?_) (fun e s' hI => ?_)
  · obtain ⟨⟨a, rfl⟩, rfl⟩ := hI
    obtain ⟨_, hjl⟩ := range_at hd
    have hj : j < k := List.mem_range.mp (by rw [← hd]; simp)
    have hz : (dn ++ [j]).length = j + 1 := by rw [List.length_append, ← hjl]; rfl
    have hs := ways_step n hn j (by omega) (by omega)
    rw [← hjl]
    simp_arith! [hs]
    exact ⟨⟨_, by rw [hz]⟩, trivial⟩
  · obtain ⟨⟨a, rfl⟩, rfl⟩ := hI
    rw [List.length_range]
    simp_arith! []
    exact ⟨trivial, trivial⟩
theorem eand_b {f h : EX} {e : Env} {s : MS} {a b : Bool} (hf : f e s = .ok (.bl a) s) (hh : a = true → h e s = .ok (.bl b) s) : eAnd2 f h e s = .ok (.bl (a && b)) s := by
  show ((f e s).bind fun x s => (ofO (truth (deref s x)) s).bind fun b s => if b = true then h e s else .ok x s) = _
  rw [hf]
  cases a with
  | true => exact hh rfl
  | false => rfl
theorem eor_b {f h : EX} {e : Env} {s : MS} {a b : Bool} (hf : f e s = .ok (.bl a) s) (hh : a = false → h e s = .ok (.bl b) s) : eOr2 f h e s = .ok (.bl (a || b)) s := by
  show ((f e s).bind fun x s => (ofO (truth (deref s x)) s).bind fun b s => if b = true then .ok x s else h e s) = _
  rw [hf]
  cases a with
  | true => rfl
  | false => exact hh rfl
/-! dicts by pairs of numbers -/
def kP (p : Nat × Nat) : PV := .tup [.int (p.1 : Nat), .int (p.2 : Nat)]
theorem keq_kP (a b : Nat × Nat) : keq (kP a) (kP b) = decide (a = b) := by
  obtain ⟨a1, a2⟩ := a
  obtain ⟨b1, b2⟩ := b
  show (decide ((a1 : Int) = (b1 : Int)) && (decide ((a2 : Int) = (b2 : Int)) && true)) = _
  rw [Bool.and_true, Bool.eq_iff_iff, Bool.and_eq_true, decide_eq_true_iff, decide_eq_true_iff, decide_eq_true_iff, Prod.mk.injEq]
  omega
theorem isKey_kP (a : Nat × Nat) : isKey true (kP a) = true := rfl
theorem dget_P {g : Nat × Nat → PV} {a : Nat × Nat} : ∀ {L : List (Nat × Nat)}, a ∈ L → dget (L.map kP) (L.map g) (kP a) = some (g a)
  | [], h => (nomatch h)
  | x :: L, h => by
    show (if keq (kP x) (kP a) = true then some (g x) else dget (L.map kP) (L.map g) (kP a)) = _
    rw [keq_kP]
    by_cases e : x = a
    · rw [decide_eq_true e, if_pos rfl, e]
    · rw [decide_eq_false e, if_neg (by decide)]
      exact dget_P ((List.mem_cons.mp h).resolve_left fun q => e q.symm)
theorem dput_P {g : Nat × Nat → PV} {a : Nat × Nat} {L : List (Nat × Nat)} (h : a ∉ L) : dput (L.map kP) (L.map g) (kP a) (g a) = ((L ++ [a]).map kP, (L ++ [a]).map g) := by
  unfold dput
  rw [if_neg (fun q => ?_), List.map_append, List.map_append]
  · rfl
  · obtain ⟨y, hy, hs⟩ := List.any_eq_true.mp q
    obtain ⟨z, hz, rfl⟩ := List.mem_map.mp hy
    rw [keq_kP, decide_eq_true_iff] at hs
    exact h (hs ▸ hz)
def tabP (g : Nat × Nat → PV) (L : List (Nat × Nat)) : PO := .dct true (L.map kP) (L.map g)
theorem oSet_P {g : Nat × Nat → PV} {a : Nat × Nat} {L : List (Nat × Nat)} (h : a ∉ L) (hl : L.length ≤ 10000) : oSet (tabP g L) (kP a) (g a) = some (tabP g (L ++ [a])) := by
  show (if (isKey true (kP a) && decide ((L.map kP).length < LIM)) = true then some (PO.dct true (dput (L.map kP) (L.map g) (kP a) (g a)).1 (dput (L.map kP) (L.map g) (kP a) (g a)).2) else none) = _
  rw [if_pos (by rw [List.length_map, isKey_kP, Bool.true_and, decide_eq_true_eq, LIM_eq]; omega), dput_P h]; rfl
theorem ix_P {g : Nat × Nat → PV} {a : Nat × Nat} {L : List (Nat × Nat)} (h : a ∈ L) : pIx (.dct true (L.map kP) (L.map g)) (kP a) = some (g a) := by
  show (if isKey true (kP a) = true then dget (L.map kP) (L.map g) (kP a) else none) = _
  rw [if_pos (isKey_kP a), dget_P h]
theorem ixeq {w t : List Nat} {a b : Nat} (ha : a < w.length) (hb : b < t.length) : decide ([w.getD a 0] = [t.getD b 0]) = decide (w[a]? = t[b]?) := by
  rw [decide_eq_decide, List.getD_eq_getElem?_getD, List.getD_eq_getElem?_getD, List.getElem?_eq_getElem ha, List.getElem?_eq_getElem hb]
  simp
theorem deref_tab {s : MS} {g : Nat × Nat → PV} {L : List (Nat × Nat)} : deref (s.new (tabP g L)) (.obj s.n) = .dct true (L.map kP) (L.map g) := by
  simp [deref, MS.new, tabP]
noncomputable def shG (w o t : List Nat) (p : Nat × Nat) : PV := .bl (shD w o t p.1 p.2)
theorem m__law_comes_ap {s : MS} {w o t : List Nat} (hw : w.length ≤ 12) (ho : o.length ≤ 12) (ht : t.length ≤ 24) : m__law_comes [.str w, .str o, .str t] s = .ok (.bl (shB w o t)) s := by
  apply Ok.eq
  refine ok_gc ?_
  by_cases hl : t.length = w.length + o.length
  · have hk0 : ∀ e s, eDispT (eTup [eC (.int 0), eC (.int 0)]) (eC (.bl true)) e s = .ok (.obj s.n) (s.new (tabP (shG w o t) [(0, 0)])) := fun e s => by
      have : shG w o t (0, 0) = .bl true := by unfold shG; rw [shD_00]
      have e1 : eTup [eC (.int 0), eC (.int 0)] e s = .ok (kP (0, 0)) s := by apply Ok.eq; simp_arith! []; (first | exact ⟨rfl, rfl⟩ | exact ⟨trivial, trivial⟩ | exact ⟨rfl, trivial⟩ | exact ⟨trivial, rfl⟩)
      unfold eDispT
      rw [e1, bind_ok]
      rw [show eC (.bl true) e s = .ok (.bl true) s from rfl, bind_ok, if_pos (isKey_kP _)]
      unfold tabP
      rw [List.map_singleton, List.map_singleton, this]
    simp_arith! [m__law_comes, hl, ↓hk0]
    try simp only [ok_bind, sw_then, sw_sbind, ok_fin]
    refine sw_for (inj := fun j : Nat => PV.int (j : Nat)) (xs := List.range (w.length + 1)) (fun dn e s' => ∃ L, ((∃ a b c, e = [some (.str w), some (.str o), some (.str t), some (.obj s.n), a, b, c]) ∧ s' = s.new (tabP (shG w o t) L)) ∧ (∀ p : Nat × Nat, p ∈ L ↔ p = (0, 0) ∨ (p.1 < dn.length ∧ p.2 ≤ o.length)) ∧ L.length ≤ 1 + 13 * dn.length) ⟨[(0, 0)], ⟨⟨none, none, none, rfl⟩, rfl⟩, fun p => by simp, by simp⟩ (fun dn i rst e s' hd hI => ?_) (fun e s' hI => ?_)
    · obtain ⟨L, ⟨⟨a, b, c, rfl⟩, rfl⟩, hL, hLl⟩ := hI
      obtain ⟨_, hil⟩ := range_at hd
      have hi : i < w.length + 1 := List.mem_range.mp (by rw [← hd]; simp)
      have hz : (dn ++ [i]).length = i + 1 := by rw [List.length_append, ← hil]; rfl
      rw [← hil] at hL hLl
      simp_arith! []
      try simp only [ok_bind, sw_then, sw_sbind, ok_fin]
      refine sw_for (inj := fun j : Nat => PV.int (j : Nat)) (xs := List.range (o.length + 1)) (fun d2 e s' => ∃ L, ((∃ b c, e = [some (.str w), some (.str o), some (.str t), some (.obj s.n), some (.int (i : Nat)), b, c]) ∧ s' = s.new (tabP (shG w o t) L)) ∧ (∀ p : Nat × Nat, p ∈ L ↔ p = (0, 0) ∨ (p.1 < i ∧ p.2 ≤ o.length) ∨ (p.1 = i ∧ p.2 < d2.length)) ∧ L.length ≤ 1 + 13 * i + d2.length) ⟨L, ⟨⟨_, _, rfl⟩, rfl⟩, fun p => by rw [hL p]; simp, by simpa using hLl⟩ (fun d2 j rst e s' hd2 hI => ?_) (fun e s' hI => ?_)
      · obtain ⟨L, ⟨⟨b, c, rfl⟩, rfl⟩, hL, hLl⟩ := hI
        obtain ⟨_, hjl⟩ := range_at hd2
        have hj : j < o.length + 1 := List.mem_range.mp (by rw [← hd2]; simp)
        have hz2 : (d2 ++ [j]).length = j + 1 := by rw [List.length_append, ← hjl]; rfl
        rw [← hjl] at hL hLl
        by_cases h0 : 0 < i + j
        · have hsd := shD_step (w := w) (o := o) (t := t) (i := i) (j := j) (by omega) (by omega) h0
          have hm := new_m s (tabP (shG w o t) L)
          have f1 : ∀ c : Option PV, eAnd2 (eCm pGt (eVar 4) (eC (.int 0))) (eAnd2 (eBin pIx (eVar 3) (eTup [eBin pSub (eVar 4) (eC (.int 1)), eVar 5])) (eCm pEq2 (eBin pIx (eVar 0) (eBin pSub (eVar 4) (eC (.int 1)))) (eBin pIx (eVar 2) (eBin pSub (eBin pAdd (eVar 4) (eVar 5)) (eC (.int 1)))))) [some (.str w), some (.str o), some (.str t), some (.obj s.n), some (.int (i : Nat)), some (.int (j : Nat)), c] (s.new (tabP (shG w o t) L)) = .ok (.bl (decide (0 < i) && (shD w o t (i - 1) j && decide (w[i - 1]? = t[i + j - 1]?)))) (s.new (tabP (shG w o t) L)) := fun c => by
            refine eand_b ?_ fun hp => eand_b ?_ fun _ => ?_
            · apply Ok.eq
              simp_arith! []
              (first | exact ⟨rfl, rfl⟩ | exact ⟨trivial, trivial⟩ | exact ⟨rfl, trivial⟩ | exact ⟨trivial, rfl⟩)
            · have hp : 0 < i := of_decide_eq_true hp
              have hx : pIx (deref (s.new (tabP (shG w o t) L)) (.obj s.n)) (kP (i - 1, j)) = some (.bl (shD w o t (i - 1) j)) := by
                have : deref (s.new (tabP (shG w o t) L)) (.obj s.n) = .dct true (L.map kP) (L.map (shG w o t)) := deref_tab
                rw [this, ix_P ((hL _).mpr (.inr (.inl ⟨by show i - 1 < i; omega, by show j ≤ _; omega⟩)))]; rfl
              unfold kP at hx
              apply Ok.eq
              simp_arith! [hx]
              (first | exact ⟨rfl, rfl⟩ | exact ⟨trivial, trivial⟩ | exact ⟨rfl, trivial⟩ | exact ⟨trivial, rfl⟩)
            · have hp : 0 < i := of_decide_eq_true hp
              have := ixeq (w := w) (t := t) (a := i - 1) (b := i + j - 1) (by omega) (by omega)
              apply Ok.eq
              simp_arith! [this]
              (first | exact ⟨rfl, rfl⟩ | exact ⟨trivial, trivial⟩ | exact ⟨rfl, trivial⟩ | exact ⟨trivial, rfl⟩)
          have f2 : ∀ A : Bool, eOr2 (eVar 6) (eAnd2 (eCm pGt (eVar 5) (eC (.int 0))) (eAnd2 (eBin pIx (eVar 3) (eTup [eVar 4, eBin pSub (eVar 5) (eC (.int 1))])) (eCm pEq2 (eBin pIx (eVar 1) (eBin pSub (eVar 5) (eC (.int 1)))) (eBin pIx (eVar 2) (eBin pSub (eBin pAdd (eVar 4) (eVar 5)) (eC (.int 1))))))) [some (.str w), some (.str o), some (.str t), some (.obj s.n), some (.int (i : Nat)), some (.int (j : Nat)), some (.bl A)] (s.new (tabP (shG w o t) L)) = .ok (.bl (A || (decide (0 < j) && (shD w o t i (j - 1) && decide (o[j - 1]? = t[i + j - 1]?))))) (s.new (tabP (shG w o t) L)) := fun A => by
            refine eor_b ?_ fun _ => eand_b ?_ fun hp => eand_b ?_ fun _ => ?_
            · rfl
            · apply Ok.eq
              simp_arith! []
              (first | exact ⟨rfl, rfl⟩ | exact ⟨trivial, trivial⟩ | exact ⟨rfl, trivial⟩ | exact ⟨trivial, rfl⟩)
            · have hp : 0 < j := of_decide_eq_true hp
              have hx : pIx (deref (s.new (tabP (shG w o t) L)) (.obj s.n)) (kP (i, j - 1)) = some (.bl (shD w o t i (j - 1))) := by
                have : deref (s.new (tabP (shG w o t) L)) (.obj s.n) = .dct true (L.map kP) (L.map (shG w o t)) := deref_tab
                rw [this, ix_P ((hL _).mpr (.inr (.inr ⟨rfl, by show j - 1 < j; omega⟩)))]; rfl
              unfold kP at hx
              apply Ok.eq
              simp_arith! [hx]
              (first | exact ⟨rfl, rfl⟩ | exact ⟨trivial, trivial⟩ | exact ⟨rfl, trivial⟩ | exact ⟨trivial, rfl⟩)
            · have hp : 0 < j := of_decide_eq_true hp
              have := ixeq (w := o) (t := t) (a := j - 1) (b := i + j - 1) (by omega) (by omega)
              apply Ok.eq
              simp_arith! [this]
              (first | exact ⟨rfl, rfl⟩ | exact ⟨trivial, trivial⟩ | exact ⟨rfl, trivial⟩ | exact ⟨trivial, rfl⟩)
          have hn : (i, j) ∉ L := fun q => by
            rcases (hL _).mp q with q | q | q
            · have := congrArg Prod.fst q; have := congrArg Prod.snd q; dsimp only at *; omega
            · have := q.1; dsimp only at this; omega
            · have := q.2; dsimp only at this; omega
          have hs := sub_ap (e := [some (.str w), some (.str o), some (.str t), some (.obj s.n), some (.int (i : Nat)), some (.int (j : Nat)), some (.bl (decide (0 < i) && (shD w o t (i - 1) j && decide (w[i - 1]? = t[i + j - 1]?))))]) (fo := eVar 3) (fi := eTup [eVar 4, eVar 5]) (x := shG w o t (i, j)) (z := kP (i, j)) rfl (by apply Ok.eq; simp_arith! []; exact ⟨rfl, trivial⟩) hm (oSet_P hn (by omega))
          rw [new_put] at hs
          have f2' := f2 (decide (0 < i) && (shD w o t (i - 1) j && decide (w[i - 1]? = t[i + j - 1]?)))
          rw [← hsd] at f2'
          have hg : shG w o t (i, j) = .bl (shD w o t i j) := rfl
          rw [hg] at hs
          have hgt : pGt (.int ((i + j : Nat) : Int)) (.int ((0 : Nat) : Int)) = some true := by rw [n_gt, decide_eq_true h0]
          simp_arith! [hgt, ↓f1, ↓f2', hs]
          refine ⟨L ++ [(i, j)], ⟨⟨_, _, rfl⟩, by first | rfl | trivial⟩, fun p => ?_, by rw [List.length_append, hz2, List.length_singleton]; omega⟩
          rw [List.mem_append, List.mem_singleton, hL p, hz2]
          obtain ⟨p1, p2⟩ := p
          simp only [Prod.mk.injEq]
          omega
        · have hgt : pGt (.int ((i + j : Nat) : Int)) (.int ((0 : Nat) : Int)) = some false := by rw [n_gt, decide_eq_false h0]
          simp_arith! [hgt]
          refine ⟨L, ⟨⟨_, _, rfl⟩, by first | rfl | trivial⟩, fun p => ?_, by rw [hz2]; omega⟩
          rw [hL p, hz2]
          obtain ⟨p1, p2⟩ := p
          simp only [Prod.mk.injEq]
          omega
      · obtain ⟨L, ⟨⟨b, c, rfl⟩, rfl⟩, hL, hLl⟩ := hI
        rw [List.length_range] at hL hLl
        refine ⟨L, ⟨⟨_, _, _, rfl⟩, rfl⟩, fun p => ?_, by rw [hz]; omega⟩
        rw [hL p, hz]
        obtain ⟨p1, p2⟩ := p
        simp only [Prod.mk.injEq]
        omega
    · obtain ⟨L, ⟨⟨a, b, c, rfl⟩, rfl⟩, hL, hLl⟩ := hI
      rw [List.length_range] at hL
      have hm := new_m s (tabP (shG w o t) L)
      have hx : pIx (deref (s.new (tabP (shG w o t) L)) (.obj s.n)) (kP (w.length, o.length)) = some (.bl (shB w o t)) := by
        have : deref (s.new (tabP (shG w o t) L)) (.obj s.n) = .dct true (L.map kP) (L.map (shG w o t)) := deref_tab
        have e : shB w o t = shD w o t w.length o.length := by unfold shB; rw [decide_eq_true hl, Bool.true_and]
        rw [this, ix_P ((hL _).mpr (.inr ⟨by show w.length < _; omega, Nat.le_refl _⟩)), e]; rfl
      unfold kP at hx
      simp_arith! [hx]
      exact ⟨by trivial, by first | exact agree_refl _ | exact agree_new1, by first | rfl | trivial, by first | rfl | trivial⟩
  · have hb : shB w o t = false := by unfold shB; rw [decide_eq_false hl]; rfl
    have hn : pNe2 (.int (t.length : Nat)) (.int ((w.length + o.length : Nat) : Int)) = some true := by
      show some (!decide ((t.length : Int) = ((w.length + o.length : Nat) : Int))) = _
      rw [decide_eq_false (by omega)]; rfl
    simp_arith! [m__law_comes, hn, hb]
    exact ⟨rfl, agree_refl _, trivial, trivial⟩
def RowI (i : Nat) (w o : List Nat) (n : Nat) (e : Mr.Env) (s2 : MS) : Prop := ∃ (r : List Nat) (a b : Nat), (∃ t, e = [some (.obj i), some (.str w), some (.str o), some (.str r), some (.int (a : Nat)), some (.int (b : Nat)), t]) ∧ WS i s2 ∧ a + b = n ∧ r.length = a + b ∧ (∀ c ∈ r, c ∈ abc) ∧ Sh w o r a b
theorem m__law_row_ap {i : Nat} {s : MS} {w o : List Nat} (h : WS i s) (hw : Wd w) (ho : Wd o) (hl : w.length + o.length ≤ 12) : ∃ r s', m__law_row [.obj i, .str w, .str o] s = .ok (.str r) s' ∧ Wd r ∧ r.length = w.length + o.length ∧ shB w o r = true ∧ WS i s' := by
  have key : Ok (m__law_row [.obj i, .str w, .str o] s) (fun v s' => ∃ r, v = .str r ∧ Wd r ∧ r.length = w.length + o.length ∧ shB w o r = true ∧ WS i s') NoX := by
    simp_arith! [m__law_row]
    try simp only [ok_bind, sw_then, sw_sbind, ok_fin]
    refine sw_for (inj := fun n : Nat => PV.int (n : Nat)) (xs := List.range (w.length + o.length)) (fun dn e s2 => RowI i w o dn.length e s2) ⟨[], 0, 0, ⟨none, rfl⟩, h, rfl, rfl, by simp, .nil⟩ (fun dn j rst e s2 hd hI => ?_) (fun e s2 hI => ?_)
    · obtain ⟨r, a, b, ⟨t, rfl⟩, hs, hab, hr, hc, hsh⟩ := hI
      obtain ⟨_, hjl⟩ := range_at hd
      have hj : j < w.length + o.length := List.mem_range.mp (by rw [← hd]; simp)
      have hz : (dn ++ [j]).length = j + 1 := by rw [List.length_append, ← hjl]; rfl
      have hlt := hsh.lt
      have one : ∀ s3, WS i s3 → a < w.length → RowI i w o (dn ++ [j]).length [some (.obj i), some (.str w), some (.str o), some (.str (r ++ [w.getD a 0])), some (.int ((a + 1 : Nat) : Int)), some (.int (b : Nat)), some (.int (j : Nat))] s3 := fun s3 h3 hwa => by
        have eg : w[a]? = some (w.getD a 0) := by rw [List.getD_eq_getElem?_getD, List.getElem?_eq_getElem hwa]; rfl
        refine ⟨_, _, _, ⟨_, rfl⟩, h3, by rw [hz]; omega, by rw [List.length_append, List.length_singleton]; omega, fun c hc' => ?_, .one (hsh.pre fun k hk => by rw [List.getElem?_append_left (by omega)]) hwa ?_⟩
        · rcases List.mem_append.mp hc' with q | q
          · exact hc c q
          · rw [List.mem_singleton] at q
            exact hw.2 c (q ▸ List.mem_of_getElem? eg)
        · rw [eg, ← hr, List.getElem?_append_right (Nat.le_refl _), Nat.sub_self]; rfl
      have two : ∀ s3, WS i s3 → b < o.length → RowI i w o (dn ++ [j]).length [some (.obj i), some (.str w), some (.str o), some (.str (r ++ [o.getD b 0])), some (.int (a : Nat)), some (.int ((b + 1 : Nat) : Int)), some (.int (j : Nat))] s3 := fun s3 h3 hob => by
        have eg : o[b]? = some (o.getD b 0) := by rw [List.getD_eq_getElem?_getD, List.getElem?_eq_getElem hob]; rfl
        refine ⟨_, _, _, ⟨_, rfl⟩, h3, by rw [hz]; omega, by rw [List.length_append, List.length_singleton]; omega, fun c hc' => ?_, .two (hsh.pre fun k hk => by rw [List.getElem?_append_left (by omega)]) hob ?_⟩
        · rcases List.mem_append.mp hc' with q | q
          · exact hc c q
          · rw [List.mem_singleton] at q
            exact ho.2 c (q ▸ List.mem_of_getElem? eg)
        · rw [eg, ← hr, List.getElem?_append_right (Nat.le_refl _), Nat.sub_self]; rfl
      by_cases c1 : a < w.length
      · by_cases c2 : b = o.length
        · simp_arith! [c1, c2]
          rw [← c2]
          exact one _ hs c1
        · obtain ⟨k, s3, e3, hk, h3⟩ := m__law_take_ap (n := 2) hs (by omega) (by omega)
          by_cases c3 : k = 0
          · subst c3
            simp_arith! [c1, c2, e3]
            exact one _ h3 c1
          · simp_arith! [c1, c2, e3, c3]
            exact two _ h3 (by omega)
      · simp_arith! [c1]
        exact two _ hs (by omega)
    · obtain ⟨r, a, b, ⟨t, rfl⟩, hs, hab, hr, hc, hsh⟩ := hI
      rw [List.length_range] at hab
      have hlt := hsh.lt
      have ha : a = w.length := by omega
      have hb : b = o.length := by omega
      subst ha
      subst hb
      simp_arith! []
      refine ⟨r, by first | rfl | trivial, ⟨by omega, hc⟩, hr, ?_, hs⟩
      unfold shB
      rw [decide_eq_true hr, Bool.true_and]
      exact shD_iff.mpr hsh
  obtain ⟨v, s', e, r, rfl, q⟩ := key.ex
  exact ⟨r, s', e, q⟩
theorem m__law_right_ap {s : MS} {w o t : List Nat} (hw : Wd w) (ho : Wd o) (ht : Wd t) : m__law_right [.str w, .str o, .str t] s = .ok (.bl true) s := by
  have h1 := hw.1
  have h2 := ho.1
  have h3 := ht.1
  have a1 := fun s => m_is_shuffle_ap (s := s) hw ho ht
  have a2 := fun s => m_is_shuffle_ap (s := s) ho hw ht
  have a3 := fun s => m__law_comes_ap (s := s) (w := w) (o := o) (t := t) (by omega) (by omega) (by omega)
  rw [shB_swap] at a2
  have hm : pMul (.lst [.bl (shB w o t)]) (.int ((3 : Nat) : Int)) = some (.lst [.bl (shB w o t), .bl (shB w o t), .bl (shB w o t)]) := by
    show (if 1 * 3 ≤ LIM ∧ fits 62 3 = true then some (PV.lst (List.replicate 3 [PV.bl (shB w o t)]).flatten) else none) = _
    rw [if_pos ⟨by rw [LIM_eq]; omega, fitsK (by omega) (by omega)⟩]; rfl
  have hs := fun s => same_T 6 (.lst [.bl (shB w o t), .bl (shB w o t), .bl (shB w o t)]) s rfl
  apply Ok.eq
  simp_arith! [m__law_right, a1, a2, a3, hm, hs]
  exact ⟨trivial, trivial⟩
theorem m__law_pick_abc {i : Nat} {s : MS} (h : WS i s) : ∃ (c : Nat) (s' : MS), m__law_pick [.obj i, .str [97, 98, 99]] s = .ok (.str [c]) s' ∧ c ∈ abc ∧ WS i s' := by
  obtain ⟨k, s', e, hk, h'⟩ := m__law_take_ap (n := 3) h (by omega) (by omega)
  have hx : pIx (.str [97, 98, 99]) (.int (k : Nat)) = some (.str [[97, 98, 99].getD k 0]) := n_ixS (by decide) hk
  refine ⟨[97, 98, 99].getD k 0, s', ?_, ?_, h'⟩
  · have key : Ok (m__law_pick [.obj i, .str [97, 98, 99]] s) (fun v s2 => v = .str [[97, 98, 99].getD k 0] ∧ s2 = s') NoX := by
      simp_arith! [m__law_pick, e, hx]
      (first | exact ⟨rfl, rfl⟩ | exact ⟨trivial, trivial⟩ | exact ⟨rfl, trivial⟩ | exact ⟨trivial, rfl⟩)
    obtain ⟨v, s2, e2, rfl, rfl⟩ := key.ex
    exact e2
  · have : k = 0 ∨ k = 1 ∨ k = 2 := by omega
    rcases this with rfl | rfl | rfl <;> decide
def smL : List (List Nat) := [[], [97], [98], [97, 97], [97, 98], [98, 97], [98, 98]]
theorem sm_eq : allW 2 0 ++ allW 2 1 ++ allW 2 2 = smL := by decide +kernel
theorem sm_wd : ∀ w ∈ smL, Wd w ∧ w.length ≤ 2 := by
  intro w hw
  have : smL.all (fun w => wdB (.str w) && decide (w.length ≤ 2)) = true := by decide +kernel
  have := List.all_eq_true.mp this w hw
  rw [Bool.and_eq_true, decide_eq_true_eq] at this
  exact ⟨wd_iff.mp this.1, this.2⟩
theorem wd_allW {k : Nat} (hk : k ≤ 12) {w : List Nat} (h : w ∈ allW 2 k) : Wd w := by
  obtain ⟨a, b⟩ := allW_wd k w h
  exact ⟨by omega, fun c hc => List.mem_of_mem_take (b c hc)⟩
theorem wd_app {a b : List Nat} (ha : Wd a) (hb : Wd b) (h : a.length + b.length ≤ 12) : Wd (a ++ b) := ⟨by rw [List.length_append]; exact h, fun c hc => (List.mem_append.mp hc).elim (ha.2 c) (hb.2 c)⟩
theorem wd_bent {r : List Nat} {k c : Nat} (hr : Wd r) (hc : c ∈ abc) : Wd ((r.take k ++ [c] ++ r.drop (k + 1)).take 12) := ⟨by rw [List.length_take]; omega, fun x hx => by
  have hx := List.mem_of_mem_take hx
  rcases List.mem_append.mp hx with q | q
  · rcases List.mem_append.mp q with q | q
    · exact hr.2 x (List.mem_of_mem_take q)
    · rw [List.mem_singleton] at q; exact q ▸ hc
  · exact hr.2 x (List.mem_of_mem_drop q)⟩
def LE (ns : List Int) (e : Mr.Env) : Prop := ∃ a b c d f g h k l m n p, e = [some (.scr (ns.map PV.int)), some (.lst (smL.map .str)), a, b, c, d, f, g, h, k, l, m, n, p]
theorem law_plain_all : ∀ ns : List Int, ns.length ≤ 63 → (∀ z ∈ ns, PySem.Builtin.Int.intBits z ≤ 1048576) → ∃ s, m_law [.scr (ns.map PV.int)] ms0 = .ok (.bl true) s := fun ns hns _ => by
  have key : Ok (m_law [.scr (ns.map PV.int)] ms0) (fun v _ => v = .bl true) NoX := by
    have hsl : bLen [.scr (ns.map PV.int)] = some (.int (ns.length : Nat)) := by rw [v_len_scr, List.length_map]
    have w0 := fun s => words_AB (s := s) (k := 0) (by omega)
    have w1 := fun s => words_AB (s := s) (k := 1) (by omega)
    have w2 := fun s => words_AB (s := s) (k := 2) (by omega)
    have l0 : (allW 2 0).length = 1 := allW_len (by omega) 0
    have l1 : (allW 2 1).length = 2 := allW_len (by omega) 1
    have l2 : (allW 2 2).length = 4 := allW_len (by omega) 2
    have c1 : pAdd (.lst ((allW 2 0).map .str)) (.lst ((allW 2 1).map .str)) = some (.lst ((allW 2 0).map .str ++ (allW 2 1).map .str)) := v_add_lst (by rw [List.length_map, List.length_map]; omega)
    have c2 : pAdd (.lst ((allW 2 0).map .str ++ (allW 2 1).map .str)) (.lst ((allW 2 2).map .str)) = some (.lst (smL.map .str)) := by
      rw [v_add_lst (by rw [List.length_append, List.length_map, List.length_map, List.length_map]; omega), ← sm_eq, List.map_append, List.map_append]
    simp_arith! [m_law, w0, w1, w2, c1, c2]
    try simp only [ok_bind, sw_then, sw_sbind, ok_fin]
    refine sw_for (inj := PV.str) (xs := smL) (fun _ e _ => LE ns e) ⟨_, _, _, _, _, _, _, _, _, _, _, _, rfl⟩ (fun dn w rst e s hd hI => ?_) (fun e s hI => ?_)
    · obtain ⟨a, b, c, d, f, g, h, k, l, m, n, p, rfl⟩ := hI
      obtain ⟨hw, hw2⟩ := sm_wd w (by rw [← hd]; simp)
      simp_arith! []
      try simp only [ok_bind, sw_then, sw_sbind, ok_fin]
      refine sw_for (inj := PV.str) (xs := smL) (fun _ e _ => ∃ b c d f g h k l m n p, e = [some (.scr (ns.map PV.int)), some (.lst (smL.map .str)), some (.str w), b, c, d, f, g, h, k, l, m, n, p]) ⟨_, _, _, _, _, _, _, _, _, _, _, rfl⟩ (fun dn o rst e s hd hI => ?_) (fun e s hI => ?_)
      · obtain ⟨b, c, d, f, g, h, k, l, m, n, p, rfl⟩ := hI
        obtain ⟨ho, ho2⟩ := sm_wd o (by rw [← hd]; simp)
        have wk := fun s => words_AB (s := s) (k := w.length + o.length) (by omega)
        have hlen : (allW 2 (w.length + o.length)).length ≤ 16 := by
          rw [allW_len (by omega)]
          exact Nat.pow_le_pow_right (n := 2) (by omega) (show w.length + o.length ≤ 4 by omega)
        simp_arith! [wk]
        try simp only [ok_bind, sw_then, sw_sbind, ok_fin]
        refine ok_comp (inj := PV.str) (fun _ => .bl true) (fun t ht s => ?_) ?_
        · have := m__law_right_ap (s := s) hw ho (wd_allW (by omega) ht)
          simp_arith! [this]
        · simp_arith! [v_all]
          have hall : ((allW 2 (w.length + o.length)).all fun _ => true) = true := List.all_eq_true.mpr fun _ _ => rfl
          simp_arith! [hall]
          exact ⟨_, _, _, _, _, _, _, _, _, _, _, rfl⟩
      · obtain ⟨b, c, d, f, g, h, k, l, m, n, p, rfl⟩ := hI
        exact ⟨_, _, _, _, _, _, _, _, _, _, _, _, rfl⟩
    · obtain ⟨a, b, c, d, f, g, h, k, l, m, n, p, rfl⟩ := hI
      simp_arith! [hsl]
      try simp only [ok_bind, sw_then, sw_sbind, ok_fin]
      refine sw_for (inj := fun n : Nat => PV.int (n : Nat)) (xs := List.range (max 2 (min ns.length 4))) (fun _ e _ => LE ns e) ⟨_, _, _, _, _, _, _, _, _, _, _, _, rfl⟩ (fun dn t rst e s hd hI => ?_) (fun e s hI => ?_)
      · obtain ⟨a, b, c, d, f, g, h, k, l, m, n, p, rfl⟩ := hI
        have ht : t < max 2 (min ns.length 4) := List.mem_range.mp (by rw [← hd]; simp)
        obtain ⟨s1, e1, h1⟩ := m__law_well_ap (s := s) (t := t) hns (by omega)
        obtain ⟨i, hi⟩ : ∃ i, i = s.n := ⟨_, rfl⟩
        rw [← hi] at e1 h1
        simp_arith! [e1]
        try simp only [ok_bind, sw_then, sw_sbind, ok_fin]
        refine sw_for (inj := fun n : Nat => PV.int (n : Nat)) (xs := List.range 8) (fun _ e s => (∃ a b f g h k l m n p, e = [some (.scr (ns.map PV.int)), some (.lst (smL.map .str)), a, b, some (.int (t : Nat)), some (.obj i), f, g, h, k, l, m, n, p]) ∧ WS i s) ⟨⟨_, _, _, _, _, _, _, _, _, _, rfl⟩, h1⟩ (fun dn q rst e s hd hI => ?_) (fun e s hI => ?_)
        · obtain ⟨⟨a, b, f, g, h, k, l, m, n, p, rfl⟩, hs⟩ := hI
          obtain ⟨w, s2, e2, hw, hwl, h2⟩ := m__law_word_W (most := 7) hs (by omega)
          obtain ⟨o, s3, e3, ho, hol, h3⟩ := m__law_word_W (most := 12 - w.length) h2 (by omega)
          obtain ⟨r, s4, e4, hr, hrl, hsh, h4⟩ := m__law_row_ap h3 hw ho (by omega)
          have at_ap : ∃ (k : Nat) (s5 : MS), (∀ e0 e1 e2 e3 e4 e6 e8 e9 e10 e11 e12 e13, eIf (tCm pNe2 (eVar 7) (eC (.str []))) (eCall m__law_take [eVar 5, eB bLen [eVar 7]]) (eC (.int 0)) [e0, e1, e2, e3, e4, some (.obj i), e6, some (.str r), e8, e9, e10, e11, e12, e13] s4 = .ok (.int (k : Nat)) s5) ∧ k ≤ 12 ∧ WS i s5 := by
            have hr12 := hr.1
            by_cases c : r = []
            · refine ⟨0, s4, fun e0 e1 e2 e3 e4 e6 e8 e9 e10 e11 e12 e13 => ?_, by omega, h4⟩
              subst c
              apply Ok.eq
              simp_arith! [v_ne, v_eq_str]
              (first | exact ⟨rfl, rfl⟩ | exact ⟨trivial, trivial⟩ | exact ⟨rfl, trivial⟩ | exact ⟨trivial, rfl⟩)
            · have hpos : 0 < r.length := List.length_pos_iff.mpr c
              obtain ⟨k, s5, e5, hk, h5⟩ := m__law_take_ap (n := r.length) h4 hpos (by omega)
              refine ⟨k, s5, fun e0 e1 e2 e3 e4 e6 e8 e9 e10 e11 e12 e13 => ?_, by omega, h5⟩
              apply Ok.eq
              simp_arith! [v_ne, v_eq_str, c, e5]
              (first | exact ⟨rfl, rfl⟩ | exact ⟨trivial, trivial⟩ | exact ⟨rfl, trivial⟩ | exact ⟨trivial, rfl⟩)
          obtain ⟨k, s5, e5, hk, h5⟩ := at_ap
          obtain ⟨x, s6, e6, hx, h6⟩ := m__law_pick_abc h5
          have hw12 := hw.1
          have ho12 := ho.1
          have hr12 := hr.1
          have a1 := fun s => m__law_ways_ap (s := s) (n := w.length + o.length) (k := w.length) (by omega) (by omega)
          have a2 := fun s => m__law_comes_ap (s := s) (w := w) (o := o) (t := r) (by omega) (by omega) (by omega)
          rw [hsh] at a2
          have a3 := fun s => m_shuffle_count_ap (s := s) hw ho
          have a4 := fun s => m_shuffle_count_ap (s := s) ho hw
          have hsw := ways_swap (w.length + o.length) (by omega) w.length (by omega) (by omega)
          rw [show w.length + o.length - w.length = o.length by omega] at hsw
          rw [Nat.add_comm o.length w.length, ← hsw] at a4
          obtain ⟨C, hC⟩ : ∃ C, C = chooseN (w.length + o.length) w.length := ⟨_, rfl⟩
          rw [← hC] at a1 a3 a4
          have hsame := fun s => same_T 6 (.lst [.int (C : Nat), .int (C : Nat)]) s rfl
          have hisn : pIsN (.bl true) (.bl true) = some false := rfl
          obtain ⟨v, s7, e7, hv, hvl, h7⟩ := m__law_word_W (most := 12) h6 (by omega)
          simp_arith! [e2, e3, e4, ↓e5, e6, e7, a1, a2, a3, a4, hsame, hisn]
          try simp only [ok_bind, sw_then, sw_sbind, ok_fin]
          refine sw_for (inj := PV.str) (xs := [r, (r.take k ++ [x] ++ r.drop (k + 1)).take 12, w ++ o, o ++ w, r.drop 1, r.reverse, v]) (fun _ e s => (∃ a6 a7 a8 a9 a10 a11 a12 a13, e = [some (.scr (ns.map PV.int)), some (.lst (smL.map .str)), some (.str w), some (.str o), some (.int (t : Nat)), some (.obj i), a6, a7, a8, a9, a10, a11, a12, a13]) ∧ WS i s) ⟨⟨_, _, _, _, _, _, _, _, rfl⟩, h7⟩ (fun dn z rst e s hd hI => ?_) (fun e s hI => ?_)
          · obtain ⟨⟨a6, a7, a8, a9, a10, a11, a12, a13, rfl⟩, hs⟩ := hI
            have hz : Wd z := by
              have hm : z ∈ [r, (r.take k ++ [x] ++ r.drop (k + 1)).take 12, w ++ o, o ++ w, r.drop 1, r.reverse, v] := by rw [← hd]; simp
              simp only [List.mem_cons, List.not_mem_nil, or_false] at hm
              rcases hm with rfl | rfl | rfl | rfl | rfl | rfl | rfl
              · exact hr
              · exact wd_bent hr hx
              · exact wd_app hw ho (by omega)
              · exact wd_app ho hw (by omega)
              · exact wd_drop' hr
              · exact wd_revR hr
              · exact hv
            have := fun s => m__law_right_ap (s := s) hw ho hz
            simp_arith! [this]
            exact ⟨⟨_, _, _, _, _, _, _, _, rfl⟩, hs⟩
          · obtain ⟨⟨a6, a7, a8, a9, a10, a11, a12, a13, rfl⟩, hs⟩ := hI
            exact ⟨⟨_, _, _, _, _, _, _, _, _, _, rfl⟩, hs⟩
        · obtain ⟨⟨a, b, f, g, h, k, l, m, n, p, rfl⟩, hs⟩ := hI
          obtain ⟨w, s2, e2, hw, hwl, h2⟩ := m__law_word_W (most := 12) hs (by omega)
          obtain ⟨o, s3, e3, ho, hol, h3⟩ := m__law_word_W (most := 12) h2 (by omega)
          have a1 := fun s => m__law_ways_ap (s := s) (n := w.length + o.length) (k := o.length) (by omega) (by omega)
          have a3 := fun s => m_shuffle_count_ap (s := s) hw ho
          have hsw := ways_swap (w.length + o.length) (by omega) w.length (by omega) (by omega)
          rw [show w.length + o.length - w.length = o.length by omega] at hsw
          rw [hsw] at a3
          obtain ⟨C, hC⟩ : ∃ C, C = chooseN (w.length + o.length) o.length := ⟨_, rfl⟩
          rw [← hC] at a1 a3
          have hsame := fun s => same_T 6 (.int (C : Nat)) s rfl
          by_cases c : 12 < w.length + o.length
          · have hT : Wd ((w ++ o).take 12) := ⟨by rw [List.length_take]; omega, fun x hx => (List.mem_append.mp (List.mem_of_mem_take hx)).elim (hw.2 x) (ho.2 x)⟩
            have a5 := fun s => m_is_shuffle_ap (s := s) hw ho hT
            have hb : shB w o ((w ++ o).take 12) = false := by
              unfold shB
              rw [decide_eq_false (by rw [List.length_take, List.length_append]; omega)]; rfl
            rw [hb] at a5
            have hisn : pIsN (.bl false) (.bl false) = some false := rfl
            simp_arith! [e2, e3, a1, a3, hsame, c, a5, hisn]
            exact ⟨_, _, _, _, _, _, _, _, _, _, _, _, rfl⟩
          · simp_arith! [e2, e3, a1, a3, hsame, c]
            exact ⟨_, _, _, _, _, _, _, _, _, _, _, _, rfl⟩
      · obtain ⟨a, b, c, d, f, g, h, k, l, m, n, p, rfl⟩ := hI
        simp_arith! []
  obtain ⟨v, s', e, rfl⟩ := key.ex
  exact ⟨s', e⟩
end Lw
namespace Lw
open PySem PySem.Spec PyProof.Rows L2 Mr
theorem law_pure : ∀ ns : List Int, ns.length ≤ 63 → (∀ z ∈ ns, Builtin.Int.intBits z ≤ 1048576) → ∃ s, m_law [.scr (ns.map PV.int)] ms0 = .ok (.bl true) s := law_plain_all
theorem top_mk {K : PySem.W.Frag} {mg : MG} {h : Heap} (X : K.In h) (G : h.Ns mainGlobals mg)
    (b_abs : PySem.W.nsIn K mainGlobals "abs" = some none)
    (b_all : PySem.W.nsIn K mainGlobals "all" = some none)
    (b_bool : PySem.W.nsIn K mainGlobals "bool" = some none)
    (b_divmod : PySem.W.nsIn K mainGlobals "divmod" = some none)
    (b_enumerate : PySem.W.nsIn K mainGlobals "enumerate" = some none)
    (b_int : PySem.W.nsIn K mainGlobals "int" = some none)
    (b_isinstance : PySem.W.nsIn K mainGlobals "isinstance" = some none)
    (b_len : PySem.W.nsIn K mainGlobals "len" = some none)
    (b_list : PySem.W.nsIn K mainGlobals "list" = some none)
    (b_max : PySem.W.nsIn K mainGlobals "max" = some none)
    (b_min : PySem.W.nsIn K mainGlobals "min" = some none)
    (b_range : PySem.W.nsIn K mainGlobals "range" = some none)
    (b_set : PySem.W.nsIn K mainGlobals "set" = some none)
    (b_sorted : PySem.W.nsIn K mainGlobals "sorted" = some none)
    (b_str : PySem.W.nsIn K mainGlobals "str" = some none)
    (b_sum : PySem.W.nsIn K mainGlobals "sum" = some none)
    (b_tuple : PySem.W.nsIn K mainGlobals "tuple" = some none)
    (e_InvalidWord : EG.In K "InvalidWord")
    (f__law_comes : FnIn K "_law_comes" "_law_comes" (top 29))
    (f__law_pick : FnIn K "_law_pick" "_law_pick" (top 24))
    (f__law_right : FnIn K "_law_right" "_law_right" (top 31))
    (f__law_row : FnIn K "_law_row" "_law_row" (top 30))
    (f__law_same : FnIn K "_law_same" "_law_same" (top 25))
    (f__law_take : FnIn K "_law_take" "_law_take" (top 23))
    (f__law_ways : FnIn K "_law_ways" "_law_ways" (top 28))
    (f__law_well : FnIn K "_law_well" "_law_well" (top 22))
    (f__law_word : FnIn K "_law_word" "_law_word" (top 26))
    (f__law_words : FnIn K "_law_words" "_law_words" (top 27))
    (f_check_two_words : FnIn K "check_two_words" "check_two_words" (top 15))
    (f_check_word : FnIn K "check_word" "check_word" (top 14))
    (f_is_shuffle : FnIn K "is_shuffle" "is_shuffle" (top 20))
    (f_is_shuffle_by : FnIn K "is_shuffle_by" "is_shuffle_by" (top 17))
    (f_is_text_of : FnIn K "is_text_of" "is_text_of" (top 2))
    (f_is_word_of : FnIn K "is_word_of" "is_word_of" (top 8))
    (f_is_worded : FnIn K "is_worded" "is_worded" (top 9))
    (f_law : FnIn K "law" "law" (top 32))
    (f_letters_of : FnIn K "letters_of" "letters_of" (top 7))
    (f_shuffle_count : FnIn K "shuffle_count" "shuffle_count" (top 19))
    (g_LETTERS : ∃ t, PySem.W.nsIn K mainGlobals "LETTERS" = some (some (.str "abc" t)))
    (g_LONGEST : ∃ t, PySem.W.nsIn K mainGlobals "LONGEST" = some (some (.int 12 t)))
    (g_MOST_LETTERS : ∃ t, PySem.W.nsIn K mainGlobals "MOST_LETTERS" = some (some (.int 3 t)))
    (i_comb : PySem.W.nsIn K mainGlobals "comb" = some (some (.builtin "math.comb"))) : Top K mg where
  b_abs := PySem.W.mg_none_of X G b_abs
  b_all := PySem.W.mg_none_of X G b_all
  b_bool := PySem.W.mg_none_of X G b_bool
  b_divmod := PySem.W.mg_none_of X G b_divmod
  b_enumerate := PySem.W.mg_none_of X G b_enumerate
  b_int := PySem.W.mg_none_of X G b_int
  b_isinstance := PySem.W.mg_none_of X G b_isinstance
  b_len := PySem.W.mg_none_of X G b_len
  b_list := PySem.W.mg_none_of X G b_list
  b_max := PySem.W.mg_none_of X G b_max
  b_min := PySem.W.mg_none_of X G b_min
  b_range := PySem.W.mg_none_of X G b_range
  b_set := PySem.W.mg_none_of X G b_set
  b_sorted := PySem.W.mg_none_of X G b_sorted
  b_str := PySem.W.mg_none_of X G b_str
  b_sum := PySem.W.mg_none_of X G b_sum
  b_tuple := PySem.W.mg_none_of X G b_tuple
  e_InvalidWord := err_G X G e_InvalidWord
  f__law_comes := FnIn.get X G f__law_comes
  f__law_pick := FnIn.get X G f__law_pick
  f__law_right := FnIn.get X G f__law_right
  f__law_row := FnIn.get X G f__law_row
  f__law_same := FnIn.get X G f__law_same
  f__law_take := FnIn.get X G f__law_take
  f__law_ways := FnIn.get X G f__law_ways
  f__law_well := FnIn.get X G f__law_well
  f__law_word := FnIn.get X G f__law_word
  f__law_words := FnIn.get X G f__law_words
  f_check_two_words := FnIn.get X G f_check_two_words
  f_check_word := FnIn.get X G f_check_word
  f_is_shuffle := FnIn.get X G f_is_shuffle
  f_is_shuffle_by := FnIn.get X G f_is_shuffle_by
  f_is_text_of := FnIn.get X G f_is_text_of
  f_is_word_of := FnIn.get X G f_is_word_of
  f_is_worded := FnIn.get X G f_is_worded
  f_law := FnIn.get X G f_law
  f_letters_of := FnIn.get X G f_letters_of
  f_shuffle_count := FnIn.get X G f_shuffle_count
  g_LETTERS := glob_get X G g_LETTERS
  g_LONGEST := glob_get X G g_LONGEST
  g_MOST_LETTERS := glob_get X G g_MOST_LETTERS
  i_comb := PySem.W.mg_of X G i_comb
end Lw
open PySem PySem.W PyProof.Rows
set_option maxRecDepth 100000 in
set_option maxHeartbeats 0 in
theorem PySem.Challenge.cw_leastwords_k44_what_comes_by_shuffling_holds : PySem.Challenge.rw_leastwords_k44_what_comes_by_shuffling.Holds := by
  w_on; o_law; k_head; (case hw => w_witness2)
  k_fill
  refine Mr.law_walk (l := PySem.Challenge.rw_leastwords_k44_what_comes_by_shuffling) (k := 9) (st := Lw.top 32) (Top := Lw.Top) rfl rfl rfl ⟨rfl, by decide, by decide⟩ (fun w h Y => PySem.W.kIn_of Y) (fun T => Lw.d_law T) (fun _ _ _ _ _ _ _ _ => rfl) ?T Lw.law_pure
  case T =>
    intro w mg h KX G
    refine' Lw.top_mk KX G ?b_abs ?b_all ?b_bool ?b_divmod ?b_enumerate ?b_int ?b_isinstance ?b_len ?b_list ?b_max ?b_min ?b_range ?b_set ?b_sorted ?b_str ?b_sum ?b_tuple ?e_InvalidWord ?f__law_comes ?f__law_pick ?f__law_right ?f__law_row ?f__law_same ?f__law_take ?f__law_ways ?f__law_well ?f__law_word ?f__law_words ?f_check_two_words ?f_check_word ?f_is_shuffle ?f_is_shuffle_by ?f_is_text_of ?f_is_word_of ?f_is_worded ?f_law ?f_letters_of ?f_shuffle_count ?g_LETTERS ?g_LONGEST ?g_MOST_LETTERS ?i_comb
    (case b_abs => k_is)
    (case b_all => k_is)
    (case b_bool => k_is)
    (case b_divmod => k_is)
    (case b_enumerate => k_is)
    (case b_int => k_is)
    (case b_isinstance => k_is)
    (case b_len => k_is)
    (case b_list => k_is)
    (case b_max => k_is)
    (case b_min => k_is)
    (case b_range => k_is)
    (case b_set => k_is)
    (case b_sorted => k_is)
    (case b_str => k_is)
    (case b_sum => k_is)
    (case b_tuple => k_is)
    (case e_InvalidWord => refine' Mr.EG.in_of ⟨20, 17, 20, 21⟩ ⟨20, 23, 20, 28⟩ ⟨21, 8, 21, 12⟩ ⟨21, 8, 21, 18⟩ ⟨21, 21, 21, 26⟩ ⟨21, 8, 21, 26⟩ ?h1 ?h2 ?h3 ?h4 ?h5 ?h6 ?h7 ?h8 ?h9 ?h10 ?h11 ?h12 ?h13 ?h14 ?h15; (case h1 => k_is); (case h2 => k_is); (case h3 => decide +kernel); (case h4 => k_is); (case h5 => k_is); (case h6 => k_is); (case h7 => k_is); (case h8 => k_is); (case h9 => k_is); (case h10 => k_is); (case h11 => k_is); (case h12 => k_is); (case h13 => k_is); (case h14 => k_is); (case h15 => k_is))
    (case f__law_comes => refine' Mr.fn_in ?a ?l ?c ?k; (case a => k_is); (case l => k_is); (case c => k_is); (case k => k_is))
    (case f__law_pick => refine' Mr.fn_in ?a ?l ?c ?k; (case a => k_is); (case l => k_is); (case c => k_is); (case k => k_is))
    (case f__law_right => refine' Mr.fn_in ?a ?l ?c ?k; (case a => k_is); (case l => k_is); (case c => k_is); (case k => k_is))
    (case f__law_row => refine' Mr.fn_in ?a ?l ?c ?k; (case a => k_is); (case l => k_is); (case c => k_is); (case k => k_is))
    (case f__law_same => refine' Mr.fn_in ?a ?l ?c ?k; (case a => k_is); (case l => k_is); (case c => k_is); (case k => k_is))
    (case f__law_take => refine' Mr.fn_in ?a ?l ?c ?k; (case a => k_is); (case l => k_is); (case c => k_is); (case k => k_is))
    (case f__law_ways => refine' Mr.fn_in ?a ?l ?c ?k; (case a => k_is); (case l => k_is); (case c => k_is); (case k => k_is))
    (case f__law_well => refine' Mr.fn_in ?a ?l ?c ?k; (case a => k_is); (case l => k_is); (case c => k_is); (case k => k_is))
    (case f__law_word => refine' Mr.fn_in ?a ?l ?c ?k; (case a => k_is); (case l => k_is); (case c => k_is); (case k => k_is))
    (case f__law_words => refine' Mr.fn_in ?a ?l ?c ?k; (case a => k_is); (case l => k_is); (case c => k_is); (case k => k_is))
    (case f_check_two_words => refine' Mr.fn_in ?a ?l ?c ?k; (case a => k_is); (case l => k_is); (case c => k_is); (case k => k_is))
    (case f_check_word => refine' Mr.fn_in ?a ?l ?c ?k; (case a => k_is); (case l => k_is); (case c => k_is); (case k => k_is))
    (case f_is_shuffle => refine' Mr.fn_in ?a ?l ?c ?k; (case a => k_is); (case l => k_is); (case c => k_is); (case k => k_is))
    (case f_is_shuffle_by => refine' Mr.fn_in ?a ?l ?c ?k; (case a => k_is); (case l => k_is); (case c => k_is); (case k => k_is))
    (case f_is_text_of => refine' Mr.fn_in ?a ?l ?c ?k; (case a => k_is); (case l => k_is); (case c => k_is); (case k => k_is))
    (case f_is_word_of => refine' Mr.fn_in ?a ?l ?c ?k; (case a => k_is); (case l => k_is); (case c => k_is); (case k => k_is))
    (case f_is_worded => refine' Mr.fn_in ?a ?l ?c ?k; (case a => k_is); (case l => k_is); (case c => k_is); (case k => k_is))
    (case f_law => refine' Mr.fn_in ?a ?l ?c ?k; (case a => k_is); (case l => k_is); (case c => k_is); (case k => k_is))
    (case f_letters_of => refine' Mr.fn_in ?a ?l ?c ?k; (case a => k_is); (case l => k_is); (case c => k_is); (case k => k_is))
    (case f_shuffle_count => refine' Mr.fn_in ?a ?l ?c ?k; (case a => k_is); (case l => k_is); (case c => k_is); (case k => k_is))
    (case g_LETTERS => refine' Mr.gs_in ?zz; (case zz => k_is))
    (case g_LONGEST => refine' Mr.gi_in ?zz; (case zz => k_is))
    (case g_MOST_LETTERS => refine' Mr.gi_in ?zz; (case zz => k_is))
    (case i_comb => k_is)

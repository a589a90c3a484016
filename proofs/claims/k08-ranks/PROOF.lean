import PyProof.Rows.All
import KE.Datum
import KE.SortData
import HandS.ForMost
import HandS.ForExc
import HandS.TryMany
import HandS.Deep
import HandS.Wide
import HandS.Conv
import HandS.Gcd
import HandS.SortKw
import HandS.Style
import HandS.TupAny
import HandS.TupLe
import HandS.DictTup
import KE.KExcSuper
import HandS.TupMul
import HandS.Flow
import HandS.Star
import HandS.Zip
import PyProof.ReprRoads
import PyProof.FitsInt
import HandS.Iter
import KE.GoesEnum
import HandS.SetFor
import HandS.SortInts
import PyProof.Rows.ChunkLeaf
import KE.DataCmp
import HandS.DictComp
import HandS.ExcField
import HandS.ExcSuper
import HandS.HeadEnd
import HandS.Head0
import HandS.Head1
import HandS.Head2
import HandS.HeadHook1
import HandS.HeadHook2
import HandS.Defaults
import HandS.Words
import KE.KStateDown
import Wide.FinOn
import HandS.Head3
import PySem.Challenge.RW_runattimes_k08_whole_answers_of_ranked_j
section
set_option linter.all false
set_option autoImplicit false
namespace Rt
open PySem

/-! ## Data as trees, results, environments -/
inductive D where
  | non | bl (b : Bool) | int (i : Int) | str (x : Str)
  | lst (xs : List D) | tup (xs : List D)
  | dct (ks vs : List D) | set (xs : List D)
  | rep (d : D) | fn (i : Nat)
  /-- the script -/
  | scr (is : List Int)
  deriving Inhabited

mutual
def D.py : D → PyData
  | .non => .none | .bl b => .bool b | .int i => .int i | .str x => .str x
  | .lst xs => .list (D.pyL xs) | .tup xs => .tuple (D.pyL xs)
  | .dct ks vs => .dict ((D.pyL ks).zip (D.pyL vs)) | .set _ => .dict [] | .rep _ => .dict [] | .fn _ => .dict [] | .scr _ => .dict []
def D.pyL : List D → List PyData
  | [] => []
  | x :: xs => D.py x :: D.pyL xs
end
mutual
/-- nothing in it that may change -/
def D.imm : D → Bool
  | .non | .bl _ | .int _ | .str _ | .rep _ | .fn _ | .scr _ => true
  | .tup xs => D.immL xs
  | .lst _ | .dct _ _ | .set _ => false
def D.immL : List D → Bool
  | [] => true
  | x :: xs => D.imm x && D.immL xs
end
def D.kids : D → Bool
  | .lst xs => D.immL xs
  | .dct _ vs => D.immL vs
  | _ => false

theorem nrfl {α : Sort _} {a : α} : a = a := Eq.trans (Eq.refl a) (Eq.refl a)
inductive R (α : Type) where
  | ok (a : α) | ex (c : Nat) (a : D) | bad
def R.bd {α β : Type} : R α → (α → R β) → R β
  | .ok a, f => f a
  | .ex c a, _ => .ex c a
  | .bad, _ => .bad
@[simp] theorem R.bd_ok {α β : Type} (a : α) (f : α → R β) : (R.ok a).bd f = f a := nrfl
@[simp] theorem R.bd_ex {α β : Type} (c : Nat) (a : D) (f : α → R β) : (R.ex c a : R α).bd f = .ex c a := nrfl
@[simp] theorem R.bd_bad {α β : Type} (f : α → R β) : (R.bad : R α).bd f = .bad := nrfl
theorem R.bd_assoc {α β γ : Type} (x : R α) (f : α → R β) (g : β → R γ) : (x.bd f).bd g = x.bd fun a => (f a).bd g := by cases x <;> rfl
def R.op {α : Type} : Option α → R α
  | some a => .ok a
  | none => .bad
@[simp] theorem R.op_some {α : Type} (a : α) : R.op (some a) = .ok a := nrfl
@[simp] theorem R.op_none {α : Type} : R.op (none : Option α) = .bad := nrfl

/-- where the top object of a value stands: with what is shared, new, or in a slot that owns it -/
inductive Tp where
  | fz | nw | sl (i : Nat)
structure Rv where
  d : D
  t : Tp
  p : List Nat
/-- the slots whose objects the value itself may hold -/
def Rv.kp (r : Rv) : List Nat := match r.t with | .sl i => [i] | _ => r.p
/-- the slots whose objects its items may hold -/
def Rv.kc (r : Rv) : List Nat := match r.t with | .sl _ => [] | _ => r.p
def Rv.isNw (r : Rv) : Bool := match r.t with | .nw => true | _ => false
def mkF (d : D) (p : List Nat) : Rv := ⟨d, .fz, match p with | [] => [] | _ :: _ => if d.imm then [] else p⟩
def mkN (d : D) (p : List Nat) : Rv := ⟨d, .nw, match p with | [] => [] | _ :: _ => if d.kids then [] else p⟩
def mk (fr : Bool) (d : D) (p : List Nat) : Rv := if fr then mkN d p else mkF d p

abbrev Slot := Option (D × Bool)
abbrev Env := List Slot
abbrev Ex := Env → R Rv
abbrev Tst := Env → R Bool
/-- what a loop walks: its items -/
abbrev Itr := Env → R (List D × List Nat)
abbrev Tg := D → Env → Option Env
abbrev Fn := List D → R (D × Bool)

/-! ## Operations on data -/
def line : Nat := 16777216
def D.isInt : D → Option Int
  | .int i => some i
  | _ => none
/-- from -(c + 1) to c; said so that a kernel stays still at what it does not know -/
def below (i : Int) (c : Nat) : Bool := match i with
  | .ofNat n => Nat.ble n c
  | .negSucc n => Nat.ble n c
theorem below_iff {i : Int} {c : Nat} : below i c = true ↔ -((c : Int) + 1) ≤ i ∧ i ≤ c := by
  cases i with
  | ofNat n =>
    show Nat.ble n c = true ↔ _
    rw [Nat.ble_eq]
    simp only [Int.ofNat_eq_natCast]
    omega
  | negSucc n =>
    show Nat.ble n c = true ↔ _
    rw [Nat.ble_eq]
    omega
def posI : Int → Bool
  | .ofNat (_ + 1) => true
  | _ => false
theorem posI_iff {i : Int} : posI i = true ↔ 0 < i := by
  cases i with
  | ofNat n =>
    cases n with
    | zero => simp [posI]
    | succ n => exact ⟨fun _ => by simp only [Int.ofNat_eq_natCast]; omega, fun _ => rfl⟩
  | negSucc n => exact ⟨fun h => Bool.noConfusion h, fun h => by omega⟩
def nnI : Int → Bool
  | .ofNat _ => true
  | _ => false
theorem nnI_iff {i : Int} : nnI i = true ↔ 0 ≤ i := by
  cases i with
  | ofNat n => exact ⟨fun _ => by simp only [Int.ofNat_eq_natCast]; omega, fun _ => rfl⟩
  | negSucc n => exact ⟨fun h => Bool.noConfusion h, fun h => by omega⟩
def wideOk (i j : Int) : Bool := below i 18446744073709551614 || below j 18446744073709551614 || decide (i.natAbs.log2 + j.natAbs.log2 < 1000000)
def dAdd : D → D → Option (D × Bool)
  | .int i, .int j => some (.int (i + j), false)
  | .str x, .str y => if x.length + y.length ≤ line then some (.str (x ++ y), false) else none
  | .lst xs, .lst ys => if xs.length + ys.length ≤ line then some (.lst (xs ++ ys), true) else none
  | .tup xs, .tup ys => if xs.length + ys.length ≤ line then some (.tup (xs ++ ys), false) else none
  | _, _ => none
def dSub : D → D → Option (D × Bool)
  | .int i, .int j => some (.int (i - j), false)
  | _, _ => none
def dMul : D → D → Option (D × Bool)
  | .int i, .int j => if wideOk i j then some (.int (i * j), false) else none
  | .lst xs, .int k => if below k 9223372036854775807 && decide (xs.length * k.toNat ≤ line) then some (.lst (List.replicate k.toNat xs).flatten, true) else none
  | .tup xs, .int k => if nnI k && below k 1000 && !xs.isEmpty && decide (xs.length ≤ 1000) then some (.tup (List.replicate k.toNat xs).flatten, false) else none
  | _, _ => none
def dDiv : D → D → Option (D × Bool)
  | .int i, .int j => if posI j && (below j 18446744073709551614 || decide (j.natAbs.log2 < 9000)) then some (.int (i / j), false) else none
  | _, _ => none
def dMod : D → D → Option (D × Bool)
  | .int i, .int j => if 0 < j then some (.int (i % j), false) else none
  | _, _ => none
def dPow : D → D → Option (D × Bool)
  | .int i, .int j => if nnI j && below j 1000000 && below i 18446744073709551614 then some (.int (i ^ j.toNat), false) else none
  | _, _ => none

mutual
def sameP : PyData → PyData → Bool
  | .none, .none => true
  | .bool a, .bool b => a == b
  | .int a, .int b => decide (a = b)
  | .str a, .str b => decide (a = b)
  | .list a, .list b => samePL a b
  | .tuple a, .tuple b => samePL a b
  | _, _ => false
def samePL : List PyData → List PyData → Bool
  | [], [] => true
  | x :: xs, y :: ys => sameP x y && samePL xs ys
  | _, _ => false
end
def sameD : PyData → PyData → Bool
  | .dict a, .dict b => samePL (a.map (·.1)) (b.map (·.1)) && samePL (a.map (·.2)) (b.map (·.2))
  | _, _ => false
def okEq (p q : PyData) : Bool := p.plain && q.plain && (decide (p.depth ≤ 60) || decide (q.depth ≤ 60))
/-- == -/
def dEq : D → D → Option Bool
  | .int i, .int j => some (decide (i = j))
  | .str x, .str y => some (decide (x = y))
  | .bl x, .bl y => some (x == y)
  | .rep x, .rep y => if sameP x.py y.py || sameD x.py y.py then some true else none
  | a, b => if okEq a.py b.py then some (PyData.eqv a.py b.py) else none
def dLt : D → D → Option Bool
  | .int i, .int j => some (decide (i < j))
  | _, _ => none
def dLe : D → D → Option Bool
  | .int i, .int j => some (decide (i ≤ j))
  | _, _ => none
def D.isNon : D → Bool
  | .non => true
  | _ => false
def dIs : D → D → Option Bool
  | a, .non => some a.isNon
  | .bl a, .bl b => some (a == b)
  | _, _ => none
def okIn (x : D) (ys : List D) : Bool := x.py.plain && PyData.plainAll (D.pyL ys) && (decide (PyData.depthAll (D.pyL ys) ≤ 59) || decide (x.py.depth ≤ 59))
def sameKey : D → D → Bool
  | .int i, .int j => decide (i = j)
  | .str x, .str y => decide (x = y)
  | _, _ => false
def isKey : D → Bool
  | .int _ => true
  | .str _ => true
  | _ => false
/-- x in a list, a tuple, a dict -/
def dIn (x : D) : D → Option Bool
  | .dct ks _ => if isKey x then some (ks.any fun k => sameKey k x) else none
  | .lst ys => if okIn x ys then some ((D.pyL ys).any fun z => PyData.eqv z x.py) else none
  | .tup ys => if okIn x ys then some ((D.pyL ys).any fun z => PyData.eqv z x.py) else none
  | _ => none
inductive Cop where
  | eq | ne | lt | le | gt | ge | is | isn | inn | nin
def cmpD : Cop → D → D → Option Bool
  | .eq, a, b => dEq a b
  | .ne, a, b => (dEq a b).map not
  | .lt, a, b => dLt a b
  | .le, a, b => dLe a b
  | .gt, a, b => dLt b a
  | .ge, a, b => dLe b a
  | .is, a, b => dIs a b
  | .isn, a, b => (dIs a b).map not
  | .inn, a, b => dIn a b
  | .nin, a, b => (dIn a b).map not
def truth : D → Option Bool
  | .non => some false
  | .bl b => some b
  | .int i => some (i != 0)
  | .str x => if x.length ≤ line then some (decide (x.length ≠ 0)) else none
  | .lst xs => some (!xs.isEmpty)
  | .tup xs => some (!xs.isEmpty)
  | _ => none
/-- a place, from the end if it is below nought -/
def place (n : Nat) (i : Int) : Option Nat :=
  if 0 ≤ i then (if i < n then some i.toNat else none) else if 0 ≤ i + n then some (i + n).toNat else none
/-- what a dict holds at a key -/
def dkGet : List D → List D → D → Option D
  | k :: ks, v :: vs, q => if sameKey k q then some v else dkGet ks vs q
  | _, _, _ => none
/-- .. behind a store -/
def dkSet : List D → List D → D → D → List D
  | k :: ks, v :: vs, q, x => (if sameKey k q then x else v) :: dkSet ks vs q x
  | _, _, _, _ => []
def dkPut (ks vs : List D) (q x : D) : List D × List D := if ks.any fun k => sameKey k q then (ks, dkSet ks vs q x) else (ks ++ [q], vs ++ [x])
def dIdx : D → D → Option D
  | .dct ks vs, q => if isKey q then dkGet ks vs q else none
  | .lst xs, .int i => (place xs.length i).bind fun k => xs[k]?
  | .tup xs, .int i => (place xs.length i).bind fun k => xs[k]?
  | .scr xs, .int i => (place xs.length i).bind fun k => xs[k]?.map .int
  | _, _ => none

/-! ## Expressions -/
def xCon (d : D) : Ex := fun _ => .ok ⟨d, .fz, []⟩
def xVar (i : Nat) : Ex := fun σ => match σ[i]? with
  | some (some (d, true)) => .ok ⟨d, .sl i, []⟩
  | some (some (d, false)) => .ok ⟨d, .fz, []⟩
  | _ => .bad
def xBin (f : D → D → Option (D × Bool)) (a b : Ex) : Ex := fun σ => (a σ).bd fun r => (b σ).bd fun s => match f r.d s.d with
  | some (d, fr) => .ok (mk fr d (r.kc ++ s.kc))
  | none => .bad
def xNeg (a : Ex) : Ex := fun σ => (a σ).bd fun r => match r.d with
  | .int i => .ok ⟨.int (-i), .fz, []⟩
  | _ => .bad
def xCmp (o : Cop) (a b : Ex) : Ex := fun σ => (a σ).bd fun r => (b σ).bd fun s => match cmpD o r.d s.d with
  | some k => .ok ⟨.bl k, .fz, []⟩
  | none => .bad
def linkK : List (Cop × Ex) → Bool → R Rv → R Rv
  | [], k, _ => .ok ⟨.bl k, .fz, []⟩
  | _ :: _, true, n => n
  | _ :: _, false, _ => .ok ⟨.bl false, .fz, []⟩
def chainGo : Rv → List (Cop × Ex) → Ex
  | _, [], _ => .bad
  | r, (o, b) :: rest, σ => (b σ).bd fun s => match cmpD o r.d s.d with
    | some k => linkK rest k (chainGo s rest σ)
    | none => .bad
def xChain (a : Ex) (l : List (Cop × Ex)) : Ex := fun σ => (a σ).bd fun r => chainGo r l σ
def tOf (a : Ex) : Tst := fun σ => (a σ).bd fun r => R.op (truth r.d)
def tNot (t : Tst) : Tst := fun σ => (t σ).bd fun k => .ok (!k)
def tAnd (t u : Tst) : Tst := fun σ => (t σ).bd fun k => match k with | true => u σ | false => .ok false
def tOr (t u : Tst) : Tst := fun σ => (t σ).bd fun k => match k with | true => .ok true | false => u σ
/-- and, or, not as values: of truth values -/
def xNot (a : Ex) : Ex := fun σ => (a σ).bd fun r => match truth r.d with
  | some k => .ok ⟨.bl (!k), .fz, []⟩
  | none => .bad
def xAnd (a b : Ex) : Ex := fun σ => (a σ).bd fun r => match truth r.d with
  | some true => b σ
  | some false => .ok r
  | none => .bad
def xOr (a b : Ex) : Ex := fun σ => (a σ).bd fun r => match truth r.d with
  | some true => .ok r
  | some false => b σ
  | none => .bad
def xIf (t : Tst) (a b : Ex) : Ex := fun σ => (t σ).bd fun k => match k with | true => a σ | false => b σ
def evs : List Ex → Env → R (List Rv)
  | [], _ => .ok []
  | e :: es, σ => (e σ).bd fun r => (evs es σ).bd fun rs => .ok (r :: rs)
def kpL (rs : List Rv) : List Nat := (rs.map Rv.kp).flatten
def kcL (rs : List Rv) : List Nat := (rs.map Rv.kc).flatten
def dL (rs : List Rv) : List D := rs.map Rv.d
def xCall (f : Fn) (es : List Ex) : Ex := fun σ => (evs es σ).bd fun rs => (f (dL rs)).bd fun p => .ok (mk p.2 p.1 (kpL rs))
def xCallV (n : Nat) (call : Nat → Fn) (g : Ex) (es : List Ex) : Ex := fun σ => (g σ).bd fun r => match r.d with
  | .fn i => if i < n then xCall (call i) es σ else .bad
  | _ => .bad
def xBi (f : List D → Option (D × Bool)) (es : List Ex) : Ex := fun σ => (evs es σ).bd fun rs => match f (dL rs) with
  | some (d, fr) => .ok (mk fr d (kcL rs))
  | none => .bad
def xIdx (a i : Ex) : Ex := fun σ => (a σ).bd fun r => (i σ).bd fun s => match dIdx r.d s.d with
  | some d => .ok (mkF d r.kc)
  | none => .bad
/-- items of a display, a star's spread out -/
def spread : List (Bool × Ex) → Env → R (List D × List Nat)
  | [], _ => .ok ([], [])
  | (false, e) :: es, σ => (e σ).bd fun r => (spread es σ).bd fun q => .ok (r.d :: q.1, r.kp ++ q.2)
  | (true, e) :: es, σ => (e σ).bd fun r => (match r.d with
    | .lst xs => (spread es σ).bd fun q => .ok (xs ++ q.1, r.kc ++ q.2)
    | .tup xs => (spread es σ).bd fun q => .ok (xs ++ q.1, r.kc ++ q.2)
    | _ => .bad)
def xLst (es : List (Bool × Ex)) : Ex := fun σ => (spread es σ).bd fun q => if q.1.length ≤ line then .ok (mkN (.lst q.1) q.2) else .bad
def xTup (es : List (Bool × Ex)) : Ex := fun σ => (spread es σ).bd fun q => if q.1.length ≤ line then .ok (mkF (.tup q.1) q.2) else .bad
/-- an end of a slice without a step -/
def sEnd (n d : Nat) (o : Option Int) : Nat := match o with
  | none => d
  | some i => if 0 ≤ i then min i.toNat n else (i + n).toNat
def cutL {α : Type} (xs : List α) (lo hi : Option Int) : List α :=
  (xs.drop (sEnd xs.length 0 lo)).take (sEnd xs.length xs.length hi - sEnd xs.length 0 lo)
def dSlice : D → Option Int → Option Int → Option (D × Bool)
  | .lst xs, lo, hi => some (.lst (cutL xs lo hi), true)
  | .tup xs, lo, hi => some (.tup (cutL xs lo hi), false)
  | _, _, _ => none
def evO : Option Ex → Env → R (Option Int)
  | none, _ => .ok none
  | some e, σ => (e σ).bd fun r => match r.d with
    | .int i => .ok (some i)
    | _ => .bad
def xSlice (a : Ex) (lo hi : Option Ex) : Ex := fun σ => (a σ).bd fun r => (evO lo σ).bd fun l => (evO hi σ).bd fun h => match dSlice r.d l h with
  | some (d, fr) => .ok (mk fr d r.kc)
  | none => .bad

/-! ## Built-ins -/
def bAbs : List D → Option (D × Bool)
  | [.int i] => some (.int (i.natAbs : Int), false)
  | _ => none
def bInt : List D → Option (D × Bool)
  | [.int i] => some (.int i, false)
  | [.bl b] => some (.int (if b then 1 else 0), false)
  | _ => none
def bLen : List D → Option (D × Bool)
  | [.lst xs] => some (.int xs.length, false)
  | [.tup xs] => some (.int xs.length, false)
  | [.scr xs] => some (.int xs.length, false)
  | [.str x] => if x.length ≤ line then some (.int x.length, false) else none
  | _ => none
def asInts : List D → Option (List Int)
  | [] => some []
  | .int i :: xs => (asInts xs).map (i :: ·)
  | _ => none
def leastI : List Int → Option Int
  | [] => none
  | i :: is => some (is.foldl min i)
def greatI : List Int → Option Int
  | [] => none
  | i :: is => some (is.foldl max i)
def bSum : List D → Option (D × Bool)
  | [.lst xs] => (asInts xs).map fun is => (.int is.sum, false)
  | _ => none
def bGcd : List D → Option (D × Bool)
  | [.int i, .int j] => some (.int (Nat.gcd i.natAbs j.natAbs : Nat), false)
  | _ => none
def asBools : List D → Option (List Bool)
  | [] => some []
  | .bl i :: xs => (asBools xs).map (i :: ·)
  | _ => none
def bAll : List D → Option (D × Bool)
  | [.lst xs] => (asBools xs).map fun bs => (.bl (bs.all id), false)
  | _ => none
def bAny : List D → Option (D × Bool)
  | [.lst xs] => (asBools xs).map fun bs => (.bl (bs.any id), false)
  | _ => none
mutual
/-- a bound of the signs that repr writes -/
def repW : PyData → Nat
  | .none => 4 | .bool _ => 5
  | .int i => i.natAbs.log2 + 3
  | .str x => (reprText x).length
  | .list xs => 3 + repWL xs | .tuple xs => 3 + repWL xs
  | .dict _ => 0
def repWL : List PyData → Nat
  | [] => 0
  | x :: xs => repW x + 2 + repWL xs
end
def okRep (p : PyData) : Bool := p.plain && p.showable && decide (p.depth ≤ 60) && decide (repW p ≤ line)
def repWK : List (PyData × PyData) → Nat
  | [] => 0
  | kv :: r => repW kv.1 + repW kv.2 + 4 + repWK r
/-- a dict of plain data -/
def okKv (kvs : List (PyData × PyData)) : Bool := kvs.all (fun kv => kv.1.plain && kv.2.plain) && PyData.showable (.dict kvs) && decide ((PyData.dict kvs).depth ≤ 60) && decide (repWK kvs + 4 ≤ line)
def okRepD : D → Bool
  | .dct ks vs => okKv ((D.pyL ks).zip (D.pyL vs))
  | _ => false
def bRepr : List D → Option (D × Bool)
  | [d] => if okRep d.py || okRepD d then some (.rep d, false) else none
  | _ => none

/-- list(x), tuple(x) -/
def bList : List D → Option (D × Bool)
  | [.lst xs] => some (.lst xs, true)
  | [.tup xs] => some (.lst xs, true)
  | _ => none
def bTuple : List D → Option (D × Bool)
  | [.lst xs] => some (.tup xs, false)
  | [.tup xs] => some (.tup xs, false)
  | _ => none
def insI (i : Int) : List Int → List Int
  | [] => [i]
  | j :: js => if i ≤ j then i :: j :: js else j :: insI i js
def isort : List Int → List Int
  | [] => []
  | i :: is => insI i (isort is)
/-- what may be sorted: plain data, alike, all tuples with an item or none of them None or a tuple -/
def tupC : PyData → Bool
  | .tuple (_ :: _) => true
  | _ => false
def noTN : PyData → Bool
  | .none => false
  | .tuple _ => false
  | _ => true
def okSort (xs : List D) : Bool := PyData.plainAll (D.pyL xs) && (decide (PyData.depthAll (D.pyL xs) ≤ 50) && (xs.all (fun x => xs.all fun y => PySem.W.alike x.py y.py) && (xs.all (fun x => tupC x.py) || xs.all fun x => noTN x.py)))
def leD (a b : D) : Bool := PySem.W.dataLe false D.py a b
/-- the place of the first item that none beats -/
def bestAt (lt : D → D → Bool) (xs : List D) : Option D := xs[argBest (fun i k => lt (xs.getD i .non) (xs.getD k .non)) (xs.length - 1)]?
def ltD (a b : D) : Bool := PySem.W.dataLt a.py b.py
def bMin : List D → Option (D × Bool)
  | [.int i, .int j] => some (.int (min i j), false)
  | [.lst xs] => (match asInts xs with
    | some is => (leastI is).map fun i => (.int i, false)
    | none => if okSort xs then (bestAt ltD xs).map fun d => (d, false) else none)
  | _ => none
def bMax : List D → Option (D × Bool)
  | [.int i, .int j] => some (.int (max i j), false)
  | [.lst xs] => (match asInts xs with
    | some is => (greatI is).map fun i => (.int i, false)
    | none => if okSort xs then (bestAt (fun a b => ltD b a) xs).map fun d => (d, false) else none)
  | _ => none
/-- sorted(x) -/
def bSorted : List D → Option (D × Bool)
  | [.lst xs] => match asInts xs with
    | some is => some (.lst ((isort is).map .int), true)
    | none => if okSort xs then some (.lst (xs.mergeSort leD), true) else none
  | _ => none
/-! ## Methods of lists that give something -/
def firstAt (k : Int) : List Int → Option Nat
  | [] => none
  | x :: xs => if x = k then some 0 else (firstAt k xs).map (· + 1)
def mIndex : List D → List D → Option (D × Bool)
  | xs, [.int k] => (asInts xs).bind fun is => (firstAt k is).map fun j => (.int (j : Nat), false)
  | _, _ => none
def mCount : List D → List D → Option (D × Bool)
  | xs, [.int k] => (asInts xs).map fun is => (.int (is.count k : Nat), false)
  | _, _ => none
def xMt (f : List D → List D → Option (D × Bool)) (a : Ex) (es : List Ex) : Ex := fun σ => (a σ).bd fun r => match r.d with
  | .lst xs => (evs es σ).bd fun rs => (match f xs (dL rs) with
    | some (d, fr) => .ok (mk fr d (r.kc ++ kcL rs))
    | none => .bad)
  | _ => .bad
/-- d.get(k), d.get(k, x) -/
def dGet (ks vs : List D) : List D → Option D
  | [k] => if isKey k then some ((dkGet ks vs k).getD .non) else none
  | [k, x] => if isKey k then some ((dkGet ks vs k).getD x) else none
  | _ => none
def xGet (a : Ex) (es : List Ex) : Ex := fun σ => (a σ).bd fun r => match r.d with
  | .dct ks vs => (evs es σ).bd fun rs => (match dGet ks vs (dL rs) with
    | some d => .ok (mkF d (r.kp ++ kpL rs))
    | none => .bad)
  | _ => .bad
/-- x[::-1] -/
def bRev : List D → Option (D × Bool)
  | [.lst xs] => some (.lst xs.reverse, true)
  | _ => none
/-- {} -/
def xDct0 : Ex := fun _ => .ok ⟨.dct [] [], .nw, []⟩
/-! ## What is walked -/
def noDep (items : List D) (p : List Nat) : R (List D × List Nat) := match p with
  | [] => .ok (items, [])
  | _ :: _ => if D.immL items then .ok (items, []) else .bad
/-- a list, a tuple -/
def iSeq (a : Ex) : Itr := fun σ => (a σ).bd fun r => match r.d with
  | .lst xs => (noDep xs r.kc).bd fun q => .ok (q.1, r.kp)
  | .tup xs => (noDep xs r.kc).bd fun q => .ok (q.1, r.kp)
  | _ => .bad
/-- a list just made, whose items may stand in slots: they are shared while it is walked -/
def iSeqF (a : Ex) : Itr := fun σ => (a σ).bd fun r => match r.d, r.t with
  | .lst xs, .nw => .ok (xs, r.p)
  | _, _ => .bad
def upto (lo : Int) (n : Nat) : List Int := (List.range n).map fun (k : Nat) => lo + (k : Int)
def okRng (i : Int) : Bool := below i 4611686018427387903
def iRng1 (a : Ex) : Itr := fun σ => (a σ).bd fun r => match r.d with
  | .int n => if okRng n then .ok ((upto 0 n.toNat).map .int, []) else .bad
  | _ => .bad
def iRng2 (a b : Ex) : Itr := fun σ => (a σ).bd fun r => (b σ).bd fun s => match r.d, s.d with
  | .int m, .int n => if okRng m && okRng n then .ok ((upto m (n - m).toNat).map .int, []) else .bad
  | _, _ => .bad
/-- range(i, j, c) -/
def stepI (i j c : Int) : Option (List Int) := if decide (c ≠ 0 ∧ c.natAbs < 1073741824) && Builtin.Range.small i j c then some ((List.range (Builtin.Range.rangeSize i j c).toNat).map fun (k : Nat) => i + (k : Int) * c) else none
def iRng3 (a b c : Ex) : Itr := fun σ => (a σ).bd fun r => (b σ).bd fun s => (c σ).bd fun t => match r.d, s.d, t.d with
  | .int i, .int j, .int k => (match stepI i j k with
    | some l => .ok (l.map .int, [])
    | none => .bad)
  | _, _, _ => .bad
/-- list(range(a)), list(range(a, b)) -/
def okRl (i : Int) : Bool := decide (0 ≤ i) && below i 16777216
def xLRg1 (a : Ex) : Ex := fun σ => (a σ).bd fun r => match r.d with
  | .int n => if okRl n then .ok ⟨.lst ((upto 0 n.toNat).map .int), .nw, []⟩ else .bad
  | _ => .bad
def xLRg2 (a b : Ex) : Ex := fun σ => (a σ).bd fun r => (b σ).bd fun s => match r.d, s.d with
  | .int m, .int n => if okRl m && okRl n then .ok ⟨.lst ((upto m (n - m).toNat).map .int), .nw, []⟩ else .bad
  | _, _ => .bad
def numbered : Nat → List D → List D
  | _, [] => []
  | k, x :: xs => .tup [.int k, x] :: numbered (k + 1) xs
def iEnum (a : Ex) : Itr := fun σ => (a σ).bd fun r => match r.d with
  | .lst xs => (noDep xs r.kc).bd fun q => .ok (numbered 0 q.1, r.kp)
  | .tup xs => (noDep xs r.kc).bd fun q => .ok (numbered 0 q.1, r.kp)
  | _ => .bad
def paired : List D → List D → List D
  | x :: xs, y :: ys => .tup [x, y] :: paired xs ys
  | _, _ => []
def iZip (a b : Ex) : Itr := fun σ => (a σ).bd fun r => (b σ).bd fun s => match r.d, s.d with
  | .lst xs, .lst ys => (noDep xs r.kc).bd fun q => (noDep ys s.kc).bd fun q' => .ok (paired q.1 q'.1, r.kp ++ s.kp)
  | .tup xs, .tup ys => (noDep xs r.kc).bd fun q => (noDep ys s.kc).bd fun q' => .ok (paired q.1 q'.1, r.kp ++ s.kp)
  | .tup xs, .lst ys => (noDep xs r.kc).bd fun q => (noDep ys s.kc).bd fun q' => .ok (paired q.1 q'.1, r.kp ++ s.kp)
  | _, _ => .bad

/-! ## Targets -/
def gName (i : Nat) : Tg := fun d σ => if i < σ.length then some (σ.set i (some (d, false))) else none
def gAll : List Tg → List D → Env → Option Env
  | [], [], σ => some σ
  | g :: gs, d :: ds, σ => (g d σ).bind fun σ' => gAll gs ds σ'
  | _, _, _ => none
def gTup (gs : List Tg) : Tg := fun d σ => match d with
  | .tup ds => gAll gs ds σ
  | .lst ds => gAll gs ds σ
  | _ => none

/-! ## A list comprehension of one for -/
def wipeE (own : List Nat) (σ : Env) : Env := own.foldr (fun i σ => σ.set i none) σ
/-- slots that own their objects, outside a block's own -/
def fineAt (own : List Nat) (σ : Env) (l : List Nat) : Bool := l.all fun i => !own.contains i && (match σ[i]? with
  | some (some (_, true)) => true
  | _ => false)
def lcGo (own : List Nat) (g : Tg) (t : Tst) (e : Ex) (σ : Env) : List D → R (List D × List Nat)
  | [] => .ok ([], [])
  | x :: xs => match g x σ with
    | none => .bad
    | some σ' => match t σ' with
      | .ok true => (match e σ' with
        | .ok r => if fineAt own σ' r.kp then (lcGo own g t e σ xs).bd fun q => .ok (r.d :: q.1, r.kp ++ q.2) else .bad
        | _ => .bad)
      | .ok false => lcGo own g t e σ xs
      | _ => .bad
def xLC (own : List Nat) (it : Itr) (g : Tg) (t : Tst) (e : Ex) : Ex := fun σ => (it σ).bd fun q =>
  match lcGo own g t e (wipeE own σ) q.1 with
  | .ok w => if w.1.length ≤ line then .ok (mkN (.lst w.1) w.2) else .bad
  | _ => .bad

/-! ## A dict comprehension of one for -/
def dcGo (g : Tg) (t : Tst) (k e : Ex) (σ : Env) : List D → List D → List D → R (List D × List D)
  | [], ks, vs => .ok (ks, vs)
  | x :: xs, ks, vs => match g x σ with
    | none => .bad
    | some σ' => match t σ' with
      | .ok true => (match k σ' with
        | .ok r => if isKey r.d && decide (ks.length < line) then (match e σ' with
          | .ok w => if w.kp.isEmpty then dcGo g t k e σ xs (dkPut ks vs r.d w.d).1 (dkPut ks vs r.d w.d).2 else .bad
          | _ => .bad) else .bad
        | _ => .bad)
      | .ok false => dcGo g t k e σ xs ks vs
      | _ => .bad
def xDC (own : List Nat) (it : Itr) (g : Tg) (t : Tst) (k e : Ex) : Ex := fun σ => (it σ).bd fun q =>
  match dcGo g t k e (wipeE own σ) q.1 [] [] with
  | .ok w => .ok (mkN (.dct w.1 w.2) [])
  | _ => .bad
/-! ## A list comprehension of two fors -/
def lc2Go (js : List Nat) (g : Tg) (t : Tst) (it1 : Itr) (g1 : Tg) (t1 : Tst) (e : Ex) (σ : Env) : List D → R (List D)
  | [] => .ok []
  | x :: xs => match g x σ with
    | none => .bad
    | some σ' => match t σ' with
      | .ok true => (match it1 σ' with
        | .ok q => if q.2.isEmpty then (match lcGo js g1 t1 e (wipeE js σ') q.1 with
          | .ok w => if w.2.isEmpty then (lc2Go js g t it1 g1 t1 e σ xs).bd fun r => .ok (w.1 ++ r) else .bad
          | _ => .bad) else .bad
        | _ => .bad)
      | .ok false => lc2Go js g t it1 g1 t1 e σ xs
      | _ => .bad
def xLC2 (own js : List Nat) (it : Itr) (g : Tg) (t : Tst) (it1 : Itr) (g1 : Tg) (t1 : Tst) (e : Ex) : Ex := fun σ => (it σ).bd fun q =>
  match lc2Go js g t it1 g1 t1 e (wipeE own σ) q.1 with
  | .ok w => if w.length ≤ line then .ok (mkN (.lst w) []) else .bad
  | _ => .bad

/-! ## Statements -/
inductive O where
  | nx (σ : Env) | rt (d : D) (fr : Bool) | ex (c : Nat) (a : D) (σ : Env) | bad
abbrev Sm := Env → O
def O.bd : O → Sm → O
  | .nx σ, f => f σ
  | o, _ => o
@[simp] theorem O.bd_nx (σ : Env) (f : Sm) : (O.nx σ).bd f = f σ := nrfl
@[simp] theorem O.bd_rt (d : D) (b : Bool) (f : Sm) : (O.rt d b).bd f = .rt d b := nrfl
@[simp] theorem O.bd_ex (c : Nat) (a : D) (σ : Env) (f : Sm) : (O.ex c a σ).bd f = .ex c a σ := nrfl
@[simp] theorem O.bd_bad (f : Sm) : O.bad.bd f = .bad := nrfl
def R.to {α : Type} (σ : Env) : R α → (α → O) → O
  | .ok a, f => f a
  | .ex c a, _ => .ex c a σ
  | .bad, _ => .bad
@[simp] theorem R.to_ok {α : Type} (σ : Env) (a : α) (f : α → O) : (R.ok a).to σ f = f a := nrfl
@[simp] theorem R.to_ex {α : Type} (σ : Env) (c : Nat) (a : D) (f : α → O) : (R.ex c a : R α).to σ f = .ex c a σ := nrfl
@[simp] theorem R.to_bad {α : Type} (σ : Env) (f : α → O) : (R.bad : R α).to σ f = .bad := nrfl

/-- the slots' objects are shared from now on -/
def frz1 (σ : Env) (i : Nat) : Env := match σ[i]? with
  | some (some (d, _)) => σ.set i (some (d, false))
  | _ => σ
def frz (l : List Nat) (σ : Env) : Env := l.foldl frz1 σ
@[simp] theorem frz_nil (σ : Env) : frz [] σ = σ := nrfl
/-- .. if they own them -/
def frzO (l : List Nat) (σ : Env) (k : Env → O) : O := if fineAt [] σ l then k (frz l σ) else .bad
@[simp] theorem frzO_nil (σ : Env) (k : Env → O) : frzO [] σ k = k σ := nrfl

def sPass : Sm := fun σ => .nx σ
def sSeq (a b : Sm) : Sm := fun σ => (a σ).bd b
def sAll : List Sm → Sm
  | [] => sPass
  | [a] => a
  | a :: b => sSeq a (sAll b)
def sExpr (e : Ex) : Sm := fun σ => (e σ).to σ fun _ => .nx σ
def sRet (e : Ex) : Sm := fun σ => (e σ).to σ fun r => if fineAt [] σ r.kp then .rt r.d (match r.t with | .fz => false | _ => true) else .bad
def sRetN : Sm := fun _ => .rt .non false
def sSet (i : Nat) (e : Ex) : Sm := fun σ => (e σ).to σ fun r => frzO r.kp σ fun σ' => if i < σ.length then .nx (σ'.set i (some (r.d, r.isNw))) else .bad
def sTg (g : Tg) (e : Ex) : Sm := fun σ => (e σ).to σ fun r => frzO r.kp σ fun σ' => match g r.d σ' with
  | some σ'' => .nx σ''
  | none => .bad
/-- a, b = c, d -/
def sPar (i j : Nat) (a b : Ex) : Sm := fun σ => (a σ).to σ fun r => (b σ).to σ fun s =>
  frzO (r.kp ++ s.kp) σ fun σ' => if i < σ.length ∧ j < σ.length then .nx ((σ'.set i (some (r.d, false))).set j (some (s.d, s.isNw))) else .bad
/-- a number, or a new list whose items stay -/
def plainR (r : Rv) : Bool := match r.d, r.t, r.p with
  | .int _, .fz, _ => true
  | .lst xs, .nw, [] => D.immL xs
  | _, _, _ => false
/-- a, b, c = d, e, f -/
def sPar3 (i j k : Nat) (a b c : Ex) : Sm := fun σ => (a σ).to σ fun r => (b σ).to σ fun s => (c σ).to σ fun t =>
  if (plainR r && (plainR s && plainR t)) && decide (i < σ.length ∧ j < σ.length ∧ k < σ.length) then .nx (((σ.set i (some (r.d, r.isNw))).set j (some (s.d, s.isNw))).set k (some (t.d, t.isNw))) else .bad
def sIf (t : Tst) (a b : Sm) : Sm := fun σ => (t σ).to σ fun k => match k with | true => a σ | false => b σ
def sApp (i : Nat) (e : Ex) : Sm := fun σ => match σ[i]? with
  | some (some (.lst _, true)) => (e σ).to σ fun r => frzO r.kp σ fun σ' => (match σ'[i]? with
    | some (some (.lst xs, true)) => if xs.length < line then .nx (σ'.set i (some (.lst (xs ++ [r.d]), true))) else .bad
    | _ => .bad)
  | _ => .bad
/-- xs.extend(ys) -/
def sExt (i : Nat) (e : Ex) : Sm := fun σ => match σ[i]? with
  | some (some (.lst _, true)) => (e σ).to σ fun r => (match r.d with
    | .lst ys => frzO r.kc σ fun σ' => (match σ'[i]? with
      | some (some (.lst xs, true)) => if xs.length + ys.length ≤ line then .nx (σ'.set i (some (.lst (xs ++ ys), true))) else .bad
      | _ => .bad)
    | _ => .bad)
  | _ => .bad
/-- xs.remove(k), k in it, a list of ints -/
def sRem (i : Nat) (e : Ex) : Sm := fun σ => match σ[i]? with
  | some (some (.lst _, true)) => (e σ).to σ fun r => (match r.d with
    | .int k => frzO r.kp σ fun σ' => (match σ'[i]? with
      | some (some (.lst xs, true)) => (match asInts xs with
        | some is => (match firstAt k is with
          | some j => .nx (σ'.set i (some (.lst ((is.eraseIdx j).map .int), true)))
          | none => .bad)
        | none => .bad)
      | _ => .bad)
    | _ => .bad)
  | _ => .bad
def sPut (i : Nat) (k e : Ex) : Sm := fun σ => match σ[i]? with
  | some (some (.lst _, true)) => (e σ).to σ fun r => (k σ).to σ fun s => frzO r.kp σ fun σ' => (match s.d, σ'[i]? with
    | .int j, some (some (.lst xs, true)) => (match place xs.length j with
      | some n => .nx (σ'.set i (some (.lst (xs.set n r.d), true)))
      | none => .bad)
    | _, _ => .bad)
  | some (some (.dct _ _, true)) => (e σ).to σ fun r => (k σ).to σ fun s => frzO r.kp σ fun σ' => (match σ'[i]? with
    | some (some (.dct ks vs, true)) => if isKey s.d && decide (ks.length < line) then .nx (σ'.set i (some (.dct (dkPut ks vs s.d r.d).1 (dkPut ks vs s.d r.d).2, true))) else .bad
    | _ => .bad)
  | _ => .bad
def forGo (g : Tg) (b : Sm) : List D → Sm
  | [], σ => .nx σ
  | x :: xs, σ => match g x σ with
    | none => .bad
    | some σ' => (b σ').bd (forGo g b xs)
def sFor (g : Tg) (it : Itr) (b : Sm) : Sm := fun σ => (it σ).to σ fun q => frzO q.2 σ fun σ' => forGo g b q.1 σ'
def whileGo (t : Tst) (b : Sm) : Nat → Sm
  | 0, _ => .bad
  | n + 1, σ => (t σ).to σ fun k => match k with
    | true => (b σ).bd (whileGo t b n)
    | false => .nx σ
def fuel : Nat := 1000000000000
def sWhile (t : Tst) (b : Sm) : Sm := whileGo t b fuel
def sRaise (c : Nat) (e : Ex) : Sm := fun σ => (e σ).to σ fun r => match r.d with
  | .int i => .ex c (.int i) σ
  | _ => .bad
/-- an except clause: the classes that it takes, what it returns of e.at -/
abbrev Hd := (Nat → Bool) × (D → D)
def pick : List Hd → Nat → D → Env → O
  | [], c, a, σ => .ex c a σ
  | h :: hs, c, a, σ => if h.1 c then .rt (h.2 a) false else pick hs c a σ
/-- n: how many classes there are -/
def sTry (n : Nat) (b : Sm) (hs : List Hd) : Sm := fun σ => match b σ with
  | .ex c a σ' => if c < n then pick hs c a σ' else .bad
  | o => o

/-! ## Defs -/
abbrev Body := (Nat → Fn) → Sm
def begin_ (n : Nat) (ds : List D) : Env := ds.map (fun d => some (d, false)) ++ List.replicate (n - ds.length) none
def ends : O → R (D × Bool)
  | .nx _ => .ok (.non, false)
  | .rt d b => .ok (d, b)
  | .ex c a _ => .ex c a
  | .bad => .bad
@[simp] theorem ends_rt (d : D) (b : Bool) : ends (.rt d b) = .ok (d, b) := nrfl
@[simp] theorem ends_nx (σ : Env) : ends (.nx σ) = .ok (.non, false) := nrfl
@[simp] theorem ends_ex (c : Nat) (a : D) (σ : Env) : ends (.ex c a σ) = .ex c a := nrfl
structure Df where
  arity : Nat
  slots : Nat
  body : Body
def run (T : Nat → Option Df) : Nat → Nat → Fn
  | 0, _, _ => .bad
  | n + 1, i, ds => match T i with
    | some f => if ds.length = f.arity then ends (f.body (run T n) (begin_ f.slots ds)) else .bad
    | none => .bad
end Rt
end
section
set_option linter.all false
set_option autoImplicit false
set_option Elab.async false
set_option maxRecDepth 100000
set_option maxHeartbeats 2000000
namespace Rt
open PySem L2

/-! ## Trees in the abstract heap -/
section
variable (fa : Nat → Addr) (K : PySem.W.Frag)
def keyD : Key → D
  | .inl i => .int i
  | .inr x => .str x
mutual
def Rep (Z : Hp) : D → V → Prop
  | .non, v => v = .non
  | .bl b, v => v = .bl b
  | .int i, v => v = .int i
  | .str x, v => v = .str x
  | .lst ds, v => ∃ a vs, v = .ref a ∧ Z a = some (.lst vs) ∧ RepL Z ds vs
  | .tup ds, v => ∃ a vs, v = .ref a ∧ SqT K Z a vs ∧ RepL Z ds vs
  | .dct ks ds, v => ∃ a kvs, v = .ref a ∧ Z a = some (.dK kvs) ∧ ks = kvs.map (fun p => keyD p.1) ∧ RepL Z ds (kvs.map (·.2))
  | .set _, _ => False
  | .rep d, v => v = .str d.py.shown
  | .fn i, v => v = .ref (fa i)
  | .scr is, v => ∃ a, v = .ref a ∧ SqL K (fun b => match Z b with | some (.lst _) => none | o => o) a (is.map V.int)
def RepL (Z : Hp) : List D → List V → Prop
  | [], vs => vs = []
  | d :: ds, vs => ∃ v r, vs = v :: r ∧ Rep Z d v ∧ RepL Z ds r
end
end

def Sub (Z Z' : Hp) : Prop := ∀ a o, Z a = some o → Z' a = some o
theorem Sub.refl (Z : Hp) : Sub Z Z := fun _ _ h => h
theorem Sub.trans {A B C : Hp} (h : Sub A B) (k : Sub B C) : Sub A C := fun a o e => k a o (h a o e)
theorem Sub.none {A B : Hp} (h : Sub A B) {a : Addr} (e : B a = none) : A a = none := by
  cases q : A a with
  | none => rfl
  | some o => rw [h a o q] at e; cases e
theorem sub_upd {H : Hp} {p : Addr} {o : HO} (n : H p = none) : Sub H (upd H p o) := fun a u e => by
  rw [upd_ne (ne_of_none e n)]; exact e

section
variable {fa : Nat → Addr} {K : PySem.W.Frag} {Z Z' H H' : Hp}
theorem Rd.sub {u : HO} {a : Addr} (h : Rd Z a u) (s : Sub Z Z') : Rd Z' a u := by
  rcases h with h | ⟨o, h⟩
  · exact .inl (s _ _ h)
  · exact .inr ⟨o, s _ _ h⟩
theorem SqL.sub {a : Addr} {xs : List V} (h : SqL K Z a xs) (s : Sub Z Z') : SqL K Z' a xs := h.imp (fun h => Rd.sub h s) id
theorem SqT.sub {a : Addr} {xs : List V} (h : SqT K Z a xs) (s : Sub Z Z') : SqT K Z' a xs := h.imp (fun h => Rd.sub h s) id
mutual
theorem Rep.sub (s : Sub Z Z') : ∀ (d : D) (v : V), Rep fa K Z d v → Rep fa K Z' d v
  | .non, _, h => h
  | .bl _, _, h => h
  | .int _, _, h => h
  | .str _, _, h => h
  | .lst ds, v, h => by
    simp only [Rep] at h ⊢
    obtain ⟨a, vs, e, h1, h2⟩ := h
    exact ⟨a, vs, e, s _ _ h1, RepL.sub s ds vs h2⟩
  | .tup ds, v, h => by
    simp only [Rep] at h ⊢
    obtain ⟨a, vs, e, h1, h2⟩ := h
    exact ⟨a, vs, e, SqT.sub h1 s, RepL.sub s ds vs h2⟩
  | .dct ks ds, v, h => by
    simp only [Rep] at h ⊢
    obtain ⟨a, kvs, e, h1, h2, h3⟩ := h
    exact ⟨a, kvs, e, s _ _ h1, h2, RepL.sub s ds _ h3⟩
  | .set _, _, h => h
  | .rep _, _, h => h
  | .fn _, _, h => h
  | .scr is, v, h => by
    simp only [Rep] at h ⊢
    obtain ⟨a, e, h1⟩ := h
    refine ⟨a, e, SqL.sub h1 fun b o q => ?_⟩
    have z : Z b = some o := by
      revert q
      split
      · intro q; cases q
      · exact id
    rw [s b o z]
    revert q
    rw [z]
    exact id
theorem RepL.sub (s : Sub Z Z') : ∀ (ds : List D) (vs : List V), RepL fa K Z ds vs → RepL fa K Z' ds vs
  | [], _, h => h
  | d :: ds, vs, h => by
    simp only [RepL] at h ⊢
    obtain ⟨v, r, e, h1, h2⟩ := h
    exact ⟨v, r, e, Rep.sub s d v h1, RepL.sub s ds r h2⟩
end
theorem RepL.length : ∀ {ds : List D} {vs : List V}, RepL fa K Z ds vs → ds.length = vs.length
  | [], _, h => by simp only [RepL] at h; subst h; rfl
  | d :: ds, vs, h => by
    simp only [RepL] at h
    obtain ⟨v, r, rfl, _, h2⟩ := h
    simp [RepL.length h2]
theorem RepL.append : ∀ {ds es : List D} {vs us : List V}, RepL fa K Z ds vs → RepL fa K Z es us → RepL fa K Z (ds ++ es) (vs ++ us)
  | [], _, _, _, h, k => by simp only [RepL] at h; subst h; exact k
  | d :: ds, es, vs, us, h, k => by
    simp only [RepL] at h
    obtain ⟨v, r, rfl, h1, h2⟩ := h
    simp only [List.cons_append, RepL]
    exact ⟨v, r ++ us, rfl, h1, RepL.append h2 k⟩
theorem RepL.get : ∀ {ds : List D} {vs : List V} {i : Nat} {d : D}, RepL fa K Z ds vs → ds[i]? = some d → ∃ v, vs[i]? = some v ∧ Rep fa K Z d v
  | [], _, _, _, _, e => by simp at e
  | d :: ds, vs, 0, d', h, e => by
    simp only [RepL] at h
    obtain ⟨v, r, rfl, h1, h2⟩ := h
    simp only [List.getElem?_cons_zero, Option.some.injEq] at e
    subst e
    exact ⟨v, rfl, h1⟩
  | d :: ds, vs, i + 1, d', h, e => by
    simp only [RepL] at h
    obtain ⟨v, r, rfl, h1, h2⟩ := h
    simp only [List.getElem?_cons_succ] at e
    obtain ⟨u, q1, q2⟩ := RepL.get h2 e
    exact ⟨u, by simpa using q1, q2⟩
theorem RepL.get' : ∀ {ds : List D} {vs : List V} {i : Nat} {v : V}, RepL fa K Z ds vs → vs[i]? = some v → ∃ d, ds[i]? = some d ∧ Rep fa K Z d v := fun {ds vs i v} h e => by
  have l := RepL.length h
  have hi : i < vs.length := (List.getElem?_eq_some_iff.mp e).1
  have hd : ds[i]? = some ds[i] := List.getElem?_eq_getElem (by omega)
  obtain ⟨u, q1, q2⟩ := RepL.get h hd
  rw [e] at q1; cases q1
  exact ⟨_, hd, q2⟩
theorem RepL.take : ∀ {ds : List D} {vs : List V} (n : Nat), RepL fa K Z ds vs → RepL fa K Z (ds.take n) (vs.take n)
  | _, _, 0, _ => by simp [RepL]
  | [], _, _ + 1, h => by simp only [RepL] at h; subst h; simp [RepL]
  | d :: ds, vs, n + 1, h => by
    simp only [RepL] at h
    obtain ⟨v, r, rfl, h1, h2⟩ := h
    simp only [List.take_succ_cons, RepL]
    exact ⟨v, _, rfl, h1, RepL.take n h2⟩
theorem RepL.drop : ∀ {ds : List D} {vs : List V} (n : Nat), RepL fa K Z ds vs → RepL fa K Z (ds.drop n) (vs.drop n)
  | _, _, 0, h => by simpa using h
  | [], _, _ + 1, h => by simp only [RepL] at h; subst h; simp [RepL]
  | d :: ds, vs, n + 1, h => by
    simp only [RepL] at h
    obtain ⟨v, r, rfl, h1, h2⟩ := h
    simpa using RepL.drop n h2
theorem RepL.set : ∀ {ds : List D} {vs : List V} {d : D} {v : V} (n : Nat), RepL fa K Z ds vs → Rep fa K Z d v → RepL fa K Z (ds.set n d) (vs.set n v)
  | [], _, _, _, n, h, _ => by simp only [RepL] at h; subst h; simp [RepL]
  | d :: ds, vs, d', v', 0, h, k => by
    simp only [RepL] at h
    obtain ⟨v, r, rfl, h1, h2⟩ := h
    simp only [List.set_cons_zero, RepL]
    exact ⟨v', r, rfl, k, h2⟩
  | d :: ds, vs, d', v', n + 1, h, k => by
    simp only [RepL] at h
    obtain ⟨v, r, rfl, h1, h2⟩ := h
    simp only [List.set_cons_succ, RepL]
    exact ⟨v, _, rfl, h1, RepL.set n h2 k⟩
theorem RepL.one {d : D} {v : V} (h : Rep fa K Z d v) : RepL fa K Z [d] [v] := by
  simp only [RepL]; exact ⟨v, [], rfl, h, rfl⟩
theorem RepL.nil_ : RepL fa K Z [] [] := by simp [RepL]
theorem RepL.cons_ {d : D} {v : V} {ds : List D} {vs : List V} (h : Rep fa K Z d v) (t : RepL fa K Z ds vs) : RepL fa K Z (d :: ds) (v :: vs) := by
  simp only [RepL]; exact ⟨v, vs, rfl, h, t⟩
theorem RepL.rep : ∀ {ds : List D} {vs : List V} (n : Nat), RepL fa K Z ds vs → RepL fa K Z (List.replicate n ds).flatten (List.replicate n vs).flatten
  | _, _, 0, _ => by simp [RepL]
  | ds, vs, n + 1, h => by
    simp only [List.replicate_succ, List.flatten_cons]
    exact RepL.append h (RepL.rep n h)
theorem RepL.of_ints : ∀ (is : List Int), RepL fa K Z (is.map .int) (is.map V.int)
  | [] => by simp [RepL]
  | i :: is => by simp only [List.map_cons, RepL]; exact ⟨_, _, rfl, by simp [Rep], RepL.of_ints is⟩
theorem RepL.asInts : ∀ {ds : List D} {vs : List V} {is : List Int}, RepL fa K Z ds vs → asInts ds = some is → ds = is.map .int ∧ vs = is.map V.int
  | [], vs, is, h, e => by
    simp only [RepL] at h; simp only [Rt.asInts, Option.some.injEq] at e; subst h e; exact ⟨rfl, rfl⟩
  | d :: ds, vs, is, h, e => by
    simp only [RepL] at h
    obtain ⟨v, r, rfl, h1, h2⟩ := h
    cases d <;> simp only [Rt.asInts, Option.map_eq_some_iff, reduceCtorEq] at e
    obtain ⟨js, e1, rfl⟩ := e
    obtain ⟨q1, q2⟩ := RepL.asInts h2 e1
    simp only [Rep] at h1
    rw [q1, q2, h1]
    exact ⟨rfl, rfl⟩
theorem RepL.asBools : ∀ {ds : List D} {vs : List V} {is : List Bool}, RepL fa K Z ds vs → asBools ds = some is → ds = is.map .bl ∧ vs = is.map V.bl
  | [], vs, is, h, e => by
    simp only [RepL] at h; simp only [Rt.asBools, Option.some.injEq] at e; subst h e; exact ⟨rfl, rfl⟩
  | d :: ds, vs, is, h, e => by
    simp only [RepL] at h
    obtain ⟨v, r, rfl, h1, h2⟩ := h
    cases d <;> simp only [Rt.asBools, Option.map_eq_some_iff, reduceCtorEq] at e
    obtain ⟨js, e1, rfl⟩ := e
    obtain ⟨q1, q2⟩ := RepL.asBools h2 e1
    simp only [Rep] at h1
    rw [q1, q2, h1]
    exact ⟨rfl, rfl⟩

/-- plain trees are the layer's data -/
theorem plain_cons {p : PyData} {ps : List PyData} : PyData.plainAll (p :: ps) = (p.plain && PyData.plainAll ps) := by simp [PyData.plainAll]
mutual
theorem Rep.dp : ∀ (d : D) (v : V), Rep fa K H d v → d.py.plain = true → Dp K H v d.py
  | .non, v, h, _ => by simp only [Rep] at h; subst h; exact .non
  | .bl b, v, h, _ => by simp only [Rep] at h; subst h; exact .bl b
  | .int b, v, h, _ => by simp only [Rep] at h; subst h; exact .int b
  | .str b, v, h, _ => by simp only [Rep] at h; subst h; exact .str b
  | .lst ds, v, h, p => by
    simp only [Rep] at h
    obtain ⟨a, vs, rfl, h1, h2⟩ := h
    simp only [D.py] at p ⊢
    exact .lst (SqL.of h1) (RepL.dp ds vs h2 (by simpa [PyData.plain] using p))
  | .tup ds, v, h, p => by
    simp only [Rep] at h
    obtain ⟨a, vs, rfl, h1, h2⟩ := h
    simp only [D.py] at p ⊢
    exact .tup h1 (RepL.dp ds vs h2 (by simpa [PyData.plain] using p))
  | .dct _ _, v, h, p => by simp [D.py, PyData.plain] at p
  | .set _, v, h, p => by simp [D.py, PyData.plain] at p
  | .rep _, v, h, p => by simp [D.py, PyData.plain] at p
  | .fn _, v, h, p => by simp [D.py, PyData.plain] at p
  | .scr _, v, h, p => by simp [D.py, PyData.plain] at p
theorem RepL.dp : ∀ (ds : List D) (vs : List V), RepL fa K H ds vs → PyData.plainAll (D.pyL ds) = true → DpAll K H vs (D.pyL ds)
  | [], vs, h, _ => by simp only [RepL] at h; subst h; exact .nil
  | d :: ds, vs, h, p => by
    simp only [RepL] at h
    obtain ⟨v, r, rfl, h1, h2⟩ := h
    simp only [D.pyL, plain_cons, Bool.and_eq_true] at p ⊢
    exact .cons (Rep.dp d v h1 p.1) (RepL.dp ds r h2 p.2)
end
end
end Rt
end
section
set_option linter.all false
set_option autoImplicit false
set_option Elab.async false
set_option maxRecDepth 100000
set_option maxHeartbeats 2000000
namespace Rt
open PySem L2

/-! ## What is hidden: the objects that may change -/
open Classical in
noncomputable def hide (H : Hp) (N : Addr → Prop) : Hp := fun b => if N b then none else H b
theorem hide_sub {H : Hp} {N : Addr → Prop} : Sub (hide H N) H := fun a o e => by
  unfold hide at e; split at e
  · cases e
  · exact e
theorem hide_mono {H H' : Hp} {N N' : Addr → Prop} (s : Sub H H') (h : ∀ b o, H b = some o → N' b → N b) : Sub (hide H N) (hide H' N') := fun a o e => by
  unfold hide at e ⊢; split at e
  · cases e
  · rename_i n
    rw [if_neg fun z => n (h a o e z)]
    exact s a o e
theorem hide_at {H : Hp} {N : Addr → Prop} {a : Addr} (n : ¬ N a) : hide H N a = H a := by unfold hide; rw [if_neg n]
theorem hide_in {H : Hp} {N : Addr → Prop} {a : Addr} (n : N a) : hide H N a = none := by unfold hide; rw [if_pos n]
/-- an object that may change -/
def Mb : HO → Prop
  | .lst _ => True
  | .dK _ => True
  | _ => False

section
variable (fa : Nat → Addr) (K : PySem.W.Frag)
/-- the object at a is the tree's top, its items are read in Z -/
def Top (Z H : Hp) (a : Addr) : D → Prop
  | .lst ds => ∃ vs, H a = some (.lst vs) ∧ RepL fa K Z ds vs
  | .dct ks ds => ∃ kvs, H a = some (.dK kvs) ∧ ks = kvs.map (fun p => keyD p.1) ∧ RepL fa K Z ds (kvs.map (·.2))
  | _ => False
/-- the slots and the heap, as the environment tells -/
structure SR (N : Addr → Prop) (H : Hp) (σ : St) (E : Env) : Prop where
  len : σ.length = E.length
  sub : ∀ b, N b → ∃ o, H b = some o ∧ Mb o
  fz : ∀ (i : Nat) (d : D), E[i]? = some (some (d, false)) → ∃ v, σ[i]? = some (some v) ∧ Rep fa K (hide H N) d v
  ow : ∀ (i : Nat) (d : D), E[i]? = some (some (d, true)) → ∃ a, σ[i]? = some (some (.ref a)) ∧ N a ∧ Top fa K (hide H N) H a d
  inj : ∀ (i j : Nat) (d e : D) (a : Addr), E[i]? = some (some (d, true)) → E[j]? = some (some (e, true)) → σ[i]? = some (some (.ref a)) → σ[j]? = some (some (.ref a)) → i = j
/-- hidden, but for what stands in the slots p -/
def del (N : Addr → Prop) (σ : St) (p : List Nat) : Addr → Prop := fun b => N b ∧ ¬ ∃ i ∈ p, σ[i]? = some (some (.ref b))
/-- a value that an expression gave -/
def RR (N : Addr → Prop) (H H' : Hp) (σ : St) (E : Env) (v : V) (r : Rv) : Prop :=
  match r.t with
  | .fz => Rep fa K (hide H' (del N σ r.p)) r.d v
  | .nw => ∃ a, v = .ref a ∧ H a = none ∧ Top fa K (hide H' fun b => del N σ r.p b ∨ b = a) H' a r.d
  | .sl i => E[i]? = some (some (r.d, true)) ∧ σ[i]? = some (some v)
/-- its top is read in H, its items in Z -/
def Kid (Z H : Hp) (v : V) : D → Prop
  | .lst ds => ∃ a vs, v = .ref a ∧ H a = some (.lst vs) ∧ RepL fa K Z ds vs
  | .dct ks ds => ∃ a kvs, v = .ref a ∧ H a = some (.dK kvs) ∧ ks = kvs.map (fun p => keyD p.1) ∧ RepL fa K Z ds (kvs.map (·.2))
  | d => Rep fa K Z d v
end

section
variable {fa : Nat → Addr} {K : PySem.W.Frag} {N N' : Addr → Prop} {Z Z' H H' H2 : Hp} {σ : St} {E : Env} {v : V} {r : Rv} {d : D} {p q : List Nat}
theorem del_sub {b : Addr} (h : del N σ p b) : N b := h.1
theorem del_nil {b : Addr} : del N σ [] b ↔ N b := by simp [del]
theorem del_anti (h : ∀ i ∈ p, i ∈ q) {b : Addr} (k : del N σ q b) : del N σ p b := ⟨k.1, fun ⟨i, hi, e⟩ => k.2 ⟨i, h i hi, e⟩⟩
theorem Rep.kid (s : Sub Z H) (h : Rep fa K Z d v) : Kid fa K Z H v d := by
  cases d with
  | lst ds => simp only [Rep] at h; obtain ⟨a, vs, e, h1, h2⟩ := h; exact ⟨a, vs, e, s _ _ h1, h2⟩
  | dct ks ds => simp only [Rep] at h; obtain ⟨a, vs, e, h1, h2, h3⟩ := h; exact ⟨a, vs, e, s _ _ h1, h2, h3⟩
  | _ => exact h
theorem Top.kid {a : Addr} (h : Top fa K Z H a d) : Kid fa K Z H (.ref a) d := by
  cases d with
  | lst ds => obtain ⟨vs, h1, h2⟩ := h; exact ⟨a, vs, rfl, h1, h2⟩
  | dct ks ds => obtain ⟨vs, h1, h2, h3⟩ := h; exact ⟨a, vs, rfl, h1, h2, h3⟩
  | _ => exact h.elim
theorem Kid.sub (s : Sub Z Z') (t : Sub H H') (h : Kid fa K Z H v d) : Kid fa K Z' H' v d := by
  cases d with
  | lst ds => obtain ⟨a, vs, e, h1, h2⟩ := h; exact ⟨a, vs, e, t _ _ h1, RepL.sub s _ _ h2⟩
  | dct ks ds => obtain ⟨a, vs, e, h1, h2, h3⟩ := h; exact ⟨a, vs, e, t _ _ h1, h2, RepL.sub s _ _ h3⟩
  | _ => exact Rep.sub s _ _ h
theorem Kid.rep (s : Sub Z H) (h : Kid fa K Z H v d) : Rep fa K H d v := by
  cases d with
  | lst ds => obtain ⟨a, vs, e, h1, h2⟩ := h; simp only [Rep]; exact ⟨a, vs, e, h1, RepL.sub s _ _ h2⟩
  | dct ks ds => obtain ⟨a, vs, e, h1, h2, h3⟩ := h; simp only [Rep]; exact ⟨a, vs, e, h1, h2, RepL.sub s _ _ h3⟩
  | _ => exact Rep.sub s _ _ h
theorem Top.sub {a : Addr} (s : Sub Z Z') (t : Sub H H') (h : Top fa K Z H a d) : Top fa K Z' H' a d := by
  cases d with
  | lst ds => obtain ⟨vs, h1, h2⟩ := h; exact ⟨vs, t _ _ h1, RepL.sub s _ _ h2⟩
  | dct ks ds => obtain ⟨vs, h1, h2, h3⟩ := h; exact ⟨vs, t _ _ h1, h2, RepL.sub s _ _ h3⟩
  | _ => exact h.elim
theorem Top.mb {a : Addr} (h : Top fa K Z H a d) : ∃ o, H a = some o ∧ Mb o := by
  cases d with
  | lst ds => obtain ⟨vs, h1, h2⟩ := h; exact ⟨_, h1, trivial⟩
  | dct ks ds => obtain ⟨vs, h1, h2, h3⟩ := h; exact ⟨_, h1, trivial⟩
  | _ => exact h.elim

/-- the state under a heap that grew -/
theorem SR.grow (h : SR fa K N H σ E) (g : Sub H H') : SR fa K N H' σ E where
  len := h.len
  sub := fun b n => by obtain ⟨o, e, m⟩ := h.sub b n; exact ⟨o, g _ _ e, m⟩
  fz := fun i d e => by
    obtain ⟨v, q1, q2⟩ := h.fz i d e
    exact ⟨v, q1, Rep.sub (hide_mono g fun _ _ _ n => n) _ _ q2⟩
  ow := fun i d e => by
    obtain ⟨a, q1, q2, q3⟩ := h.ow i d e
    exact ⟨a, q1, q2, q3.sub (hide_mono g fun _ _ _ n => n) g⟩
  inj := h.inj
theorem RR.grow (h : RR fa K N H H' σ E v r) (g : Sub H' H2) : RR fa K N H H2 σ E v r := by
  unfold RR at h ⊢
  split <;> rename_i e <;> rw [e] at h <;> dsimp only at h ⊢
  · exact Rep.sub (hide_mono g fun _ _ _ n => n) _ _ h
  · obtain ⟨a, e1, e2, e3⟩ := h
    exact ⟨a, e1, e2, e3.sub (hide_mono g fun _ _ _ n => n) g⟩
  · exact h
/-- seen from an earlier heap -/
theorem RR.from (g : Sub H H') (h : RR fa K N H' H2 σ E v r) : RR fa K N H H2 σ E v r := by
  unfold RR at h ⊢
  split <;> rename_i e <;> rw [e] at h <;> dsimp only at h ⊢
  · exact h
  · obtain ⟨a, e1, e2, e3⟩ := h
    exact ⟨a, e1, g.none e2, e3⟩
  · exact h
/-- its items stand in what its dependences open -/
theorem RR.kid (h : RR fa K N H H' σ E v r) (s : SR fa K N H σ E) (g : Sub H H') : Kid fa K (hide H' (del N σ r.kc)) H' v r.d := by
  unfold RR at h
  unfold Rv.kc
  split at h <;> rename_i e <;> rw [e] <;> dsimp only at h ⊢
  · exact Rep.kid hide_sub h
  · obtain ⟨a, e1, e2, e3⟩ := h
    subst e1
    exact e3.kid.sub (hide_mono (Sub.refl _) fun b o _ n => .inl n) (Sub.refl _)
  · obtain ⟨h1, h2⟩ := h
    obtain ⟨a, q1, q2, q3⟩ := s.ow _ _ h1
    rw [h2] at q1; cases q1
    exact q3.kid.sub (hide_mono g fun b o _ n => n.1) g
/-- it stands in what its dependences open -/
theorem RR.all (h : RR fa K N H H' σ E v r) (s : SR fa K N H σ E) (g : Sub H H') : Rep fa K (hide H' (del N σ r.kp)) r.d v := by
  unfold RR at h
  unfold Rv.kp
  split at h <;> rename_i e <;> rw [e] <;> dsimp only at h ⊢
  · exact h
  · obtain ⟨a, e1, e2, e3⟩ := h
    subst e1
    have na : ¬ del N σ r.p a := fun n => by
      obtain ⟨o, e, _⟩ := s.sub a n.1
      rw [e2] at e; cases e
    obtain ⟨o, q1, q2⟩ := e3.mb
    have k := (e3.kid.sub (hide_mono (Sub.refl H') (N' := del N σ r.p) fun b o _ n => .inl n) (Sub.refl _))
    have sub : ∀ {d : D}, Kid fa K (hide H' (del N σ r.p)) H' (.ref a) d → Rep fa K (hide H' (del N σ r.p)) d (.ref a) := fun {d} k => by
      have at_ : hide H' (del N σ r.p) a = H' a := hide_at na
      cases d with
      | lst ds =>
        obtain ⟨b, vs, e, h1, h2⟩ := k
        cases e
        simp only [Rep]
        exact ⟨a, vs, rfl, at_.trans h1, h2⟩
      | dct ks ds =>
        obtain ⟨b, vs, e, h1, h2, h3⟩ := k
        cases e
        simp only [Rep]
        exact ⟨a, vs, rfl, at_.trans h1, h2, h3⟩
      | _ => exact k
    exact sub k
  · rename_i _ i0
    obtain ⟨h1, h2⟩ := h
    obtain ⟨a, q1, q2, q3⟩ := s.ow _ _ h1
    rw [h2] at q1; cases q1
    have na : ¬ del N σ [i0] a := fun n => n.2 ⟨i0, List.mem_singleton.mpr rfl, h2⟩
    have k := q3.sub (Z' := hide H' (del N σ [i0])) (hide_mono g fun b o _ n => n.1) g
    have at_ : hide H' (del N σ [i0]) a = H' a := hide_at na
    revert k
    generalize r.d = d
    intro k
    cases d with
    | lst ds =>
      obtain ⟨vs, h1, h2⟩ := k
      simp only [Rep]
      exact ⟨a, vs, rfl, at_.trans h1, h2⟩
    | dct ks ds =>
      obtain ⟨vs, h1, h2, h3⟩ := k
      simp only [Rep]
      exact ⟨a, vs, rfl, at_.trans h1, h2, h3⟩
    | _ => exact k.elim

/-! ### what cannot change needs no slot -/
theorem sqT_unhide {a : Addr} {xs : List V} (h : SqT K (hide H N) a xs) (m : ∀ b, N' b → ∃ o, H b = some o ∧ Mb o) : SqT K (hide H N') a xs := by
  rcases h with h | h
  · refine .inl ?_
    have key : ∀ o, hide H N a = some o → ¬ Mb o → hide H N' a = some o := fun o e nm => by
      have e' := hide_sub _ _ e
      rw [hide_at fun n => ?_]
      · exact e'
      · obtain ⟨u, q1, q2⟩ := m a n
        rw [e'] at q1; cases q1
        exact nm q2
    rcases h with h | ⟨o, h⟩
    · exact .inl (key _ h fun z => z)
    · exact .inr ⟨o, key _ h fun z => z⟩
  · exact .inr h
theorem sqL_unhide {a : Addr} {xs : List V} (h : SqL K (fun b => match hide H N b with | some (.lst _) => none | o => o) a xs) (m : ∀ b, N' b → ∃ o, H b = some o ∧ Mb o) :
    SqL K (fun b => match hide H N' b with | some (.lst _) => none | o => o) a xs := by
  rcases h with h | h
  · refine .inl ?_
    rcases h with h | ⟨o, h⟩
    · exfalso
      revert h
      dsimp only
      split
      · intro q; cases q
      · rename_i z
        intro q
        exact z _ q
    · refine .inr ⟨o, ?_⟩
      have e : hide H N a = some (.frz o (.lst xs)) := by
        revert h
        dsimp only
        split
        · intro q; cases q
        · exact id
      have e' := hide_sub _ _ e
      have e2 : hide H N' a = some (.frz o (.lst xs)) := by
        rw [hide_at fun n => ?_]
        · exact e'
        · obtain ⟨u, q1, q2⟩ := m a n
          rw [e'] at q1; cases q1
          exact q2
      simp only [e2]
  · exact .inr h
mutual
theorem Rep.unhide (m : ∀ b, N' b → ∃ o, H b = some o ∧ Mb o) : ∀ (d : D) (v : V), d.imm = true → Rep fa K (hide H N) d v → Rep fa K (hide H N') d v
  | .non, _, _, h => h
  | .bl _, _, _, h => h
  | .int _, _, _, h => h
  | .str _, _, _, h => h
  | .lst ds, v, i, h => by simp [D.imm] at i
  | .tup ds, v, i, h => by
    simp only [Rep] at h ⊢
    obtain ⟨a, vs, e, h1, h2⟩ := h
    exact ⟨a, vs, e, sqT_unhide h1 m, RepL.unhide m ds vs (by simpa [D.imm] using i) h2⟩
  | .dct _ _, v, i, h => by simp [D.imm] at i
  | .set _, v, i, h => by simp [D.imm] at i
  | .rep _, _, _, h => h
  | .fn _, _, _, h => h
  | .scr is, v, _, h => by
    simp only [Rep] at h ⊢
    obtain ⟨a, e, h1⟩ := h
    exact ⟨a, e, sqL_unhide h1 m⟩
theorem RepL.unhide (m : ∀ b, N' b → ∃ o, H b = some o ∧ Mb o) : ∀ (ds : List D) (vs : List V), D.immL ds = true → RepL fa K (hide H N) ds vs → RepL fa K (hide H N') ds vs
  | [], _, _, h => h
  | d :: ds, vs, i, h => by
    simp only [RepL] at h ⊢
    obtain ⟨v, r, e, h1, h2⟩ := h
    simp only [D.immL, Bool.and_eq_true] at i
    exact ⟨v, r, e, Rep.unhide m d v i.1 h1, RepL.unhide m ds r i.2 h2⟩
end
theorem Top.unhide {a : Addr} (m : ∀ b, N' b → ∃ o, H b = some o ∧ Mb o) (i : d.kids = true) (h : Top fa K (hide H N) H a d) : Top fa K (hide H N') H a d := by
  cases d with
  | lst ds => obtain ⟨vs, h1, h2⟩ := h; exact ⟨vs, h1, RepL.unhide m _ _ i h2⟩
  | dct ks ds => obtain ⟨vs, h1, h2, h3⟩ := h; exact ⟨vs, h1, h2, RepL.unhide m _ _ i h3⟩
  | _ => exact h.elim

theorem rr_mkF (s : SR fa K N H σ E) (g : Sub H H') (h : Rep fa K (hide H' (del N σ p)) d v) : RR fa K N H H' σ E v (mkF d p) := by
  show Rep fa K (hide H' (del N σ (mkF d p).p)) d v
  unfold mkF
  cases p with
  | nil => exact h
  | cons i p =>
    by_cases im : d.imm = true
    · simp only [im, if_true]
      exact Rep.unhide (fun b n => by obtain ⟨o, e, q⟩ := s.sub b n.1; exact ⟨o, g _ _ e, q⟩) _ _ im h
    · simp only [im]
      exact h
theorem rr_mkN {a : Addr} (s : SR fa K N H σ E) (g : Sub H H') (n : H a = none) (h : Top fa K (hide H' fun b => del N σ p b ∨ b = a) H' a d) : RR fa K N H H' σ E (.ref a) (mkN d p) := by
  show ∃ b, V.ref a = .ref b ∧ H b = none ∧ Top fa K (hide H' fun c => del N σ (mkN d p).p c ∨ c = b) H' b d
  refine ⟨a, rfl, n, ?_⟩
  unfold mkN
  cases p with
  | nil => exact h
  | cons i p =>
    by_cases im : d.kids = true
    · simp only [im, if_true]
      refine Top.unhide (fun b n => ?_) im h
      rcases n with n | n
      · obtain ⟨o, e, q⟩ := s.sub b n.1
        exact ⟨o, g _ _ e, q⟩
      · subst n; exact h.mb
    · simp only [im]
      exact h
/-- what an operation gives: H2 the heap behind it; Z: where the items of its arguments stand -/
def NewR (fa : Nat → Addr) (K : PySem.W.Frag) (Z H H2 : Hp) (fr : Bool) (d : D) (v : V) : Prop :=
  Sub H H2 ∧ match fr with
  | false => Rep fa K (fun b => match H b with | none => H2 b | some _ => Z b) d v
  | true => ∃ a, v = .ref a ∧ H a = none ∧ Top fa K (fun b => if b = a then none else match H b with | none => H2 b | some _ => Z b) H2 a d
theorem NewR.rr {fr : Bool} {H1 : Hp} (s : SR fa K N H σ E) (g : Sub H H1) (h : NewR fa K (hide H1 (del N σ p)) H1 H2 fr d v) : RR fa K N H H2 σ E v (mk fr d p) := by
  obtain ⟨g2, h⟩ := h
  have g3 : Sub H H2 := g.trans g2
  have z : ∀ b, H1 b = none → ¬ del N σ p b := fun b e n => by
    obtain ⟨o, q, _⟩ := s.sub b n.1
    rw [g _ _ q] at e; cases e
  have zs : Sub (fun b => match H1 b with | none => H2 b | some _ => hide H1 (del N σ p) b) (hide H2 (del N σ p)) := fun b o e => by
    cases q : H1 b with
    | none =>
      simp only [q] at e
      rw [hide_at (z b q)]; exact e
    | some u =>
      simp only [q] at e
      exact hide_mono g2 (fun _ _ _ n => n) b o e
  cases fr with
  | false => exact rr_mkF s g3 (Rep.sub zs _ _ h)
  | true =>
    obtain ⟨a, rfl, n, t⟩ := h
    refine rr_mkN s g3 (g.none n) (t.sub (fun b o e => ?_) (Sub.refl _))
    by_cases q : b = a
    · simp only [q, if_true] at e; cases e
    · simp only [if_neg q] at e
      have e' := zs b o e
      unfold hide at e' ⊢
      split at e'
      · cases e'
      · rename_i nd
        rw [if_neg fun z => z.elim nd q]
        exact e'
/-- a new list over what stood -/
theorem NewR.list {a : Addr} {ds : List D} {vs : List V} (n : H a = none) (sz : Sub Z H) (h : RepL fa K Z ds vs) : NewR fa K Z H (upd H a (.lst vs)) true (.lst ds) (.ref a) := by
  refine ⟨sub_upd n, a, rfl, n, vs, upd_same, RepL.sub (fun b o e => ?_) _ _ h⟩
  have q := sz b o e
  have ne : b ≠ a := ne_of_none q n
  simp only [if_neg ne, q]
  exact e
theorem NewR.tuple {a : Addr} {ds : List D} {vs : List V} (n : H a = none) (sz : Sub Z H) (h : RepL fa K Z ds vs) : NewR fa K Z H (upd H a (.tup vs)) false (.tup ds) (.ref a) := by
  refine ⟨sub_upd n, ?_⟩
  show Rep fa K _ (.tup ds) (.ref a)
  simp only [Rep]
  refine ⟨a, vs, rfl, SqT.of ?_, RepL.sub (fun b o e => ?_) _ _ h⟩
  · simp only [n, upd_same]
  · simp only [sz b o e]
    exact e
theorem NewR.flat (h : ∀ Z, Rep fa K Z d v) : NewR fa K Z H H false d v := ⟨Sub.refl _, h _⟩
theorem NewR.old (h : Rep fa K Z d v) (sz : Sub Z H) : NewR fa K Z H H false d v := ⟨Sub.refl _, Rep.sub (fun b o e => by simp only [sz b o e]; exact e) _ _ h⟩
end
end Rt
end
section
set_option linter.all false
set_option autoImplicit false
set_option Elab.async false
set_option maxRecDepth 100000
set_option maxHeartbeats 2000000
namespace Rt
open PySem PySem.Spec PyProof.Rows L2

/-! ## Semantic readings -/
def tE (X : Cx) (e : Expr) : TE := fun σ H Q => ∀ (pins : List (Addr × Obj)) (s : Shared), Inv X pins σ H s → wpAny (model X.prog X.w) X.A (eval e X.env) (EP X pins σ Q) X.xe s
def tT (X : Cx) (e : Expr) : TT := fun σ H Q => ∀ (pins : List (Addr × Obj)) (s : Shared), Inv X pins σ H s → wpAny (model X.prog X.w) X.A (isTrue e X.env (eval e X.env)) (TP X pins σ Q) X.xe s
def tA (X : Cx) (es : List Expr) : TA := fun σ H Q => ∀ (pos : Pos) (pins : List (Addr × Obj)) (s : Shared), Inv X pins σ H s → wpAny (model X.prog X.w) X.A (spliced (backTo pos (starEach es X.env))) (AP X pins σ Q) X.xe s
theorem peE {X : Cx} {e : Expr} : PE X e (tE X e) := ⟨fun pins s σ H Q I h => h pins s I⟩
theorem ptT {X : Cx} {e : Expr} : PT X e (tT X e) := ⟨fun pins s σ H Q I h => h pins s I⟩
theorem paA {X : Cx} {es : List Expr} : PA X es (tA X es) := ⟨fun pos pins s σ H Q I h => h pos pins s I⟩
theorem of_pe {X : Cx} {e : Expr} {t : TE} (h : PE X e t) {σ : L2.St} {H : Hp} {Q : VK} (k : t σ H Q) : tE X e σ H Q := fun pins s I => h.run pins s σ H Q I k
theorem of_pt {X : Cx} {e : Expr} {t : TT} (h : PT X e t) {σ : L2.St} {H : Hp} {Q : Bool → Hp → Prop} (k : t σ H Q) : tT X e σ H Q := fun pins s I => h.run pins s σ H Q I k
theorem of_pa {X : Cx} {es : List Expr} {t : TA} (h : PA X es t) {σ : L2.St} {H : Hp} {Q : List V → Hp → Prop} (k : t σ H Q) : tA X es σ H Q := fun pos pins s I => h.run pos pins s σ H Q I k

/-- an exception that was made: its own dict -/
def ExD (H H' : Hp) (dd : Addr) (a : D) : Prop := ∃ i : Int, a = .int i ∧ H dd = none ∧ H' dd = some (.xd [(("at" : Str), .int i)])
theorem ExD.from {H0 H H' : Hp} {dd : Addr} {a : D} (g : Sub H0 H) (h : ExD H H' dd a) : ExD H0 H' dd a := by
  obtain ⟨i, e, n, k⟩ := h
  exact ⟨i, e, g.none n, k⟩
/-- the end that is asked -/
def Post (ca : Nat → Addr) (W : WX) (H : Hp) (σ : L2.St) {β : Type} (P : β → Prop) : R β → Prop
  | .ok b => P b
  | .ex c a => ∀ dd H', Sub H H' → ExD H H' dd a → W (.ref (ca c)) (some dd) σ H'
  | .bad => False
theorem Post.imp {ca : Nat → Addr} {W : WX} {H : Hp} {σ : L2.St} {β : Type} {P P' : β → Prop} {r : R β} (h : Post ca W H σ P r) (k : ∀ b, r = .ok b → P b → P' b) : Post ca W H σ P' r := by
  cases r with
  | ok b => exact k b rfl h
  | ex c a => exact h
  | bad => exact h
section
variable (fa ca : Nat → Addr) (X : Cx)
def Snd (e : Expr) (f : Ex) : Prop := ∀ (W : WX), Takes X W → ∀ (N : Addr → Prop) (H : Hp) (σ : L2.St) (E : Env) (Q : VK), SR fa X.K N H σ E →
  Post ca W H σ (fun r => ∀ v H', Sub H H' → RR fa X.K N H H' σ E v r → Q v H') (f E) → tE X e σ H Q
def SndT (e : Expr) (f : Tst) : Prop := ∀ (W : WX), Takes X W → ∀ (N : Addr → Prop) (H : Hp) (σ : L2.St) (E : Env) (Q : Bool → Hp → Prop), SR fa X.K N H σ E →
  Post ca W H σ (fun k => ∀ H', Sub H H' → Q k H') (f E) → tT X e σ H Q
def RRL (N : Addr → Prop) (H H' : Hp) (σ : L2.St) (E : Env) : List V → List Rv → Prop
  | vs, [] => vs = []
  | vs, r :: rs => ∃ v us, vs = v :: us ∧ RR fa X.K N H H' σ E v r ∧ RRL N H H' σ E us rs
def SndA (es : List Expr) (fs : List Ex) : Prop := ∀ (W : WX), Takes X W → ∀ (N : Addr → Prop) (H : Hp) (σ : L2.St) (E : Env) (Q : List V → Hp → Prop), SR fa X.K N H σ E →
  Post ca W H σ (fun rs => ∀ vs H', Sub H H' → RRL fa X N H H' σ E vs rs → Q vs H') (evs fs E) → tA X es σ H Q
def SndD (es : List Expr) (fs : List (Bool × Ex)) : Prop := ∀ (W : WX), Takes X W → ∀ (N : Addr → Prop) (H : Hp) (σ : L2.St) (E : Env) (Q : List V → Hp → Prop), SR fa X.K N H σ E →
  Post ca W H σ (fun q => ∀ vs H', Sub H H' → RepL fa X.K (hide H' (del N σ q.2)) q.1 vs → Q vs H') (spread fs E) → tA X es σ H Q
end

section
variable {fa ca : Nat → Addr} {X : Cx} {a b c e : Expr} {da db dc : Ex} {pos : Pos}
/-- the first of two steps -/
theorem Snd.bd {β : Type} {P : β → Prop} {W : WX} {N : Addr → Prop} {H0 H : Hp} {σ : L2.St} {E : Env} {k : Rv → R β} {Q : VK} (ha : Snd fa ca X a da) (tk : Takes X W) (s : SR fa X.K N H σ E) (g : Sub H0 H)
    (h : Post ca W H0 σ P ((da E).bd k)) (hk : ∀ r v H1, da E = .ok r → Sub H H1 → RR fa X.K N H H1 σ E v r → Post ca W H0 σ P (k r) → Q v H1) : tE X a σ H Q := by
  refine ha W tk N H σ E Q s ?_
  cases q : da E with
  | ok r => rw [q] at h; exact fun v H1 g1 rr => hk r v H1 q g1 rr h
  | ex c x => rw [q] at h; exact fun dd H' g' ed => h dd H' (g.trans g') (ed.from g)
  | bad => rw [q] at h; exact h.elim
theorem SndT.bd {β : Type} {P : β → Prop} {W : WX} {N : Addr → Prop} {H0 H : Hp} {σ : L2.St} {E : Env} {dt : Tst} {k : Bool → R β} {Q : Bool → Hp → Prop} (ha : SndT fa ca X a dt) (tk : Takes X W) (s : SR fa X.K N H σ E) (g : Sub H0 H)
    (h : Post ca W H0 σ P ((dt E).bd k)) (hk : ∀ r H1, dt E = .ok r → Sub H H1 → Post ca W H0 σ P (k r) → Q r H1) : tT X a σ H Q := by
  refine ha W tk N H σ E Q s ?_
  cases q : dt E with
  | ok r => rw [q] at h; exact fun H1 g1 => hk r H1 q g1 h
  | ex c x => rw [q] at h; exact fun dd H' g' ed => h dd H' (g.trans g') (ed.from g)
  | bad => rw [q] at h; exact h.elim
theorem SndA.bd {β : Type} {P : β → Prop} {W : WX} {N : Addr → Prop} {H0 H : Hp} {σ : L2.St} {E : Env} {es : List Expr} {fs : List Ex} {k : List Rv → R β} {Q : List V → Hp → Prop} (ha : SndA fa ca X es fs) (tk : Takes X W) (s : SR fa X.K N H σ E) (g : Sub H0 H)
    (h : Post ca W H0 σ P ((evs fs E).bd k)) (hk : ∀ r v H1, evs fs E = .ok r → Sub H H1 → RRL fa X N H H1 σ E v r → Post ca W H0 σ P (k r) → Q v H1) : tA X es σ H Q := by
  refine ha W tk N H σ E Q s ?_
  cases q : evs fs E with
  | ok r => rw [q] at h; exact fun v H1 g1 rr => hk r v H1 q g1 rr h
  | ex c x => rw [q] at h; exact fun dd H' g' ed => h dd H' (g.trans g') (ed.from g)
  | bad => rw [q] at h; exact h.elim
theorem SndD.bd {β : Type} {P : β → Prop} {W : WX} {N : Addr → Prop} {H0 H : Hp} {σ : L2.St} {E : Env} {es : List Expr} {fs : List (Bool × Ex)} {k : List D × List Nat → R β} {Q : List V → Hp → Prop} (ha : SndD fa ca X es fs) (tk : Takes X W) (s : SR fa X.K N H σ E) (g : Sub H0 H)
    (h : Post ca W H0 σ P ((spread fs E).bd k)) (hk : ∀ r v H1, spread fs E = .ok r → Sub H H1 → RepL fa X.K (hide H1 (del N σ r.2)) r.1 v → Post ca W H0 σ P (k r) → Q v H1) : tA X es σ H Q := by
  refine ha W tk N H σ E Q s ?_
  cases q : spread fs E with
  | ok r => rw [q] at h; exact fun v H1 g1 rr => hk r v H1 q g1 rr h
  | ex c x => rw [q] at h; exact fun dd H' g' ed => h dd H' (g.trans g') (ed.from g)
  | bad => rw [q] at h; exact h.elim

/-! ### names, constants -/
theorem snd_con {v : V} {d : D} (h : PE X e (tC v)) (r : ∀ Z, Rep fa X.K Z d v) : Snd fa ca X e (xCon d) := fun W tk N H σ E Q s p =>
  of_pe h (p v H (Sub.refl _) (r _))
theorem snd_var {i : Nat} {x : Str} (hN : X.N[i]? = some x) (hv : Vis X.env.scope x) (hd : (x == ("__debug__" : Str)) = false) (hcd : (x == ("__classdict__" : Str)) = false) : Snd fa ca X (.Name x pos) (xVar i) := fun W tk N H σ E Q s p => by
  refine of_pe (pe_var (i := i) hN hv hd hcd) ?_
  unfold xVar at p
  cases q : E[i]? with
  | none => simp only [q] at p; exact p.elim
  | some sl =>
    cases sl with
    | none => simp only [q] at p; exact p.elim
    | some dk =>
      obtain ⟨d, k⟩ := dk
      cases k with
      | true =>
        simp only [q] at p
        obtain ⟨ad, q1, q2, q3⟩ := s.ow i d q
        exact ⟨_, q1, p _ H (Sub.refl _) ⟨q, q1⟩⟩
      | false =>
        simp only [q] at p
        obtain ⟨v, q1, q2⟩ := s.fz i d q
        refine ⟨v, q1, p v H (Sub.refl _) ?_⟩
        exact Rep.sub (hide_mono (Sub.refl _) fun b o _ n => n.1) _ _ q2

/-! ### operators -/
/-- an operation of two values -/
def OpS (fa : Nat → Addr) (X : Cx) (g : Value → Value → Sem Value) (f : D → D → Option (D × Bool)) : Prop :=
  ∀ (Z H : Hp) (x y : V) (d e r : D) (fr : Bool) (Q : VK), Sub Z H → Kid fa X.K Z H x d → Kid fa X.K Z H y e → f d e = some (r, fr) →
    (∀ z H2, NewR fa X.K Z H H2 fr r z → Q z H2) →
    ∀ (pins : List (Addr × Obj)) (s : Shared) (σ : L2.St) (v u : Value), Inv X pins σ H s → RelV x v → RelV y u → wpAny (model X.prog X.w) X.A (g v u) (EP X pins σ Q) X.xe s
theorem mem_app_l {p q : List Nat} : ∀ i ∈ p, i ∈ p ++ q := fun i h => List.mem_append_left _ h
theorem mem_app_r {p q : List Nat} : ∀ i ∈ q, i ∈ p ++ q := fun i h => List.mem_append_right _ h
theorem hide_dep {N : Addr → Prop} {σ : L2.St} {H : Hp} {p q : List Nat} (h : ∀ i ∈ p, i ∈ q) : Sub (hide H (del N σ p)) (hide H (del N σ q)) := hide_mono (Sub.refl _) fun b o _ n => del_anti h n

theorem snd_bin {op : Operator} {f : D → D → Option (D × Bool)} (ho : OpS fa X (binaryOp op) f) (ha : Snd fa ca X a da) (hb : Snd fa ca X b db) : Snd fa ca X (.BinOp a op b pos) (xBin f da db) := fun W tk N H σ E Q s p => by
  refine of_pe (pe_op (r := fun x y H' Q' => ∀ (pins : List (Addr × Obj)) (s : Shared) (σ : L2.St) (v u : Value), Inv X pins σ H' s → RelV x v → RelV y u → wpAny (model X.prog X.w) X.A (binaryOp op v u) (EP X pins σ Q') X.xe s)
    (fun pins s σ H x y v u Q I rx ry h => h pins s σ v u I rx ry) (peE (e := a)) (peE (e := b))) ?_
  show tE X a σ H _
  refine ha.bd tk s (Sub.refl _) p fun r x H1 e1 g1 r1 p1 => ?_
  refine hb.bd tk (s.grow g1) g1 p1 fun r' y H2 e2 g2 r2 p2 => ?_
  have k1 := (r1.kid s g1).sub (hide_mono g2 fun b o _ n => n) g2
  have k2 := r2.kid (s.grow g1) g2
  have g12 := g1.trans g2
  cases q : f r.d r'.d with
  | none => simp only [q] at p2; exact p2.elim
  | some z =>
    obtain ⟨d, fr⟩ := z
    simp only [q] at p2
    refine ho (hide H2 (del N σ (r.kc ++ r'.kc))) H2 x y r.d r'.d d fr _ hide_sub (k1.sub (hide_dep mem_app_l) (Sub.refl _)) (k2.sub (hide_dep mem_app_r) (Sub.refl _)) q fun w H3 nr => ?_
    exact p2 w H3 (g12.trans nr.1) (nr.rr s g12)
theorem Kid.int {Z H : Hp} {x : V} {i : Int} {K : PySem.W.Frag} (h : Kid fa K Z H x (.int i)) : x = .int i := by simpa [Kid, Rep] using h
theorem Kid.str {Z H : Hp} {x : V} {i : Str} {K : PySem.W.Frag} (h : Kid fa K Z H x (.str i)) : x = .str i := by simpa [Kid, Rep] using h
theorem Kid.bl {Z H : Hp} {x : V} {i : Bool} {K : PySem.W.Frag} (h : Kid fa K Z H x (.bl i)) : x = .bl i := by simpa [Kid, Rep] using h
theorem Kid.rp {Z H : Hp} {x : V} {d : D} {K : PySem.W.Frag} (h : Kid fa K Z H x (.rep d)) : x = .str d.py.shown := by simpa [Kid, Rep] using h
theorem newR_int {K : PySem.W.Frag} {Z H : Hp} {i : Int} : NewR fa K Z H H false (.int i) (.int i) := NewR.flat fun _ => by simp [Rep]
theorem newR_str {K : PySem.W.Frag} {Z H : Hp} {i : Str} : NewR fa K Z H H false (.str i) (.str i) := NewR.flat fun _ => by simp [Rep]
theorem newR_bl {K : PySem.W.Frag} {Z H : Hp} {i : Bool} : NewR fa K Z H H false (.bl i) (.bl i) := NewR.flat fun _ => by simp [Rep]
theorem line_eq : line = sizeLine := by rw [sizeLine_eq]; rfl

theorem ops_add : OpS fa X (binaryOp .Add) dAdd := fun Z H x y d e r fr Q sz kx ky q k pins s σ v u I rx ry => by
  unfold dAdd at q
  split at q
  · cases q
    have ex := kx.int; have ey := ky.int; subst ex ey
    exact op_add pins s σ H _ _ v u Q I rx ry ⟨_, _, rfl, rfl, k _ _ newR_int⟩
  · split at q <;> cases q
    rename_i hl
    have ex := kx.str; have ey := ky.str; subst ex ey
    exact op_add_str pins s σ H _ _ v u Q I rx ry ⟨_, _, rfl, rfl, by rw [← line_eq]; exact hl, k _ _ newR_str⟩
  · split at q <;> cases q
    rename_i hl
    obtain ⟨a, vs, rfl, h1, h2⟩ := kx
    obtain ⟨b, us, rfl, h3, h4⟩ := ky
    refine op_cat pins s σ H _ _ v u Q I rx ry ⟨a, b, vs, us, rfl, rfl, h1, h3, by rw [← line_eq, ← h2.length, ← h4.length]; exact hl, fun p np => k _ _ ?_⟩
    exact NewR.list np sz (h2.append h4)
  · split at q <;> cases q
    rename_i xs ys hl
    have tx : Rep fa X.K Z (.tup _) _ := kx
    have ty : Rep fa X.K Z (.tup _) _ := ky
    have kx' := tx
    have ky' := ty
    simp only [Rep] at kx' ky'
    obtain ⟨a, vs, rfl, h1, h2⟩ := kx'
    obtain ⟨b, us, rfl, h3, h4⟩ := ky'
    refine op_catA pins s σ H _ _ v u Q I rx ry ⟨a, b, vs, us, rfl, rfl, SqT.sub h1 sz, SqT.sub h3 sz, by rw [← line_eq, ← h2.length, ← h4.length]; exact hl, fun e0 => k _ _ ?_, fun e1 e0 => k _ _ ?_, fun _ _ p np => k _ _ ?_⟩
    · subst e0
      have e := h2.length
      have e' : xs = [] := List.eq_nil_of_length_eq_zero (by simpa using e)
      subst e'
      exact NewR.old ty sz
    · subst e0
      have e := h4.length
      have e' : ys = [] := List.eq_nil_of_length_eq_zero (by simpa using e)
      subst e'
      rw [List.append_nil]
      exact NewR.old tx sz
    · exact NewR.tuple np sz (h2.append h4)
  · cases q
end
end Rt
end
section
set_option linter.all false
set_option autoImplicit false
set_option Elab.async false
set_option maxRecDepth 100000
set_option maxHeartbeats 3200000
namespace L2
open PySem PySem.Spec PyProof.Rows
/-! tuple * 1, tuple * 0 -/
theorem tuple_mul1 (l : Addr) (items : Array Value) (n : Nat) (dd : Option Addr) (sl : Array (Option Value)) (u : Tok) :
    Meets (Builtin.«tuple.__mul__» ⟨[.ref l, .int 1 u], []⟩) (fun _ R s => s.heap.get? l = some { cls := .type "tuple", dict := dd, data := .seq items n, slots := sl } ∧ R (.ok (.ret (Value.ref l))) s) :=
  .of_wp fun prog w A R s h => by
    obtain ⟨hp, g, d, tk, os⟩ := s
    obtain ⟨hl, h⟩ := h
    have f1 := AutoSeq1.idx_int
    have c1 : (items.isEmpty || (1 : Int) == 1) = true := by simp
    wp_walk using wpAny_loadPart' hl
    repeat (first
      | (refine wpAny_ite_true (decide_eq_true (by rw [c1])) ?_; wp_walk using wpAny_loadPart' hl))
    exact ⟨_, rfl, h⟩
theorem tuple_mul0 (l : Addr) (items : Array Value) (n : Nat) (dd : Option Addr) (sl : Array (Option Value)) (u : Tok) (hi : items.isEmpty = false) :
    Meets (Builtin.«tuple.__mul__» ⟨[.ref l, .int 0 u], []⟩) (fun _ R s => s.heap.get? l = some { cls := .type "tuple", dict := dd, data := .seq items n, slots := sl } ∧
      R (.ok (.ret (Value.ref s.heap.objs.size))) { s with heap := s.heap.push { cls := Value.type "tuple", data := Data.seq #[] }, toks := s.toks }) :=
  .of_wp fun prog w A R s h => by
    obtain ⟨hp, g, d, tk, os⟩ := s
    obtain ⟨hl, h⟩ := h
    have f1 := AutoSeq1.idx_int
    have c1 : (items.isEmpty || (0 : Int) == 1) = false := by rw [hi]; rfl
    have c2 : (decide ((0 : Int) ≤ 0) || items.isEmpty) = true := by rfl
    wp_walk using wpAny_loadPart' hl
    repeat (first
      | (refine wpAny_ite_false (decide_eq_false (by rw [c1]; exact Bool.false_ne_true)) ?_; wp_walk using wpAny_loadPart' hl)
      | (refine wpAny_ite_true (decide_eq_true (by rw [c2])) ?_; wp_walk using wpAny_loadPart' hl))
    exact ⟨_, rfl, h⟩
def rRepT01 (K : PySem.W.Frag) : R2 := fun x y H Q => ∃ l k xs, x = .ref l ∧ y = .int k ∧ SqT K H l xs ∧ xs ≠ [] ∧ ((k = 1 ∧ Q (.ref l) H) ∨ (k = 0 ∧ ∀ p, H p = none → Q (.ref p) (upd H p (.tup []))))
section
variable {X : Cx}
theorem op_repT01 : OpR X (binaryOp .Mult) (rRepT01 X.K) := by
  intro pins s σ H x y v u Q I rx ry h
  obtain ⟨l, k, xs, rfl, rfl, hT, hne, q⟩ := h
  cases rx
  obtain ⟨t, rfl⟩ := ry
  obtain ⟨its, r, ⟨⟨cls, dd, data, sl⟩, ho, hc, n, hd⟩, hs⟩ := I.tuple hT
  simp only at hc hd
  subst hc hd
  have hle : its.length = xs.length := r.length.symm
  have hi : its.toArray.isEmpty = false := by
    cases its with
    | nil => exact absurd (List.eq_nil_of_length_eq_zero hle.symm) hne
    | cons a b => rfl
  rcases q with ⟨rfl, q⟩ | ⟨rfl, q⟩
  · refine wpAny_binaryOp_repeat_ref (T := "tuple") (U := "int") (by decide) ⟨_, ho, rfl⟩ (fun s' => typeIs_int s' 1 t) noFill_tuple_mul F.fills_int_mul F.slot_int_rmul repeat_tuple F.slot_int_index.lookup
      (call_meets F.slot_int_rmul (typeIs_int s 1 t) F.entry_int_rmul (F.args_int_rmul_2 _ _) (int_rmul_tuple 1 t l its.toArray n dd sl)
        ⟨ho, rfl, ⟨_, ho, rfl⟩, call_meets F.slot_tuple_mul ⟨_, ho, rfl⟩ F.entry_tuple_mul (F.args_tuple_mul_2 _ _) (tuple_mul1 l its.toArray n dd sl t) ⟨ho, ?_⟩⟩)
    exact ⟨.ref l, H, I, rfl, q⟩
  · refine wpAny_binaryOp_repeat_ref (T := "tuple") (U := "int") (by decide) ⟨_, ho, rfl⟩ (fun s' => typeIs_int s' 0 t) noFill_tuple_mul F.fills_int_mul F.slot_int_rmul repeat_tuple F.slot_int_index.lookup
      (call_meets F.slot_int_rmul (typeIs_int s 0 t) F.entry_int_rmul (F.args_int_rmul_2 _ _) (int_rmul_tuple 0 t l its.toArray n dd sl)
        ⟨ho, rfl, ⟨_, ho, rfl⟩, call_meets F.slot_tuple_mul ⟨_, ho, rfl⟩ F.entry_tuple_mul (F.args_tuple_mul_2 _ _) (tuple_mul0 l its.toArray n dd sl t hi) ⟨ho, ?_⟩⟩)
    refine ⟨.ref s.heap.objs.size, _, I.laid (t' := s.toks) (o := .tup []) (fun b ob q => Heap.get?_push_of_some _ q) (Nat.le_refl _) ?_, rfl, q _ (I.hok.fresh (Nat.le_refl _))⟩
    exact ⟨Nat.zero_le _, [], .nil, IsTup.new _ _⟩
end
end L2
end
section
set_option linter.all false
set_option autoImplicit false
set_option Elab.async false
set_option maxRecDepth 100000
set_option maxHeartbeats 2000000
namespace Rt
open PySem PySem.Spec PyProof.Rows L2
section
variable {fa ca : Nat → Addr} {X : Cx} {a b c e : Expr} {da db dc : Ex} {pos : Pos}
theorem wide_ok {i j : Int} (h : wideOk i j = true) : IntMulOk i j := by
  unfold wideOk at h
  simp only [Bool.or_eq_true, below_iff, decide_eq_true_eq] at h
  rcases h with (h | h) | h
  · exact CMul.ok (.inl (by omega))
  · exact CMul.ok (.inr (by omega))
  · exact CMulW.ok h
theorem ops_sub : OpS fa X (binaryOp .Sub) dSub := fun Z H x y d e r fr Q sz kx ky q k pins s σ v u I rx ry => by
  unfold dSub at q
  split at q <;> cases q
  have ex := kx.int; have ey := ky.int; subst ex ey
  exact op_sub pins s σ H _ _ v u Q I rx ry ⟨_, _, rfl, rfl, k _ _ newR_int⟩
theorem ops_mul : OpS fa X (binaryOp .Mult) dMul := fun Z H x y d e r fr Q sz kx ky q k pins s σ v u I rx ry => by
  unfold dMul at q
  split at q
  · split at q <;> cases q
    rename_i hw
    have ex := kx.int; have ey := ky.int; subst ex ey
    obtain ⟨t, rfl⟩ := rx
    obtain ⟨t', rfl⟩ := ry
    exact mul_int ⟨.int _, H, I.tok _, ⟨_, rfl⟩, k _ _ newR_int⟩ (wide_ok hw)
  · split at q <;> cases q
    rename_i hw
    simp only [Bool.and_eq_true, below_iff, decide_eq_true_eq] at hw
    obtain ⟨a, vs, rfl, h1, h2⟩ := kx
    have ey := ky.int; subst ey
    refine op_rep pins s σ H _ _ v u Q I rx ry ⟨a, _, vs, rfl, rfl, h1, by omega, by omega, by rw [← line_eq, ← h2.length]; exact hw.2, fun p np => k _ _ ?_⟩
    exact NewR.list np sz (h2.rep _)
  · split at q <;> cases q
    rename_i kk hw
    simp only [Bool.and_eq_true, nnI_iff, below_iff, decide_eq_true_eq, Bool.not_eq_true', List.isEmpty_eq_false_iff] at hw
    obtain ⟨⟨⟨w0, w1⟩, w2⟩, w3⟩ := hw
    have tx : Rep fa X.K Z (.tup _) _ := kx
    have kx' := tx
    simp only [Rep] at kx'
    obtain ⟨a, vs, rfl, h1, h2⟩ := kx'
    have ey := ky.int; subst ey
    have hl := h2.length
    have hne : vs ≠ [] := fun e => w2 (List.eq_nil_of_length_eq_zero (by rw [hl, e]; rfl))
    by_cases c2 : 2 ≤ kk
    · exact op_repT pins s σ H _ _ v u Q I rx ry ⟨a, _, vs, rfl, rfl, SqT.sub h1 sz, hne, c2, by omega, by omega, fun p np => k _ _ (NewR.tuple np sz (h2.rep _))⟩
    · refine op_repT01 pins s σ H _ _ v u Q I rx ry ⟨a, _, vs, rfl, rfl, SqT.sub h1 sz, hne, ?_⟩
      by_cases c1 : kk = 1
      · subst c1
        refine .inl ⟨rfl, k _ _ ?_⟩
        have e : ∀ l : List D, (List.replicate (1 : Int).toNat l).flatten = l := fun l => by show (List.replicate 1 l).flatten = l; simp
        rw [e]
        exact NewR.old tx sz
      · have c0 : kk = 0 := by omega
        subst c0
        exact .inr ⟨rfl, fun p np => k _ _ (NewR.tuple np sz (h2.rep _))⟩
  · cases q
theorem ops_div : OpS fa X (binaryOp .FloorDiv) dDiv := fun Z H x y d e r fr Q sz kx ky q k pins s σ v u I rx ry => by
  unfold dDiv at q
  split at q
  · split at q <;> cases q
    rename_i hw
    simp only [Bool.and_eq_true, Bool.or_eq_true, posI_iff, below_iff, decide_eq_true_eq] at hw
    have ex := kx.int; have ey := ky.int; subst ex ey
    refine op_fdivW pins s σ H _ _ v u Q I rx ry ⟨_, _, rfl, rfl, ?_, k _ _ newR_int⟩
    rcases hw.2 with h | h
    · exact wide_div (b := 64) hw.1 (by omega) (by decide) (by decide)
    · exact ⟨hw.1, h⟩
  · cases q
theorem ops_mod : OpS fa X (binaryOp .Mod) dMod := fun Z H x y d e r fr Q sz kx ky q k pins s σ v u I rx ry => by
  unfold dMod at q
  split at q
  · split at q <;> cases q
    rename_i hw
    have ex := kx.int; have ey := ky.int; subst ex ey
    exact op_mod pins s σ H _ _ v u Q I rx ry ⟨_, _, rfl, rfl, hw, k _ _ newR_int⟩
  · cases q
theorem ops_pow : OpS fa X (binaryOp .Pow) dPow := fun Z H x y d e r fr Q sz kx ky q k pins s σ v u I rx ry => by
  unfold dPow at q
  split at q
  · split at q <;> cases q
    rename_i hw
    simp only [Bool.and_eq_true, nnI_iff, below_iff] at hw
    have ex := kx.int; have ey := ky.int; subst ex ey
    exact op_pow pins s σ H _ _ v u Q I rx ry ⟨_, _, rfl, rfl, ⟨by omega, by omega, by omega⟩, k _ _ newR_int⟩
  · cases q
theorem RR.int {N : Addr → Prop} {H H' : Hp} {σ : L2.St} {E : Env} {K : PySem.W.Frag} {i : Int} : RR fa K N H H' σ E (.int i) ⟨.int i, .fz, []⟩ := by show Rep fa K (hide H' (del N σ [])) (.int i) _; simp [Rep]
theorem RR.bl {N : Addr → Prop} {H H' : Hp} {σ : L2.St} {E : Env} {K : PySem.W.Frag} {i : Bool} : RR fa K N H H' σ E (.bl i) ⟨.bl i, .fz, []⟩ := by show Rep fa K (hide H' (del N σ [])) (.bl i) _; simp [Rep]
theorem snd_neg (ha : Snd fa ca X a da) : Snd fa ca X (.UnaryOp .USub a pos) (xNeg da) := fun W tk N H σ E Q s p => by
  refine of_pe (pe_un un_neg (peE (e := a))) ?_
  refine ha.bd tk s (Sub.refl _) p fun r x H1 e1 g1 r1 p1 => ?_
  have k1 := r1.kid s g1
  cases q : r.d <;> simp only [q] at p1 <;> try exact p1.elim
  rw [q] at k1
  exact ⟨_, k1.int, p1 _ H1 g1 RR.int⟩

/-! ### comparisons -/
def CmpS (fa : Nat → Addr) (X : Cx) (op : CmpOp) (o : Cop) : Prop :=
  ∀ (Z H : Hp) (x y : V) (d e : D) (k : Bool) (Q : VK), Sub Z H → Kid fa X.K Z H x d → Kid fa X.K Z H y e → cmpD o d e = some k → Q (.bl k) H →
    ∀ (pins : List (Addr × Obj)) (s : Shared) (σ : L2.St) (v u : Value), Inv X pins σ H s → RelV x v → RelV y u → wpAny (model X.prog X.w) X.A (compareOp op v u) (EP X pins σ Q) X.xe s
mutual
theorem sameP_eq : ∀ a b : PyData, sameP a b = true → a = b
  | .none, b, h => by cases b <;> simp [sameP] at h ⊢
  | .bool x, b, h => by cases b <;> simp [sameP] at h ⊢; exact h
  | .int x, b, h => by cases b <;> simp [sameP] at h ⊢; exact h
  | .str x, b, h => by cases b <;> simp [sameP] at h ⊢; exact h
  | .list xs, b, h => by
    cases b <;> simp [sameP] at h ⊢
    exact samePL_eq _ _ h
  | .tuple xs, b, h => by
    cases b <;> simp [sameP] at h ⊢
    exact samePL_eq _ _ h
  | .dict xs, b, h => by cases b <;> simp [sameP] at h
theorem samePL_eq : ∀ a b : List PyData, samePL a b = true → a = b
  | [], b, h => by cases b <;> simp [samePL] at h ⊢
  | x :: xs, b, h => by
    cases b with
    | nil => simp [samePL] at h
    | cons y ys =>
      simp only [samePL, Bool.and_eq_true] at h
      rw [sameP_eq x y h.1, samePL_eq xs ys h.2]
end
theorem zip_maps {α β : Type} : ∀ {a b : List (α × β)}, a.map (·.1) = b.map (·.1) → a.map (·.2) = b.map (·.2) → a = b
  | [], [], _, _ => rfl
  | [], y :: b, h, _ => by cases h
  | x :: a, [], h, _ => by cases h
  | (x1, x2) :: a, (y1, y2) :: b, h, k => by
    simp only [List.map_cons, List.cons.injEq] at h k
    rw [h.1, k.1, zip_maps h.2 k.2]
theorem same_eq {a b : PyData} (h : (sameP a b || sameD a b) = true) : a = b := by
  rw [Bool.or_eq_true] at h
  rcases h with h | h
  · exact sameP_eq _ _ h
  · unfold sameD at h
    split at h
    · rw [Bool.and_eq_true] at h
      rw [zip_maps (samePL_eq _ _ h.1) (samePL_eq _ _ h.2)]
    · cases h
theorem eqs {n : Nat} (hr : Room n X.A) : ∀ (Z H : Hp) (x y : V) (d e : D) (k : Bool), Sub Z H → Kid fa X.K Z H x d → Kid fa X.K Z H y e → dEq d e = some k →
    (scal x y = true ∧ decide (x = y) = k) ∨ (∃ p q, Dp X.K H x p ∧ Dp X.K H y q ∧ p.plain = true ∧ q.plain = true ∧ min p.depth q.depth ≤ 60 ∧ PyData.eqv p q = k) := fun Z H x y d e k sz kx ky q => by
  have gen : (if okEq d.py e.py then some (PyData.eqv d.py e.py) else none) = some k →
      (∃ p q, Dp X.K H x p ∧ Dp X.K H y q ∧ p.plain = true ∧ q.plain = true ∧ min p.depth q.depth ≤ 60 ∧ PyData.eqv p q = k) := fun q => by
    split at q <;> cases q
    rename_i h
    simp only [okEq, Bool.and_eq_true, Bool.or_eq_true, decide_eq_true_eq] at h
    refine ⟨d.py, e.py, Rep.dp _ _ (kx.rep sz) h.1.1, Rep.dp _ _ (ky.rep sz) h.1.2, h.1.1, h.1.2, ?_, rfl⟩
    rcases h.2 with z | z
    · exact Nat.le_trans (Nat.min_le_left _ _) z
    · exact Nat.le_trans (Nat.min_le_right _ _) z
  unfold dEq at q
  split at q
  · cases q
    have ex := kx.int; have ey := ky.int; subst ex ey
    exact .inl ⟨rfl, by simp⟩
  · cases q
    have ex := kx.str; have ey := ky.str; subst ex ey
    exact .inl ⟨rfl, by simp⟩
  · cases q
    have ex := kx.bl; have ey := ky.bl; subst ex ey
    exact .inl ⟨rfl, by rename_i i j; cases i <;> cases j <;> rfl⟩
  · split at q <;> cases q
    rename_i h
    have ex := kx.rp; have ey := ky.rp; subst ex ey
    rw [same_eq h]
    exact .inl ⟨rfl, by simp⟩
  · exact .inr (gen q)
theorem cmp_eq {n : Nat} (hr : Room n X.A) : CmpS fa X .Eq .eq := fun Z H x y d e k Q sz kx ky q hq pins s σ v u I rx ry => by
  rcases eqs hr Z H x y d e k sz kx ky q with ⟨h1, h2⟩ | ⟨p, p', h1, h2, h3, h4, h5, h6⟩
  · exact op_eq pins s σ H x y v u Q I rx ry ⟨h1, by rw [h2]; exact hq⟩
  · obtain ⟨as, r1⟩ := Dp.reads I p x v h1 rx
    obtain ⟨bs, r2⟩ := Dp.reads I p' y u h2 ry
    refine PySem.SeqAt.eq_plain r1 r2 h3 h4 (by have := hr.units; omega) ?_
    rw [h6]
    exact ⟨.bl k, H, I, rfl, hq⟩
theorem cmp_ne {n : Nat} (hr : Room n X.A) : CmpS fa X .NotEq .ne := fun Z H x y d e k Q sz kx ky q hq pins s σ v u I rx ry => by
  have q' : (dEq d e).map not = some k := q
  obtain ⟨k', q2, rfl⟩ := Option.map_eq_some_iff.mp q'
  rcases eqs hr Z H x y d e k' sz kx ky q2 with ⟨h1, h2⟩ | ⟨p, p', h1, h2, h3, h4, h5, h6⟩
  · exact op_ne pins s σ H x y v u Q I rx ry ⟨h1, by rw [h2]; exact hq⟩
  · obtain ⟨as, r1⟩ := Dp.reads I p x v h1 rx
    obtain ⟨bs, r2⟩ := Dp.reads I p' y u h2 ry
    refine PySem.SeqAt.ne_plain r1 r2 h3 h4 (by have := hr.units; omega) ?_
    rw [h6]
    exact ⟨.bl _, H, I, rfl, hq⟩
theorem keyD_same : ∀ {k : Key} {d : D}, sameKey (keyD k) d = true ↔ d = keyD k
  | .inl i, d => by
    cases d <;> simp [sameKey, keyD]
    exact eq_comm
  | .inr x, d => by
    cases d <;> simp [sameKey, keyD]
    exact eq_comm
theorem isKey_is {d : D} (h : isKey d = true) : ∃ k : Key, d = keyD k := by
  cases d with
  | int i => exact ⟨.inl i, rfl⟩
  | str x => exact ⟨.inr x, rfl⟩
  | _ => exact absurd h (by simp [isKey])
theorem keyD_inj {k j : Key} (h : keyD k = keyD j) : k = j := by
  cases k <;> cases j <;> simp [keyD] at h <;> rw [h]
theorem Kid.key {K : PySem.W.Frag} {Z H : Hp} {x : V} : ∀ {k : Key}, Kid fa K Z H x (keyD k) → x = kV k
  | .inl i, h => h.int
  | .inr x, h => h.str
theorem valV_some {k : Key} : ∀ kvs : List (Key × V), (valV kvs k).isSome = ((kvs.map fun p => keyD p.1).any fun q => sameKey q (keyD k))
  | [] => rfl
  | p :: kvs => by
    rw [List.map_cons, List.any_cons, ← valV_some kvs]
    by_cases c : p.1 = k
    · rw [valV_pos c, keyD_same.mpr (by rw [c])]; rfl
    · have : sameKey (keyD p.1) (keyD k) = false := by
        cases q : sameKey (keyD p.1) (keyD k) with
        | false => rfl
        | true => exact absurd (keyD_inj (keyD_same.mp q)).symm c
      rw [valV_neg c, this]; rfl
theorem insD {Z H : Hp} {x y : V} {d : D} {ks vs : List D} {k : Bool} (kx : Kid fa X.K Z H x d) (ky : Kid fa X.K Z H y (.dct ks vs)) (q : dIn d (.dct ks vs) = some k) : ∃ a o, y = .ref a ∧ DGet H a x o ∧ o.isSome = k := by
  have q' : (if isKey d then some (ks.any fun j => sameKey j d) else none) = some k := q
  split at q'
  case isFalse => cases q'
  rename_i hk
  cases q'
  obtain ⟨key, rfl⟩ := isKey_is hk
  obtain ⟨a, kvs, rfl, h1, rfl, _⟩ := ky
  have ex := kx.key
  subst ex
  exact ⟨a, valV kvs key, rfl, DGet.k h1, valV_some kvs⟩
theorem ins {n : Nat} (hr : Room n X.A) : ∀ (Z H : Hp) (x y : V) (d e : D) (k : Bool), (∀ ks vs, e ≠ .dct ks vs) → Sub Z H → Kid fa X.K Z H x d → Kid fa X.K Z H y e → dIn d e = some k →
    ∃ ys, (e = .lst ys ∨ e = .tup ys) ∧ Dp X.K H x d.py ∧ Dp X.K H y e.py ∧ d.py.plain = true ∧ PyData.plainAll (D.pyL ys) = true ∧ min (PyData.depthAll (D.pyL ys)) d.py.depth ≤ 59 ∧ ((D.pyL ys).any fun z => PyData.eqv z d.py) = k := fun Z H x y d e k nd sz kx ky q => by
  have gen : ∀ ys, (e = .lst ys ∨ e = .tup ys) → (if okIn d ys then some ((D.pyL ys).any fun z => PyData.eqv z d.py) else none) = some k → Dp X.K H x d.py ∧ Dp X.K H y e.py ∧ d.py.plain = true ∧ PyData.plainAll (D.pyL ys) = true ∧ min (PyData.depthAll (D.pyL ys)) d.py.depth ≤ 59 ∧ ((D.pyL ys).any fun z => PyData.eqv z d.py) = k := fun ys he q => by
    split at q <;> cases q
    rename_i h
    simp only [okIn, Bool.and_eq_true, Bool.or_eq_true, decide_eq_true_eq] at h
    refine ⟨Rep.dp _ _ (kx.rep sz) h.1.1, Rep.dp _ _ (ky.rep sz) ?_, h.1.1, h.1.2, ?_, rfl⟩
    · rcases he with rfl | rfl <;> simpa [D.py, PyData.plain] using h.1.2
    · rcases h.2 with z | z
      · exact Nat.le_trans (Nat.min_le_left _ _) z
      · exact Nat.le_trans (Nat.min_le_right _ _) z
  unfold dIn at q
  split at q
  · exact absurd rfl (nd _ _)
  · exact ⟨_, .inl rfl, gen _ (.inl rfl) q⟩
  · exact ⟨_, .inr rfl, gen _ (.inr rfl) q⟩
  · cases q
theorem cmp_in {n : Nat} (hr : Room n X.A) : CmpS fa X .In .inn := fun Z H x y d e k Q sz kx ky q hq pins s σ v u I rx ry => by
  by_cases hd : ∃ ks vs, e = .dct ks vs
  · obtain ⟨ks, vs, rfl⟩ := hd
    obtain ⟨a, o, rfl, g, rfl⟩ := insD kx ky q
    cases ry
    exact d_in (by have := hr.units; omega) I g rx fun s' I' => ⟨.bl o.isSome, H, I', rfl, hq⟩
  obtain ⟨ys, he, h1, h2, h3, h4, h5, h6⟩ := ins hr Z H x y d e k (fun ks vs z => hd ⟨ks, vs, z⟩) sz kx ky q
  obtain ⟨as, r1⟩ := Dp.reads I _ x v h1 rx
  obtain ⟨bs, r2⟩ := Dp.reads I _ y u h2 ry
  have hu := hr.units
  rcases he with rfl | rfl
  · refine PySem.SeqAt.in_list_data (by simpa only [D.py] using r2) r1 h4 h3 (by omega) ?_
    rw [h6]
    exact ⟨.bl k, H, I, rfl, hq⟩
  · refine PySem.SeqAt.in_tuple_data (by simpa only [D.py] using r2) r1 h4 h3 (by omega) ?_
    rw [h6]
    exact ⟨.bl k, H, I, rfl, hq⟩
theorem cmp_nin {n : Nat} (hr : Room n X.A) : CmpS fa X .NotIn .nin := fun Z H x y d e k Q sz kx ky q hq pins s σ v u I rx ry => by
  have q' : (dIn d e).map not = some k := q
  obtain ⟨k', q2, rfl⟩ := Option.map_eq_some_iff.mp q'
  by_cases hd : ∃ ks vs, e = .dct ks vs
  · obtain ⟨ks, vs, rfl⟩ := hd
    obtain ⟨a, o, rfl, g, rfl⟩ := insD kx ky q2
    cases ry
    exact d_notIn (by have := hr.units; omega) I g rx fun s' I' => ⟨.bl (!o.isSome), H, I', rfl, hq⟩
  obtain ⟨ys, he, h1, h2, h3, h4, h5, h6⟩ := ins hr Z H x y d e k' (fun ks vs z => hd ⟨ks, vs, z⟩) sz kx ky q2
  obtain ⟨as, r1⟩ := Dp.reads I _ x v h1 rx
  obtain ⟨bs, r2⟩ := Dp.reads I _ y u h2 ry
  have hu := hr.units
  rcases he with rfl | rfl
  · refine PySem.SeqAt.notIn_list_data (by simpa only [D.py] using r2) r1 h4 h3 (by omega) ?_
    rw [h6]
    exact ⟨.bl _, H, I, rfl, hq⟩
  · refine PySem.SeqAt.notIn_tuple_data (by simpa only [D.py] using r2) r1 h4 h3 (by omega) ?_
    rw [h6]
    exact ⟨.bl _, H, I, rfl, hq⟩
theorem lt_cases {d e : D} {k : Bool} (h : dLt d e = some k) : ∃ i j, d = .int i ∧ e = .int j ∧ k = decide (i < j) := by
  unfold dLt at h
  split at h <;> cases h
  exact ⟨_, _, rfl, rfl, rfl⟩
theorem le_cases {d e : D} {k : Bool} (h : dLe d e = some k) : ∃ i j, d = .int i ∧ e = .int j ∧ k = decide (i ≤ j) := by
  unfold dLe at h
  split at h <;> cases h
  exact ⟨_, _, rfl, rfl, rfl⟩
theorem cmp_lt : CmpS fa X .Lt .lt := fun Z H x y d e k Q sz kx ky q hq pins s σ v u I rx ry => by
  obtain ⟨i, j, rfl, rfl, rfl⟩ := lt_cases q
  have ex := kx.int; have ey := ky.int; subst ex ey
  exact op_lt pins s σ H _ _ v u Q I rx ry ⟨_, _, rfl, rfl, hq⟩
theorem cmp_gt : CmpS fa X .Gt .gt := fun Z H x y d e k Q sz kx ky q hq pins s σ v u I rx ry => by
  obtain ⟨i, j, rfl, rfl, rfl⟩ := lt_cases q
  have ex := kx.int; have ey := ky.int; subst ex ey
  exact op_gt pins s σ H _ _ v u Q I rx ry ⟨_, _, rfl, rfl, hq⟩
theorem cmp_le : CmpS fa X .LtE .le := fun Z H x y d e k Q sz kx ky q hq pins s σ v u I rx ry => by
  obtain ⟨i, j, rfl, rfl, rfl⟩ := le_cases q
  have ex := kx.int; have ey := ky.int; subst ex ey
  exact op_le pins s σ H _ _ v u Q I rx ry ⟨_, _, rfl, rfl, hq⟩
theorem cmp_ge : CmpS fa X .GtE .ge := fun Z H x y d e k Q sz kx ky q hq pins s σ v u I rx ry => by
  obtain ⟨i, j, rfl, rfl, rfl⟩ := le_cases q
  have ex := kx.int; have ey := ky.int; subst ex ey
  exact op_ge pins s σ H _ _ v u Q I rx ry ⟨_, _, rfl, rfl, hq⟩
theorem Kid.non {Z H : Hp} {x : V} {d : D} {K : PySem.W.Frag} (h : Kid fa K Z H x d) : decide (x = .non) = d.isNon := by
  cases d <;> simp only [Kid, Rep] at h
  · subst h; rfl
  · subst h; rfl
  · subst h; rfl
  · subst h; rfl
  · obtain ⟨a, _, rfl, _⟩ := h; rfl
  · obtain ⟨a, _, rfl, _⟩ := h; rfl
  · obtain ⟨a, _, rfl, _⟩ := h; rfl
  · subst h; rfl
  · subst h; rfl
  · obtain ⟨a, rfl, _⟩ := h; rfl
theorem is_cases {d e : D} {k : Bool} (h : dIs d e = some k) : (e = .non ∧ k = d.isNon) ∨ ∃ a b, d = .bl a ∧ e = .bl b ∧ k = (a == b) := by
  unfold dIs at h
  split at h <;> cases h
  · exact .inl ⟨rfl, rfl⟩
  · exact .inr ⟨_, _, rfl, rfl, rfl⟩
theorem cmp_is : CmpS fa X .Is .is := fun Z H x y d e k Q sz kx ky q hq pins s σ v u I rx ry => by
  rcases is_cases q with ⟨rfl, rfl⟩ | ⟨i, j, rfl, rfl, rfl⟩
  · have ey : y = .non := by simpa [Kid, Rep] using ky
    subst ey
    exact op_isN pins s σ H _ _ v u Q I rx ry ⟨rfl, by rw [kx.non]; exact hq⟩
  · have ex := kx.bl; have ey := ky.bl; subst ex ey
    refine op_is_bl pins s σ H _ _ v u Q I rx ry ⟨_, _, rfl, rfl, ?_⟩
    have z : decide (i = j) = (i == j) := by cases i <;> cases j <;> rfl
    rw [z]; exact hq
theorem cmp_isn : CmpS fa X .IsNot .isn := fun Z H x y d e k Q sz kx ky q hq pins s σ v u I rx ry => by
  have q' : (dIs d e).map not = some k := q
  obtain ⟨k', q2, rfl⟩ := Option.map_eq_some_iff.mp q'
  rcases is_cases q2 with ⟨rfl, rfl⟩ | ⟨i, j, rfl, rfl, rfl⟩
  · have ey : y = .non := by simpa [Kid, Rep] using ky
    subst ey
    exact op_notN pins s σ H _ _ v u Q I rx ry ⟨rfl, by rw [kx.non]; exact hq⟩
  · have ex := kx.bl; have ey := ky.bl; subst ex ey
    refine op_isnot_bl pins s σ H _ _ v u Q I rx ry ⟨_, _, rfl, rfl, ?_⟩
    have z : decide (i = j) = (i == j) := by cases i <;> cases j <;> rfl
    rw [z]; exact hq

theorem snd_cmp {op : CmpOp} {o : Cop} (ho : CmpS fa X op o) (ha : Snd fa ca X a da) (hb : Snd fa ca X b db) (hm : behindInMarks op b = false) : Snd fa ca X (.Compare a [op] [b] pos) (xCmp o da db) := fun W tk N H σ E Q s p => by
  refine of_pe (pe_cmpR (r := fun x y H' Q' => ∀ (pins : List (Addr × Obj)) (s : Shared) (σ : L2.St) (v u : Value), Inv X pins σ H' s → RelV x v → RelV y u → wpAny (model X.prog X.w) X.A (compareOp op v u) (EP X pins σ Q') X.xe s)
    (fun pins s σ H x y v u Q I rx ry h => h pins s σ v u I rx ry) (peE (e := a)) (peE (e := b)) hm) ?_
  show tE X a σ H _
  refine ha.bd tk s (Sub.refl _) p fun r x H1 e1 g1 r1 p1 => ?_
  refine hb.bd tk (s.grow g1) g1 p1 fun r' y H2 e2 g2 r2 p2 => ?_
  have k1 := (r1.kid s g1).sub (hide_mono g2 fun b o _ n => n) g2
  have k2 := r2.kid (s.grow g1) g2
  have g12 := g1.trans g2
  cases q : cmpD o r.d r'.d with
  | none => simp only [q] at p2; exact p2.elim
  | some z =>
    simp only [q] at p2
    exact ho (hide H2 (del N σ (r.kc ++ r'.kc))) H2 x y r.d r'.d z _ hide_sub (k1.sub (hide_dep mem_app_l) (Sub.refl _)) (k2.sub (hide_dep mem_app_r) (Sub.refl _)) q (p2 _ H2 g12 RR.bl)
theorem sndT_cmp {op : CmpOp} {o : Cop} (ho : CmpS fa X op o) (ha : Snd fa ca X a da) (hb : Snd fa ca X b db) (hm : behindInMarks op b = false) : SndT fa ca X (.Compare a [op] [b] pos) (tOf (xCmp o da db)) := fun W tk N H σ E Q s p => by
  refine of_pt (pt_cmpR (r := fun x y H' Q' => ∀ (pins : List (Addr × Obj)) (s : Shared) (σ : L2.St) (v u : Value), Inv X pins σ H' s → RelV x v → RelV y u → wpAny (model X.prog X.w) X.A (compareOp op v u) (EP X pins σ Q') X.xe s)
    (fun pins s σ H x y v u Q I rx ry h => h pins s σ v u I rx ry) (peE (e := a)) (peE (e := b)) hm) ?_
  show tE X a σ H _
  unfold tOf xCmp at p
  simp only [R.bd_assoc] at p
  refine ha.bd tk s (Sub.refl _) p fun r x H1 e1 g1 r1 p1 => ?_
  refine hb.bd tk (s.grow g1) g1 p1 fun r' y H2 e2 g2 r2 p2 => ?_
  have k1 := (r1.kid s g1).sub (hide_mono g2 fun b o _ n => n) g2
  have k2 := r2.kid (s.grow g1) g2
  have g12 := g1.trans g2
  cases q : cmpD o r.d r'.d with
  | none => simp only [q] at p2; exact p2.elim
  | some z =>
    simp only [q] at p2
    exact ho (hide H2 (del N σ (r.kc ++ r'.kc))) H2 x y r.d r'.d z _ hide_sub (k1.sub (hide_dep mem_app_l) (Sub.refl _)) (k2.sub (hide_dep mem_app_r) (Sub.refl _)) q ⟨z, rfl, p2 H2 g12⟩
end
end Rt
end
section
set_option linter.all false
set_option autoImplicit false
set_option Elab.async false
set_option maxRecDepth 100000
set_option maxHeartbeats 2000000
namespace Rt
open PySem PySem.Spec PyProof.Rows L2
section
variable {fa ca : Nat → Addr} {X : Cx} {a b c e : Expr} {da db dc : Ex} {ta tb tc : Tst} {pos : Pos}
/-! ### truth -/
theorem Kid.tru {K : PySem.W.Frag} {Z H : Hp} {x : V} {d : D} {k : Bool} (sz : Sub Z H) (h : Kid fa K Z H x d) (q : truth d = some k) : TruV K x H k := by
  cases d <;> simp only [truth, Option.some.injEq, reduceCtorEq] at q
  · subst q; have e : x = .non := by simpa [Kid, Rep] using h
    subst e; rfl
  · subst q; have e := h.bl; subst e; rfl
  · subst q; have e := h.int; subst e; rfl
  · split at q <;> cases q
    have e := h.str; subst e
    rename_i hl
    refine ⟨by rw [← line_eq]; exact hl, ?_⟩
    rename_i z
    by_cases q : z.length = 0
    · simp [q]
    · have : ((z.length : Int) != 0) = true := by simp; omega
      rw [this]; simp [q]
  · subst q
    obtain ⟨a, vs, rfl, h1, h2⟩ := h
    refine .inl ⟨vs, SqL.of h1, ?_⟩
    have l := h2.length
    rename_i ds
    cases ds <;> cases vs <;> simp at l ⊢
  · subst q
    have h' : Rep fa K Z (.tup _) _ := h
    simp only [Rep] at h'
    obtain ⟨a, vs, rfl, h1, h2⟩ := h'
    refine .inr (.inl ⟨vs, SqT.sub h1 sz, ?_⟩)
    have l := h2.length
    rename_i ds
    cases ds <;> cases vs <;> simp at l ⊢
/-- a test that is a value's truth -/
theorem sndT_val (ha : Snd fa ca X a da) (he : ∀ whole, isTrue a X.env whole = (do let v ← whole; standAt a.pos; holding [v] (truthy v))) : SndT fa ca X a (tOf da) := fun W tk N H σ E Q s p => by
  refine of_pt (pt_truth (peE (e := a)) he) ?_
  refine ha.bd tk s (Sub.refl _) p fun r x H1 e1 g1 r1 p1 => ?_
  have k1 := r1.kid s g1
  cases q : truth r.d with
  | none => simp only [q] at p1; exact p1.elim
  | some k =>
    simp only [q] at p1
    exact ⟨k, k1.tru hide_sub q, p1 H1 g1⟩
theorem sndT_not (ha : SndT fa ca X a ta) : SndT fa ca X (.UnaryOp .Not a pos) (tNot ta) := fun W tk N H σ E Q s p => by
  refine of_pt (pt_not (ptT (e := a))) ?_
  exact ha.bd tk s (Sub.refl _) p fun r H1 e1 g1 p1 => p1 H1 g1
/-- tests joined by and, or: whatever the whole is -/
def tW (X : Cx) (e : Expr) : TT := fun σ H Q => ∀ (whole : Sem Value) (pins : List (Addr × Obj)) (s : Shared), Inv X pins σ H s → wpAny (model X.prog X.w) X.A (isTrue e X.env whole) (TP X pins σ Q) X.xe s
theorem pwW : PW X e (tW X e) := ⟨fun whole pins s σ H Q I h => h whole pins s I⟩
def SndW (fa ca : Nat → Addr) (X : Cx) (e : Expr) (f : Tst) : Prop := ∀ (W : WX), Takes X W → ∀ (N : Addr → Prop) (H : Hp) (σ : L2.St) (E : Env) (Q : Bool → Hp → Prop), SR fa X.K N H σ E →
  Post ca W H σ (fun k => ∀ H', Sub H H' → Q k H') (f E) → tW X e σ H Q
theorem SndW.t (h : SndW fa ca X e ta) : SndT fa ca X e ta := fun W tk N H σ E Q s p => fun pins st I => h W tk N H σ E Q s p _ pins st I
theorem SndW.bd {β : Type} {P : β → Prop} {W : WX} {N : Addr → Prop} {H0 H : Hp} {σ : L2.St} {E : Env} {dt : Tst} {k : Bool → R β} {Q : Bool → Hp → Prop} (ha : SndW fa ca X a dt) (tk : Takes X W) (s : SR fa X.K N H σ E) (g : Sub H0 H)
    (h : Post ca W H0 σ P ((dt E).bd k)) (hk : ∀ r H1, dt E = .ok r → Sub H H1 → Post ca W H0 σ P (k r) → Q r H1) : tW X a σ H Q := by
  refine ha W tk N H σ E Q s ?_
  cases q : dt E with
  | ok r => rw [q] at h; exact fun H1 g1 => hk r H1 q g1 h
  | ex c x => rw [q] at h; exact fun dd H' g' ed => h dd H' (g.trans g') (ed.from g)
  | bad => rw [q] at h; exact h.elim
theorem sndW_and1 (ha : SndT fa ca X a ta) : SndW fa ca X (.BoolOp .And [a] pos) ta := fun W tk N H σ E Q s p => fun whole pins st I =>
  (pw_and1 (pos := pos) (ptT (e := a))).run whole pins st σ H Q I (ha W tk N H σ E Q s p)
theorem sndW_or1 (ha : SndT fa ca X a ta) : SndW fa ca X (.BoolOp .Or [a] pos) ta := fun W tk N H σ E Q s p => fun whole pins st I =>
  (pw_or1 (pos := pos) (ptT (e := a))).run whole pins st σ H Q I (ha W tk N H σ E Q s p)
theorem sndW_and {rest : List Expr} (ha : SndT fa ca X a ta) (hb : SndW fa ca X (.BoolOp .And (b :: rest) pos) tb) : SndW fa ca X (.BoolOp .And (a :: b :: rest) pos) (tAnd ta tb) := fun W tk N H σ E Q s p => fun whole pins st I => by
  refine (pw_and (ptT (e := a)) (pwW (e := .BoolOp .And (b :: rest) pos))).run whole pins st σ H Q I ?_
  refine ha.bd tk s (Sub.refl _) p fun r H1 e1 g1 p1 => ?_
  cases r with
  | true =>
    simp only [if_true] at p1 ⊢
    refine hb W tk N H1 σ E Q (s.grow g1) ?_
    cases q : tb E with
    | ok r => rw [q] at p1; exact fun H2 g2 => p1 H2 (g1.trans g2)
    | ex c x => rw [q] at p1; exact fun dd H' g' ed => p1 dd H' (g1.trans g') (ed.from g1)
    | bad => rw [q] at p1; exact p1.elim
  | false => exact p1 H1 g1
theorem sndW_or {rest : List Expr} (ha : SndT fa ca X a ta) (hb : SndW fa ca X (.BoolOp .Or (b :: rest) pos) tb) : SndW fa ca X (.BoolOp .Or (a :: b :: rest) pos) (tOr ta tb) := fun W tk N H σ E Q s p => fun whole pins st I => by
  refine (pw_or (ptT (e := a)) (pwW (e := .BoolOp .Or (b :: rest) pos))).run whole pins st σ H Q I ?_
  refine ha.bd tk s (Sub.refl _) p fun r H1 e1 g1 p1 => ?_
  cases r with
  | false =>
    simp only [Bool.false_eq_true, if_false] at p1 ⊢
    refine hb W tk N H1 σ E Q (s.grow g1) ?_
    cases q : tb E with
    | ok r => rw [q] at p1; exact fun H2 g2 => p1 H2 (g1.trans g2)
    | ex c x => rw [q] at p1; exact fun dd H' g' ed => p1 dd H' (g1.trans g') (ed.from g1)
    | bad => rw [q] at p1; exact p1.elim
  | true => exact p1 H1 g1
/-- behind a first step the second is asked from the later heap -/
theorem Post.later {W : WX} {H H1 : Hp} {σ : L2.St} {β : Type} {P P' : β → Prop} {r : R β} (g : Sub H H1) (p : Post ca W H σ P r) (k : ∀ b, r = .ok b → P b → P' b) : Post ca W H1 σ P' r := by
  cases r with
  | ok r => exact k _ rfl p
  | ex c x => exact fun dd H' g' ed => p dd H' (g.trans g') (ed.from g)
  | bad => exact p.elim
theorem snd_not (ha : Snd fa ca X a da) : Snd fa ca X (.UnaryOp .Not a pos) (xNot da) := fun W tk N H σ E Q s p => by
  refine of_pe (pe_notT (peE (e := a))) ?_
  refine ha.bd tk s (Sub.refl _) p fun r x H1 e1 g1 r1 p1 => ?_
  have k1 := r1.kid s g1
  cases q : truth r.d with
  | none => simp only [q] at p1; exact p1.elim
  | some k =>
    simp only [q] at p1
    exact ⟨k, k1.tru hide_sub q, p1 _ H1 g1 RR.bl⟩
theorem snd_one {op : BoolOp} (ha : Snd fa ca X a da) : Snd fa ca X (.BoolOp op [a] pos) da := fun W tk N H σ E Q s p => of_pe (pe_one (peE (e := a))) (ha W tk N H σ E Q s p)
theorem snd_and {rest : List Expr} (ha : Snd fa ca X a da) (hb : Snd fa ca X (.BoolOp .And (b :: rest) pos) db) : Snd fa ca X (.BoolOp .And (a :: b :: rest) pos) (xAnd da db) := fun W tk N H σ E Q s p => by
  refine of_pe (pe_andT (peE (e := a)) (peE (e := .BoolOp .And (b :: rest) pos))) ?_
  refine ha.bd tk s (Sub.refl _) p fun r x H1 e1 g1 r1 p1 => ?_
  have k1 := r1.kid s g1
  cases q : truth r.d with
  | none => simp only [q] at p1; exact p1.elim
  | some k =>
    refine ⟨k, k1.tru hide_sub q, ?_⟩
    cases k with
    | true =>
      simp only [q] at p1
      simp only [if_true]
      exact hb W tk N H1 σ E Q (s.grow g1) (p1.later g1 fun r _ h v H2 g2 rr => h v H2 (g1.trans g2) (rr.from g1))
    | false =>
      simp only [q] at p1
      simp only [Bool.false_eq_true, if_false]
      exact p1 x H1 g1 r1
theorem snd_or {rest : List Expr} (ha : Snd fa ca X a da) (hb : Snd fa ca X (.BoolOp .Or (b :: rest) pos) db) : Snd fa ca X (.BoolOp .Or (a :: b :: rest) pos) (xOr da db) := fun W tk N H σ E Q s p => by
  refine of_pe (pe_orT (peE (e := a)) (peE (e := .BoolOp .Or (b :: rest) pos))) ?_
  refine ha.bd tk s (Sub.refl _) p fun r x H1 e1 g1 r1 p1 => ?_
  have k1 := r1.kid s g1
  cases q : truth r.d with
  | none => simp only [q] at p1; exact p1.elim
  | some k =>
    refine ⟨k, k1.tru hide_sub q, ?_⟩
    cases k with
    | false =>
      simp only [q] at p1
      simp only [Bool.false_eq_true, if_false]
      exact hb W tk N H1 σ E Q (s.grow g1) (p1.later g1 fun r _ h v H2 g2 rr => h v H2 (g1.trans g2) (rr.from g1))
    | true =>
      simp only [q] at p1
      simp only [if_true]
      exact p1 x H1 g1 r1
theorem snd_if (hc : SndT fa ca X c tc) (ha : Snd fa ca X a da) (hb : Snd fa ca X b db) : Snd fa ca X (.IfExp c a b pos) (xIf tc da db) := fun W tk N H σ E Q s p => by
  refine of_pe (pe_ifExp (ptT (e := c)) (peE (e := a)) (peE (e := b))) ?_
  refine hc.bd tk s (Sub.refl _) p fun r H1 e1 g1 p1 => ?_
  cases r with
  | true =>
    simp only [if_true] at p1 ⊢
    exact ha W tk N H1 σ E Q (s.grow g1) (p1.later g1 fun r _ h v H2 g2 rr => h v H2 (g1.trans g2) (rr.from g1))
  | false =>
    simp only [Bool.false_eq_true, if_false] at p1 ⊢
    exact hb W tk N H1 σ E Q (s.grow g1) (p1.later g1 fun r _ h v H2 g2 rr => h v H2 (g1.trans g2) (rr.from g1))

/-! ### chains of comparisons -/
/-- each link with what it compares by -/
inductive Links (fa ca : Nat → Addr) (X : Cx) : List CmpOp → List Expr → List (Cop × Ex) → Prop
  | nil : Links fa ca X [] [] []
  | cons {op : CmpOp} {o : Cop} {e : Expr} {f : Ex} {ops : List CmpOp} {es : List Expr} {l : List (Cop × Ex)} : CmpS fa X op o → Snd fa ca X e f → Links fa ca X ops es l → Links fa ca X (op :: ops) (e :: es) ((o, f) :: l)
theorem links_chain : ∀ (l : List (Cop × Ex)) {ops : List CmpOp} {es : List Expr}, Links fa ca X ops es l → ∀ (r : Rv) (v : V) (u : Value) (W : WX), Takes X W → ∀ (N : Addr → Prop) (H0 H : Hp) (σ : L2.St) (E : Env) (Q : VK), SR fa X.K N H0 σ E → Sub H0 H → RR fa X.K N H0 H σ E v r → RelV v u →
    Post ca W H0 σ (fun r => ∀ v H', Sub H0 H' → RR fa X.K N H0 H' σ E v r → Q v H') (chainGo r l E) →
    ∀ (pins : List (Addr × Obj)) (s : Shared), Inv X pins σ H s → wpAny (model X.prog X.w) X.A (compareChain pos u ops (evalEach es X.env)) (EP X pins σ Q) X.xe s
  | [], _, _, h, r, v, u, W, tk, N, H0, H, σ, E, Q, s0, g, rr, rv, p, pins, s, I => p.elim
  | (o, f) :: l, _, _, h, r, v, u, W, tk, N, H0, H, σ, E, Q, s0, g, rr, rv, p, pins, s, I => by
    cases h with
    | @cons op _ e _ ops es _ ho hf hl =>
      have p' : Post ca W H0 σ (fun r => ∀ v H', Sub H0 H' → RR fa X.K N H0 H' σ E v r → Q v H') ((f E).bd fun s => match cmpD o r.d s.d with
          | some k => linkK l k (chainGo s l E)
          | none => .bad) := p
      cases hl with
      | nil =>
        show wpAny _ _ (compareChain pos u [op] [eval e X.env]) _ _ _
        refine chain_last ?_
        refine thn (hf.bd (Q := fun y H1 => ∃ r' k, Sub H H1 ∧ RR fa X.K N H0 H1 σ E y r' ∧ cmpD o r.d r'.d = some k ∧ Q (.bl k) H1) tk (s0.grow g) g p' (fun r' y H1 e1 g1 r1 p1 => ?_) pins s I) fun u1 s1 ⟨y, H1, I1, ry, r', k, g1, r1, q1, q2⟩ => ?_
        · have r1' := r1.from g
          cases q : cmpD o r.d r'.d with
          | none => simp only [q] at p1; exact p1.elim
          | some k =>
            simp only [q] at p1
            exact ⟨r', k, g1, r1', q, p1 _ H1 (g.trans g1) RR.bl⟩
        · have k1 := (rr.kid s0 g).sub (hide_mono g1 fun b o _ n => n) g1
          have k2 := r1.kid s0 (g.trans g1)
          exact ho (hide H1 (del N σ (r.kc ++ r'.kc))) H1 v y r.d r'.d k Q hide_sub (k1.sub (hide_dep mem_app_l) (Sub.refl _)) (k2.sub (hide_dep mem_app_r) (Sub.refl _)) q1 q2 pins s1 σ u u1 I1 rv ry
      | @cons op' o' e' f' ops' es' l' ho' hf' hl' =>
        show wpAny _ _ (compareChain pos u (op :: op' :: ops') (eval e X.env :: eval e' X.env :: evalEach es' X.env)) _ _ _
        refine chain_link ?_
        refine thn (hf.bd (Q := fun y H1 => ∃ r' k, Sub H H1 ∧ RR fa X.K N H0 H1 σ E y r' ∧ cmpD o r.d r'.d = some k ∧
            Post ca W H0 σ (fun r => ∀ v H', Sub H0 H' → RR fa X.K N H0 H' σ E v r → Q v H') (match k with | true => chainGo r' ((o', f') :: l') E | false => .ok ⟨.bl false, .fz, []⟩)) tk (s0.grow g) g p' (fun r' y H1 e1 g1 r1 p1 => ?_) pins s I) fun u1 s1 ⟨y, H1, I1, ry, r', k, g1, r1, q1, q2⟩ => ?_
        · have r1' := r1.from g
          cases q : cmpD o r.d r'.d with
          | none => simp only [q] at p1; exact p1.elim
          | some k =>
            simp only [q] at p1
            exact ⟨r', k, g1, r1', q, by cases k <;> exact p1⟩
        · have k1 := (rr.kid s0 g).sub (hide_mono g1 fun b o _ n => n) g1
          have k2 := r1.kid s0 (g.trans g1)
          refine thn (ho (hide H1 (del N σ (r.kc ++ r'.kc))) H1 v y r.d r'.d k (fun z H2 => z = .bl k ∧ H2 = H1) hide_sub (k1.sub (hide_dep mem_app_l) (Sub.refl _)) (k2.sub (hide_dep mem_app_r) (Sub.refl _)) q1 ⟨rfl, rfl⟩ pins s1 σ u u1 I1 rv ry) fun c s2 ⟨z, H2, I2, rz, e1, e2⟩ => ?_
          subst e1 e2
          cases rz
          refine wpAny_truthy_bool ?_
          cases k with
          | false => exact ite_ff ⟨.bl false, _, I2, rfl, q2 _ _ (g.trans g1) RR.bl⟩
          | true => exact ite_tt (links_chain ((o', f') :: l') (.cons ho' hf' hl') r' y u1 W tk N H0 _ σ E Q s0 (g.trans g1) r1 ry q2 pins s2 I2)
theorem snd_chain {op op' : CmpOp} {ops : List CmpOp} {es : List Expr} {l : List (Cop × Ex)} (ha : Snd fa ca X a da) (hl : Links fa ca X (op :: op' :: ops) (b :: c :: es) l) (hm : lastMarks (op :: op' :: ops) (b :: c :: es) = false) :
    Snd fa ca X (.Compare a (op :: op' :: ops) (b :: c :: es) pos) (xChain da l) := fun W tk N H σ E Q s p pins st I => by
  refine Compare_chain ?_ hm
  refine thn (ha.bd (Q := fun x H1 => ∃ r, Sub H H1 ∧ RR fa X.K N H H1 σ E x r ∧ Post ca W H σ (fun r => ∀ v H', Sub H H' → RR fa X.K N H H' σ E v r → Q v H') (chainGo r l E)) tk s (Sub.refl _) p (fun r x H1 e1 g1 r1 p1 => ⟨r, g1, r1, p1⟩) pins st I) fun u s1 ⟨x, H1, I1, rx, r, g1, r1, p1⟩ => ?_
  exact links_chain l hl r x u W tk N H H1 σ E Q s g1 r1 rx p1 pins s1 I1
theorem links_test : ∀ (l : List (Cop × Ex)) {ops : List CmpOp} {es : List Expr}, Links fa ca X ops es l → ∀ (r : Rv) (v : V) (u : Value) (W : WX), Takes X W → ∀ (N : Addr → Prop) (H0 H : Hp) (σ : L2.St) (E : Env) (Q : Bool → Hp → Prop), SR fa X.K N H0 σ E → Sub H0 H → RR fa X.K N H0 H σ E v r → RelV v u →
    Post ca W H0 σ (fun k => ∀ H', Sub H0 H' → Q k H') ((chainGo r l E).bd fun r => R.op (truth r.d)) →
    ∀ (pins : List (Addr × Obj)) (s : Shared), Inv X pins σ H s → wpAny (model X.prog X.w) X.A (testChain pos u ops (evalEach es X.env)) (TP X pins σ Q) X.xe s
  | [], _, _, h, r, v, u, W, tk, N, H0, H, σ, E, Q, s0, g, rr, rv, p, pins, s, I => p.elim
  | (o, f) :: l, _, _, h, r, v, u, W, tk, N, H0, H, σ, E, Q, s0, g, rr, rv, p, pins, s, I => by
    cases h with
    | @cons op _ e _ ops es _ ho hf hl =>
      have p' : Post ca W H0 σ (fun k => ∀ H', Sub H0 H' → Q k H') ((f E).bd fun s => (match cmpD o r.d s.d with
          | some k => linkK l k (chainGo s l E)
          | none => .bad).bd fun r => R.op (truth r.d)) := by
        have q := p
        unfold chainGo at q
        rw [R.bd_assoc] at q
        exact q
      cases hl with
      | nil =>
        show wpAny _ _ (testChain pos u [op] [eval e X.env]) _ _ _
        refine test_last ?_
        refine thn (hf.bd (Q := fun y H1 => ∃ r' k, Sub H H1 ∧ RR fa X.K N H0 H1 σ E y r' ∧ cmpD o r.d r'.d = some k ∧ Q k H1) tk (s0.grow g) g p' (fun r' y H1 e1 g1 r1 p1 => ?_) pins s I) fun u1 s1 ⟨y, H1, I1, ry, r', k, g1, r1, q1, q2⟩ => ?_
        · have r1' := r1.from g
          cases q : cmpD o r.d r'.d with
          | none => simp only [q] at p1; exact p1.elim
          | some k =>
            simp only [q] at p1
            exact ⟨r', k, g1, r1', q, p1 H1 (g.trans g1)⟩
        · have k1 := (rr.kid s0 g).sub (hide_mono g1 fun b o _ n => n) g1
          have k2 := r1.kid s0 (g.trans g1)
          refine thn (ho (hide H1 (del N σ (r.kc ++ r'.kc))) H1 v y r.d r'.d k (fun z H2 => z = .bl k ∧ H2 = H1) hide_sub (k1.sub (hide_dep mem_app_l) (Sub.refl _)) (k2.sub (hide_dep mem_app_r) (Sub.refl _)) q1 ⟨rfl, rfl⟩ pins s1 σ u u1 I1 rv ry) fun c s2 ⟨z, H2, I2, rz, e1, e2⟩ => ?_
          subst e1 e2
          cases rz
          exact wpAny_truthy_bool ⟨_, I2, q2⟩
      | @cons op' o' e' f' ops' es' l' ho' hf' hl' =>
        show wpAny _ _ (testChain pos u (op :: op' :: ops') (eval e X.env :: eval e' X.env :: evalEach es' X.env)) _ _ _
        refine test_link ?_
        refine thn (hf.bd (Q := fun y H1 => ∃ r' k, Sub H H1 ∧ RR fa X.K N H0 H1 σ E y r' ∧ cmpD o r.d r'.d = some k ∧
            Post ca W H0 σ (fun k => ∀ H', Sub H0 H' → Q k H') (match k with | true => (chainGo r' ((o', f') :: l') E).bd fun r => R.op (truth r.d) | false => .ok false)) tk (s0.grow g) g p' (fun r' y H1 e1 g1 r1 p1 => ?_) pins s I) fun u1 s1 ⟨y, H1, I1, ry, r', k, g1, r1, q1, q2⟩ => ?_
        · have r1' := r1.from g
          cases q : cmpD o r.d r'.d with
          | none => simp only [q] at p1; exact p1.elim
          | some k =>
            simp only [q] at p1
            exact ⟨r', k, g1, r1', q, by cases k <;> exact p1⟩
        · have k1 := (rr.kid s0 g).sub (hide_mono g1 fun b o _ n => n) g1
          have k2 := r1.kid s0 (g.trans g1)
          refine thn (ho (hide H1 (del N σ (r.kc ++ r'.kc))) H1 v y r.d r'.d k (fun z H2 => z = .bl k ∧ H2 = H1) hide_sub (k1.sub (hide_dep mem_app_l) (Sub.refl _)) (k2.sub (hide_dep mem_app_r) (Sub.refl _)) q1 ⟨rfl, rfl⟩ pins s1 σ u u1 I1 rv ry) fun c s2 ⟨z, H2, I2, rz, e1, e2⟩ => ?_
          subst e1 e2
          cases rz
          refine wpAny_truthy_bool ?_
          cases k with
          | false => exact ite_ff ⟨_, I2, q2 _ (g.trans g1)⟩
          | true => exact ite_tt (links_test ((o', f') :: l') (.cons ho' hf' hl') r' y u1 W tk N H0 _ σ E Q s0 (g.trans g1) r1 ry q2 pins s2 I2)
theorem sndT_chain {op op' : CmpOp} {ops : List CmpOp} {es : List Expr} {l : List (Cop × Ex)} (ha : Snd fa ca X a da) (hl : Links fa ca X (op :: op' :: ops) (b :: c :: es) l) (hm : lastMarks (op :: op' :: ops) (b :: c :: es) = false) :
    SndT fa ca X (.Compare a (op :: op' :: ops) (b :: c :: es) pos) (tOf (xChain da l)) := fun W tk N H σ E Q s p pins st I => by
  refine isTrue_chain ?_ hm
  have p' : Post ca W H σ (fun k => ∀ H', Sub H H' → Q k H') ((da E).bd fun r => (chainGo r l E).bd fun r => R.op (truth r.d)) := by
    unfold tOf xChain at p
    rw [R.bd_assoc] at p
    exact p
  refine thn (ha.bd (Q := fun x H1 => ∃ r, Sub H H1 ∧ RR fa X.K N H H1 σ E x r ∧ Post ca W H σ (fun k => ∀ H', Sub H H' → Q k H') ((chainGo r l E).bd fun r => R.op (truth r.d))) tk s (Sub.refl _) p' (fun r x H1 e1 g1 r1 p1 => ⟨r, g1, r1, p1⟩) pins st I) fun u s1 ⟨x, H1, I1, rx, r, g1, r1, p1⟩ => ?_
  exact links_test l hl r x u W tk N H H1 σ E Q s g1 r1 rx p1 pins s1 I1
end
end Rt
end
section
set_option linter.all false
set_option autoImplicit false
set_option Elab.async false
set_option maxRecDepth 100000
set_option maxHeartbeats 2000000
namespace Rt
open PySem PySem.Spec PyProof.Rows L2
def notStar : Expr → Bool
  | .Starred _ _ => false
  | _ => true
theorem star_cons {e : Expr} {es : List Expr} {env : PySem.Env} (h : notStar e = true) : starEach (e :: es) env = (false, eval e env) :: starEach es env := by
  cases e <;> first | rfl | exact absurd h (by simp [notStar])
theorem noStar_any {pos : Pos} {env : PySem.Env} : ∀ {es : List Expr}, es.all notStar = true → (backTo pos (starEach es env)).any (·.1) = false
  | [], _ => rfl
  | e :: es, h => by
    simp only [List.all_cons, Bool.and_eq_true] at h
    rw [star_cons h.1]
    have ih := noStar_any (pos := pos) (env := env) h.2
    unfold backTo at ih ⊢
    simp only [List.map_cons, List.any_cons, Bool.false_or]
    exact ih
section
variable {fa ca : Nat → Addr} {X : Cx} {a b c e : Expr} {da db dc : Ex} {ta tb tc : Tst} {pos : Pos}
/-! ### argument lists, displays -/
theorem RRL.grow {N : Addr → Prop} {H H' H2 : Hp} {σ : L2.St} {E : Env} : ∀ {rs : List Rv} {vs : List V}, RRL fa X N H H' σ E vs rs → Sub H' H2 → RRL fa X N H H2 σ E vs rs
  | [], _, h, _ => h
  | r :: rs, vs, h, g => by
    obtain ⟨v, us, e, h1, h2⟩ := h
    exact ⟨v, us, e, h1.grow g, RRL.grow h2 g⟩
theorem RRL.from {N : Addr → Prop} {H H' H2 : Hp} {σ : L2.St} {E : Env} (g : Sub H H') : ∀ {rs : List Rv} {vs : List V}, RRL fa X N H' H2 σ E vs rs → RRL fa X N H H2 σ E vs rs
  | [], _, h => h
  | r :: rs, vs, h => by
    obtain ⟨v, us, e, h1, h2⟩ := h
    exact ⟨v, us, e, h1.from g, RRL.from g h2⟩
theorem sndA_nil : SndA fa ca X [] [] := fun W tk N H σ E Q s p => of_pa pa_nil (p [] H (Sub.refl _) rfl)
theorem sndA_cons {es : List Expr} {fs : List Ex} (hs : notStar e = true) (ha : Snd fa ca X e da) (hr : SndA fa ca X es fs) : SndA fa ca X (e :: es) (da :: fs) := fun W tk N H σ E Q s p => by
  refine of_pa (pa_cons (peE (e := e)) (paA (es := es)) (star_cons hs)) ?_
  unfold evs at p
  refine ha.bd tk s (Sub.refl _) p fun r x H1 e1 g1 r1 p1 => ?_
  refine hr.bd tk (s.grow g1) g1 p1 fun rs xs H2 e2 g2 r2 p2 => ?_
  exact p2 (x :: xs) H2 (g1.trans g2) ⟨x, xs, rfl, r1.grow g2, r2.from g1⟩
theorem rrl_all {N : Addr → Prop} {H H' : Hp} {σ : L2.St} {E : Env} (s : SR fa X.K N H σ E) (g : Sub H H') : ∀ {rs : List Rv} {vs : List V} (q : List Nat), RRL fa X N H H' σ E vs rs → (∀ i ∈ kpL rs, i ∈ q) → RepL fa X.K (hide H' (del N σ q)) (dL rs) vs
  | [], _, q, h, _ => by simp only [RRL] at h; subst h; simp [dL, RepL]
  | r :: rs, vs, q, h, k => by
    obtain ⟨v, us, e, h1, h2⟩ := h
    subst e
    refine RepL.cons_ (Rep.sub (hide_dep fun i hi => k i ?_) _ _ (h1.all s g)) (rrl_all s g q h2 fun i hi => k i ?_)
    · simp only [kpL, List.map_cons, List.flatten_cons, List.mem_append]; exact .inl hi
    · simp only [kpL, List.map_cons, List.flatten_cons, List.mem_append]; exact .inr hi
theorem sndD_nil : SndD fa ca X [] [] := fun W tk N H σ E Q s p => of_pa pa_nil (p [] H (Sub.refl _) (by simp [RepL]))
theorem sndD_cons {es : List Expr} {fs : List (Bool × Ex)} (hs : notStar e = true) (ha : Snd fa ca X e da) (hr : SndD fa ca X es fs) : SndD fa ca X (e :: es) ((false, da) :: fs) := fun W tk N H σ E Q s p => by
  refine of_pa (pa_cons (peE (e := e)) (paA (es := es)) (star_cons hs)) ?_
  unfold spread at p
  refine ha.bd tk s (Sub.refl _) p fun r x H1 e1 g1 r1 p1 => ?_
  refine hr.bd tk (s.grow g1) g1 p1 fun q xs H2 e2 g2 r2 p2 => ?_
  refine p2 (x :: xs) H2 (g1.trans g2) (RepL.cons_ ?_ (RepL.sub (hide_dep mem_app_r) _ _ r2))
  exact Rep.sub (fun b o q => hide_mono g2 (fun b o _ n => del_anti mem_app_l n) b o q) _ _ (r1.all s g1)
theorem sndD_star {es : List Expr} {fs : List (Bool × Ex)} {p0 : Pos} (ha : Snd fa ca X e da) (hr : SndD fa ca X es fs) : SndD fa ca X (.Starred e p0 :: es) ((true, da) :: fs) := fun W tk N H σ E Q s p => by
  refine of_pa (StX.pa_star (peE (e := e)) (paA (es := es))) ?_
  unfold spread at p
  refine ha.bd tk s (Sub.refl _) p fun r x H1 e1 g1 r1 p1 => ?_
  have k1 := r1.kid s g1
  revert p1 k1
  cases hd : r.d <;> intro p1 k1 <;> simp only [] at p1 <;> try exact p1.elim
  · obtain ⟨a, vs, rfl, h1, h2⟩ := k1
    refine ⟨a, vs, rfl, .inr (SqL.of h1), ?_⟩
    refine hr.bd tk (s.grow g1) g1 p1 fun q xs H2 e2 g2 r2 p2 => ?_
    exact p2 (vs ++ xs) H2 (g1.trans g2) (RepL.append (RepL.sub (hide_mono g2 fun b o _ n => del_anti mem_app_l n) _ _ h2) (RepL.sub (hide_dep mem_app_r) _ _ r2))
  · have k2 : Rep fa X.K _ (.tup _) x := k1
    simp only [Rep] at k2
    obtain ⟨a, vs, rfl, h1, h2⟩ := k2
    refine ⟨a, vs, rfl, .inl (SqT.sub h1 hide_sub), ?_⟩
    refine hr.bd tk (s.grow g1) g1 p1 fun q xs H2 e2 g2 r2 p2 => ?_
    exact p2 (vs ++ xs) H2 (g1.trans g2) (RepL.append (RepL.sub (hide_mono g2 fun b o _ n => del_anti mem_app_l n) _ _ h2) (RepL.sub (hide_dep mem_app_r) _ _ r2))
theorem snd_lst {es : List Expr} {fs : List (Bool × Ex)} (h : SndD fa ca X es fs) : Snd fa ca X (.List es pos) (xLst fs) := fun W tk N H σ E Q s p => by
  refine of_pe (pe_lst (paA (es := es))) ?_
  refine h.bd tk s (Sub.refl _) p fun q xs H1 e1 g1 r1 p1 => ?_
  split at p1
  · rename_i hl
    refine ⟨by rw [← line_eq, ← r1.length]; exact hl, fun l nl => p1 _ _ (g1.trans (sub_upd nl)) ?_⟩
    exact rr_mkN s (g1.trans (sub_upd nl)) (g1.none nl) ⟨xs, upd_same, RepL.sub (fun b o z => by
      have ne : b ≠ l := ne_of_none z (Sub.none hide_sub nl)
      unfold hide at z ⊢
      split at z
      · cases z
      · rename_i n
        rw [if_neg fun w => w.elim n ne, upd_ne ne]
        exact z) _ _ r1⟩
  · exact p1.elim
theorem snd_tup {es : List Expr} {fs : List (Bool × Ex)} {k : Nat} (h : SndD fa ca X es fs) : Snd fa ca X (.Tuple es k pos) (xTup fs) := fun W tk N H σ E Q s p => by
  refine of_pe (pe_tup (paA (es := es))) ?_
  refine h.bd tk s (Sub.refl _) p fun q xs H1 e1 g1 r1 p1 => ?_
  split at p1
  · rename_i hl
    refine ⟨by rw [← line_eq, ← r1.length]; exact hl, fun l nl => p1 _ _ (g1.trans (sub_upd nl)) ?_⟩
    refine rr_mkF s (g1.trans (sub_upd nl)) ?_
    simp only [Rep]
    refine ⟨l, xs, rfl, SqT.of ?_, RepL.sub (hide_mono (sub_upd nl) fun b o _ n => n) _ _ r1⟩
    rw [hide_at fun n => ?_, upd_same]
    obtain ⟨o, z, _⟩ := s.sub l n.1
    rw [g1.none nl] at z; cases z
  · exact p1.elim

/-! ### calls of the text's own defs -/
/-- what a def hands back: U is hidden from it -/
def RetR (fa : Nat → Addr) (K : PySem.W.Frag) (U : Addr → Prop) (H H' : Hp) (v : V) (d : D) : Bool → Prop
  | false => Rep fa K (hide H' U) d v
  | true => ∃ a, v = .ref a ∧ H a = none ∧ Top fa K (hide H' fun b => U b ∨ b = a) H' a d
/-- the def at f may be called -/
structure CallS (fa ca : Nat → Addr) (X : Cx) (f : Addr) (F : Fn) : Prop where
  keep : PySem.W.keepIn X.K (.ref f) = true
  run : ∀ (W : WX), Takes X W → ∀ (pins : List (Addr × Obj)) (s : Shared) (σ : L2.St) (H : Hp) (vs : List V) (us : List Value) (Q : VK) (U : Addr → Prop) (ds : List D), Inv X pins σ H s → Vals vs us →
    (∀ b, U b → ∃ o, H b = some o ∧ Mb o) → RepL fa X.K (hide H U) ds vs → Post ca W H σ (fun p => ∀ v H', Sub H H' → RetR fa X.K U H H' v p.1 p.2 → Q v H') (F ds) →
    wpAny (model X.prog X.w) X.A (call (.ref f) us) (EP X pins σ Q) X.xe s
theorem call_args {f : Addr} {F : Fn} (hS : CallS fa ca X f F) {W : WX} (tk : Takes X W) {N : Addr → Prop} {H H1 : Hp} {σ : L2.St} {E : Env} {Q : VK} (s : SR fa X.K N H σ E) (g : Sub H H1) {rs : List Rv} {vs : List V} (r : RRL fa X N H H1 σ E vs rs)
    (p : Post ca W H σ (fun r => ∀ v H', Sub H H' → RR fa X.K N H H' σ E v r → Q v H') ((F (dL rs)).bd fun p => .ok (mk p.2 p.1 (kpL rs))))
    {pins : List (Addr × Obj)} {st : Shared} {us : List Value} (I : Inv X pins σ H1 st) (rv : Vals vs us) : wpAny (model X.prog X.w) X.A (call (.ref f) us) (EP X pins σ Q) X.xe st := by
  have mb : ∀ b, del N σ (kpL rs) b → ∃ o, H1 b = some o ∧ Mb o := fun b n => by
    obtain ⟨o, e, m⟩ := s.sub b n.1
    exact ⟨o, g _ _ e, m⟩
  refine hS.run W tk pins st σ H1 vs us Q (del N σ (kpL rs)) (dL rs) I rv mb (rrl_all s g _ r fun i h => h) ?_
  cases q : F (dL rs) with
  | ok pr =>
    obtain ⟨d, fr⟩ := pr
    rw [q] at p
    refine fun v H' g' rr => p v H' (g.trans g') ?_
    cases fr with
    | false => exact rr_mkF s (g.trans g') rr
    | true =>
      obtain ⟨a, rfl, n, t⟩ := rr
      exact rr_mkN s (g.trans g') (g.none n) t
  | ex c x => rw [q] at p; exact fun dd H' g' ed => p dd H' (g.trans g') (ed.from g)
  | bad => rw [q] at p; exact p.elim
/-- the value of an expression is called -/
theorem snd_callW {f : Addr} {F : Fn} {es : List Expr} {fs : List Ex} (hS : CallS fa ca X f F) (ha : SndA fa ca X es fs) (hst : es.all notStar = true) (hne : es ≠ []) {W : WX} (tk : Takes X W) {N : Addr → Prop} {H0 H : Hp} {σ : L2.St} {E : Env} {Q : VK} (s : SR fa X.K N H0 σ E) (g : Sub H0 H)
    (p : Post ca W H0 σ (fun r => ∀ v H', Sub H0 H' → RR fa X.K N H0 H' σ E v r → Q v H') (xCall F fs E)) {pins : List (Addr × Obj)} {st : Shared} (I : Inv X pins σ H st) :
    wpAny (model X.prog X.w) X.A (callWith pos (.ref f) [] (backTo pos (starEach es X.env)) []) (EP X pins σ Q) X.xe st := by
  unfold xCall at p
  have step : tA X es σ H fun vs H1 => ∃ rs, Sub H0 H1 ∧ RRL fa X N H0 H1 σ E vs rs ∧ Post ca W H0 σ (fun r => ∀ v H', Sub H0 H' → RR fa X.K N H0 H' σ E v r → Q v H') ((F (dL rs)).bd fun p => .ok (mk p.2 p.1 (kpL rs))) :=
    ha.bd tk (s.grow g) g p fun rs vs H1 e1 g1 r1 p1 => ⟨rs, g.trans g1, r1.from g, p1⟩
  cases es with
  | nil => exact absurd rfl hne
  | cons e es =>
    simp only [List.all_cons, Bool.and_eq_true] at hst
    refine PySem.W.callWith_K (h₀ := X.base) I.ok.mod.kin hS.keep (thn (step pos pins st I) fun us s1 ⟨vs, H1, I1, rv, rs, g1, r1, p1⟩ => ⟨I1.kIn, ?_⟩) (star_cons hst.1) (noStar_any hst.2)
    exact call_args hS tk s g1 r1 p1 I1 rv
theorem snd_callW0 {f : Addr} {F : Fn} (hS : CallS fa ca X f F) {W : WX} (tk : Takes X W) {N : Addr → Prop} {H0 H : Hp} {σ : L2.St} {E : Env} {Q : VK} (s : SR fa X.K N H0 σ E) (g : Sub H0 H)
    (p : Post ca W H0 σ (fun r => ∀ v H', Sub H0 H' → RR fa X.K N H0 H' σ E v r → Q v H') (xCall F [] E)) {pins : List (Addr × Obj)} {st : Shared} (I : Inv X pins σ H st) :
    wpAny (model X.prog X.w) X.A (callWith pos (.ref f) [] (backTo pos (starEach [] X.env)) []) (EP X pins σ Q) X.xe st :=
  PySem.W.callWith_K0 I.kIn hS.keep (call_args hS tk s g (rs := []) (vs := []) rfl p I .nil)
/-- f(..), f a def of the text -/
theorem snd_call {f : Addr} {F : Fn} {x : Str} {p0 : Pos} {es : List Expr} {fs : List Ex} (hS : CallS fa ca X f F) (hg : Gl X x) (hm : X.mg x = some (.ref f)) (hdb : (x == ("__debug__" : Str)) = false) (ha : SndA fa ca X es fs) (hst : es.all notStar = true) (hne : es ≠ []) :
    Snd fa ca X (.Call (.Name x p0) es [] pos) (xCall F fs) := fun W tk N H σ E Q s p pins st I => by
  refine wpAny_Call_Name_kw (ld_glob I hg hm ?_ hdb)
  exact snd_callW hS ha hst hne tk s (Sub.refl _) p I
theorem snd_call0 {f : Addr} {F : Fn} {x : Str} {p0 : Pos} (hS : CallS fa ca X f F) (hg : Gl X x) (hm : X.mg x = some (.ref f)) (hdb : (x == ("__debug__" : Str)) = false) :
    Snd fa ca X (.Call (.Name x p0) [] [] pos) (xCall F []) := fun W tk N H σ E Q s p pins st I => by
  refine wpAny_Call_Name_kw (ld_glob I hg hm ?_ hdb)
  exact snd_callW0 hS tk s (Sub.refl _) p I
/-- the value of e(..) where e is no name and no field -/
theorem snd_callV {n : Nat} {call_ : Nat → Fn} {es : List Expr} {fs : List Ex} (hS : ∀ i, i < n → CallS fa ca X (fa i) (call_ i)) (hg : Snd fa ca X e da) (ha : SndA fa ca X es fs) (hst : es.all notStar = true) (hne : es ≠ [])
    (he : eval (.Call e es [] pos) X.env = (do callWith pos (← eval e X.env) [] (backTo pos (starEach es X.env)) (backToKw pos (keywordEach [] X.env)))) :
    Snd fa ca X (.Call e es [] pos) (xCallV n call_ da fs) := fun W tk N H σ E Q s p pins st I => by
  refine Call_ ?_ he
  unfold xCallV at p
  refine thn (hg.bd (Q := fun v H1 => ∃ i, i < n ∧ v = .ref (fa i) ∧ Sub H H1 ∧ Post ca W H σ (fun r => ∀ v H', Sub H H' → RR fa X.K N H H' σ E v r → Q v H') (xCall (call_ i) fs E)) tk s (Sub.refl _) p (fun r x H1 e1 g1 r1 p1 => ?_) pins st I) fun u s1 ⟨x, H1, I1, rx, i, lt, ei, g1, p1⟩ => ?_
  · have k1 := r1.kid s g1
    revert p1 k1
    cases r.d <;> intro p1 k1 <;> simp only [] at p1 <;> try exact p1.elim
    split at p1
    · rename_i lt
      exact ⟨_, lt, by simpa [Kid, Rep] using k1, g1, p1⟩
    · exact p1.elim
  · subst ei
    cases rx
    exact snd_callW (hS i lt) ha hst hne tk s g1 p1 I1
end
end Rt
end
section
set_option linter.all false
set_option autoImplicit false
set_option Elab.async false
set_option maxRecDepth 100000
set_option maxHeartbeats 2000000
namespace Rt
open PySem PySem.Spec PyProof.Rows L2
section
variable {fa ca : Nat → Addr} {X : Cx} {a b c e : Expr} {da db dc : Ex} {ta tb tc : Tst} {pos : Pos}
/-! ### built-ins by values -/
def KidL (fa : Nat → Addr) (K : PySem.W.Frag) (Z H : Hp) : List V → List D → Prop
  | vs, [] => vs = []
  | vs, d :: ds => ∃ v us, vs = v :: us ∧ Kid fa K Z H v d ∧ KidL fa K Z H us ds
def BiS (fa : Nat → Addr) (X : Cx) (g : Value) (f : List D → Option (D × Bool)) : Prop :=
  ∀ (Z H : Hp) (vs : List V) (ds : List D) (r : D) (fr : Bool) (Q : VK), Sub Z H → KidL fa X.K Z H vs ds → f ds = some (r, fr) → (∀ z H2, NewR fa X.K Z H H2 fr r z → Q z H2) →
    ∀ (pins : List (Addr × Obj)) (s : Shared) (σ : L2.St) (us : List Value), Inv X pins σ H s → Vals vs us → wpAny (model X.prog X.w) X.A (call g us) (EP X pins σ Q) X.xe s
theorem rrl_kid {N : Addr → Prop} {H H' : Hp} {σ : L2.St} {E : Env} (s : SR fa X.K N H σ E) (g : Sub H H') : ∀ {rs : List Rv} {vs : List V} (q : List Nat), RRL fa X N H H' σ E vs rs → (∀ i ∈ kcL rs, i ∈ q) → KidL fa X.K (hide H' (del N σ q)) H' vs (dL rs)
  | [], _, q, h, _ => h
  | r :: rs, vs, q, h, k => by
    obtain ⟨v, us, e, h1, h2⟩ := h
    refine ⟨v, us, e, (h1.kid s g).sub (hide_dep fun i hi => k i ?_) (Sub.refl _), rrl_kid s g q h2 fun i hi => k i ?_⟩
    · simp only [kcL, List.map_cons, List.flatten_cons, List.mem_append]; exact .inl hi
    · simp only [kcL, List.map_cons, List.flatten_cons, List.mem_append]; exact .inr hi
/-- a call whose function is a built-in value -/
theorem snd_biG {g : Value} {f : List D → Option (D × Bool)} {x : Str} {p0 : Pos} {es : List Expr} {fs : List Ex} (hb : BiS fa X g f)
    (rule : ∀ {t : TA}, PA X es t → PE X (.Call (.Name x p0) es [] pos) (tCB (fun vs H' Q' => ∀ (pins : List (Addr × Obj)) (s : Shared) (σ : L2.St) (us : List Value), Inv X pins σ H' s → Vals vs us → wpAny (model X.prog X.w) X.A (call g us) (EP X pins σ Q') X.xe s) t))
    (ha : SndA fa ca X es fs) : Snd fa ca X (.Call (.Name x p0) es [] pos) (xBi f fs) := fun W tk N H σ E Q s p => by
  refine of_pe (rule (paA (es := es))) ?_
  unfold xBi at p
  refine ha.bd tk s (Sub.refl _) p fun rs vs H1 e1 g1 r1 p1 => ?_
  cases q : f (dL rs) with
  | none => simp only [q] at p1; exact p1.elim
  | some z =>
    obtain ⟨d, fr⟩ := z
    simp only [q] at p1
    exact hb (hide H1 (del N σ (kcL rs))) H1 vs (dL rs) d fr _ hide_sub (rrl_kid s g1 _ r1 fun i h => h) q fun z H2 nr => p1 z H2 (g1.trans nr.1) (nr.rr s g1)
theorem snd_bi {id : String} {f : List D → Option (D × Bool)} {x : Str} {p0 : Pos} {es : List Expr} {fs : List Ex} (hb : BiS fa X (.builtin id) f) (hg : Gl X x) (hm : X.mg x = none) (hv : bootBuiltins x = some (.builtin id)) (hn : x ≠ "__name__") (hdb : (x == ("__debug__" : Str)) = false)
    (ha : SndA fa ca X es fs) (hst : es.all notStar = true) (hne : es ≠ []) : Snd fa ca X (.Call (.Name x p0) es [] pos) (xBi f fs) := by
  cases es with
  | nil => exact absurd rfl hne
  | cons e es =>
    simp only [List.all_cons, Bool.and_eq_true] at hst
    exact snd_biG hb (fun h => pe_callB (fun pins s σ H xs us Q I r q => q pins s σ us I r) hg hm hv h hn hdb (star_cons hst.1) (noStar_any hst.2)) ha
theorem snd_biT {id : String} {f : List D → Option (D × Bool)} {x : Str} {p0 : Pos} {es : List Expr} {fs : List Ex} (hb : BiS fa X (.type id) f) (hg : Gl X x) (hm : X.mg x = none) (hv : bootBuiltins x = some (.type id)) (hn : x ≠ "__name__") (hdb : (x == ("__debug__" : Str)) = false)
    (ha : SndA fa ca X es fs) (hst : es.all notStar = true) (hne : es ≠ []) : Snd fa ca X (.Call (.Name x p0) es [] pos) (xBi f fs) := by
  cases es with
  | nil => exact absurd rfl hne
  | cons e es =>
    simp only [List.all_cons, Bool.and_eq_true] at hst
    exact snd_biG hb (fun h => pe_callTy (fun pins s σ H xs us Q I r q => q pins s σ us I r) hg hm hv h hn hdb (star_cons hst.1) (noStar_any hst.2)) ha
theorem snd_biM {id : String} {f : List D → Option (D × Bool)} {x : Str} {p0 : Pos} {es : List Expr} {fs : List Ex} (hb : BiS fa X (.builtin id) f) (hg : Gl X x) (hm : X.mg x = some (.builtin id)) (hdb : (x == ("__debug__" : Str)) = false)
    (ha : SndA fa ca X es fs) (hst : es.all notStar = true) (hne : es ≠ []) : Snd fa ca X (.Call (.Name x p0) es [] pos) (xBi f fs) := by
  cases es with
  | nil => exact absurd rfl hne
  | cons e es =>
    simp only [List.all_cons, Bool.and_eq_true] at hst
    exact snd_biG hb (fun h => pe_callBfun (fun pins s σ H xs us Q I r q => q pins s σ us I r) hg hm h hdb (star_cons hst.1) (noStar_any hst.2)) ha
theorem kid1 {K : PySem.W.Frag} {Z H : Hp} {vs : List V} {d : D} (h : KidL fa K Z H vs [d]) : ∃ v, vs = [v] ∧ Kid fa K Z H v d := by
  obtain ⟨v, us, e, h1, h2⟩ := h
  have h2' : us = [] := h2
  subst h2'
  exact ⟨v, e, h1⟩
theorem kid2 {K : PySem.W.Frag} {Z H : Hp} {vs : List V} {d d' : D} (h : KidL fa K Z H vs [d, d']) : ∃ v v', vs = [v, v'] ∧ Kid fa K Z H v d ∧ Kid fa K Z H v' d' := by
  obtain ⟨v, us, e, h1, h2⟩ := h
  obtain ⟨v', e2, h3⟩ := kid1 h2
  subst e2
  exact ⟨v, v', e, h1, h3⟩
theorem bi_abs : BiS fa X (.builtin "abs") bAbs := fun Z H vs ds r fr Q sz kd q k pins s σ us I rv => by
  unfold bAbs at q
  split at q <;> cases q
  obtain ⟨v, rfl, k1⟩ := kid1 kd
  have e := k1.int; subst e
  refine call_abs pins s σ H _ us Q I rv ⟨_, rfl, ?_⟩
  rename_i i
  have e : (if i < 0 then -i else i) = (i.natAbs : Int) := by split <;> omega
  rw [e]; exact k _ _ newR_int
theorem bi_int : BiS fa X (.type "int") bInt := fun Z H vs ds r fr Q sz kd q k pins s σ us I rv => by
  unfold bInt at q
  split at q <;> cases q
  · obtain ⟨v, rfl, k1⟩ := kid1 kd
    have e := k1.int; subst e
    exact call_int1 pins s σ H _ us Q I rv (.inl ⟨_, rfl, k _ _ newR_int⟩)
  · obtain ⟨v, rfl, k1⟩ := kid1 kd
    have e := k1.bl; subst e
    exact call_int1 pins s σ H _ us Q I rv (.inr ⟨_, rfl, k _ _ newR_int⟩)
theorem sqL_scr {K : PySem.W.Frag} {Z H : Hp} {a : Addr} {xs : List V} (h : SqL K (fun b => match Z b with | some (.lst _) => none | o => o) a xs) (sz : Sub Z H) : SqL K H a xs :=
  SqL.sub h fun b o q => by
    have z : Z b = some o := by
      revert q
      split
      · intro q; cases q
      · exact id
    exact sz b o z
theorem bi_len : BiS fa X (.builtin "len") bLen := fun Z H vs ds r fr Q sz kd q k pins s σ us I rv => by
  unfold bLen at q
  split at q
  · cases q
    obtain ⟨v, rfl, a, xs, rfl, h1, h2⟩ := kid1 kd
    refine call_len pins s σ H _ us Q I rv ⟨_, xs.length, rfl, .inl ⟨xs, SqL.of h1, rfl⟩, ?_⟩
    rw [← h2.length]; exact k _ _ newR_int
  · cases q
    obtain ⟨v, rfl, k1⟩ := kid1 kd
    have k2 : Rep fa X.K _ (.tup _) v := k1
    simp only [Rep] at k2
    obtain ⟨a, xs, rfl, h1, h2⟩ := k2
    refine call_len pins s σ H _ us Q I rv ⟨_, xs.length, rfl, .inr ⟨xs, SqT.sub h1 sz, rfl⟩, ?_⟩
    rw [← h2.length]; exact k _ _ newR_int
  · cases q
    obtain ⟨v, rfl, k1⟩ := kid1 kd
    have k2 : Rep fa X.K _ (.scr _) v := k1
    simp only [Rep] at k2
    obtain ⟨a, rfl, h1⟩ := k2
    refine call_len pins s σ H _ us Q I rv ⟨_, _, rfl, .inl ⟨_, sqL_scr h1 sz, rfl⟩, ?_⟩
    rw [List.length_map]; exact k _ _ newR_int
  · split at q <;> cases q
    rename_i hl
    obtain ⟨v, rfl, k1⟩ := kid1 kd
    have e := k1.str; subst e
    exact call_len pins s σ H _ us Q I rv ⟨_, _, rfl, ⟨by rw [← line_eq]; exact hl, rfl⟩, k _ _ newR_int⟩
  · cases q
theorem foldl_min_le : ∀ (is : List Int) (a : Int), is.foldl min a ≤ a ∧ ∀ j ∈ is, is.foldl min a ≤ j
  | [], a => ⟨by simp, by simp⟩
  | i :: is, a => by
    obtain ⟨h1, h2⟩ := foldl_min_le is (min a i)
    simp only [List.foldl_cons, List.mem_cons, forall_eq_or_imp]
    exact ⟨by omega, by omega, h2⟩
theorem foldl_min_mem : ∀ (is : List Int) (a : Int), is.foldl min a = a ∨ is.foldl min a ∈ is
  | [], a => .inl rfl
  | i :: is, a => by
    simp only [List.foldl_cons, List.mem_cons]
    rcases foldl_min_mem is (min a i) with h | h
    · rw [h]; by_cases z : a ≤ i
      · exact .inl (by omega)
      · exact .inr (.inl (by omega))
    · exact .inr (.inr h)
theorem foldl_max_le : ∀ (is : List Int) (a : Int), a ≤ is.foldl max a ∧ ∀ j ∈ is, j ≤ is.foldl max a
  | [], a => ⟨by simp, by simp⟩
  | i :: is, a => by
    obtain ⟨h1, h2⟩ := foldl_max_le is (max a i)
    simp only [List.foldl_cons, List.mem_cons, forall_eq_or_imp]
    exact ⟨by omega, by omega, h2⟩
theorem foldl_max_mem : ∀ (is : List Int) (a : Int), is.foldl max a = a ∨ is.foldl max a ∈ is
  | [], a => .inl rfl
  | i :: is, a => by
    simp only [List.foldl_cons, List.mem_cons]
    rcases foldl_max_mem is (max a i) with h | h
    · rw [h]; by_cases z : a ≤ i
      · exact .inr (.inl (by omega))
      · exact .inl (by omega)
    · exact .inr (.inr h)
theorem least_spec {is : List Int} {i : Int} (h : leastI is = some i) : i ∈ is ∧ ∀ j ∈ is, i ≤ j := by
  cases is with
  | nil => cases h
  | cons a is =>
    simp only [leastI, Option.some.injEq] at h
    subst h
    obtain ⟨h1, h2⟩ := foldl_min_le is a
    refine ⟨?_, ?_⟩
    · rcases foldl_min_mem is a with h | h
      · rw [h]; exact List.mem_cons_self
      · exact List.mem_cons_of_mem _ h
    · intro j hj
      rcases List.mem_cons.mp hj with e | e
      · subst e; exact h1
      · exact h2 j e
theorem great_spec {is : List Int} {i : Int} (h : greatI is = some i) : i ∈ is ∧ ∀ j ∈ is, j ≤ i := by
  cases is with
  | nil => cases h
  | cons a is =>
    simp only [greatI, Option.some.injEq] at h
    subst h
    obtain ⟨h1, h2⟩ := foldl_max_le is a
    refine ⟨?_, ?_⟩
    · rcases foldl_max_mem is a with h | h
      · rw [h]; exact List.mem_cons_self
      · exact List.mem_cons_of_mem _ h
    · intro j hj
      rcases List.mem_cons.mp hj with e | e
      · subst e; exact h1
      · exact h2 j e
theorem bi_sum (hc : X.calm = true) : BiS fa X (.builtin "sum") bSum := fun Z H vs ds r fr Q sz kd q k pins s σ us I rv => by
  unfold bSum at q
  split at q
  · obtain ⟨is, e1, q⟩ := Option.map_eq_some_iff.mp q
    cases q
    obtain ⟨v, rfl, a, xs, rfl, h1, h2⟩ := kid1 kd
    obtain ⟨_, e3⟩ := h2.asInts e1
    subst e3
    exact cr_sum hc pins s σ H _ us Q I rv ⟨a, is, rfl, SqL.of h1, k _ _ newR_int⟩
  · cases q
theorem bi_all (hc : X.calm = true) : BiS fa X (.builtin "all") bAll := fun Z H vs ds r fr Q sz kd q k pins s σ us I rv => by
  unfold bAll at q
  split at q
  · obtain ⟨is, e1, q⟩ := Option.map_eq_some_iff.mp q
    cases q
    obtain ⟨v, rfl, a, xs, rfl, h1, h2⟩ := kid1 kd
    obtain ⟨_, e3⟩ := h2.asBools e1
    subst e3
    exact cr_all hc pins s σ H _ us Q I rv ⟨a, is, rfl, SqL.of h1, k _ _ newR_bl⟩
  · cases q
theorem bi_any (hc : X.calm = true) : BiS fa X (.builtin "any") bAny := fun Z H vs ds r fr Q sz kd q k pins s σ us I rv => by
  unfold bAny at q
  split at q
  · obtain ⟨is, e1, q⟩ := Option.map_eq_some_iff.mp q
    cases q
    obtain ⟨v, rfl, a, xs, rfl, h1, h2⟩ := kid1 kd
    obtain ⟨_, e3⟩ := h2.asBools e1
    subst e3
    exact cr_any hc pins s σ H _ us Q I rv ⟨a, is, rfl, SqL.of h1, k _ _ newR_bl⟩
  · cases q
theorem bi_gcd : BiS fa X (.builtin "math.gcd") bGcd := fun Z H vs ds r fr Q sz kd q k pins s σ us I rv => by
  unfold bGcd at q
  split at q <;> cases q
  obtain ⟨v, v', rfl, k1, k2⟩ := kid2 kd
  have e := k1.int; subst e
  have e := k2.int; subst e
  exact cr_gcd pins s σ H _ us Q I rv ⟨_, _, rfl, k _ _ newR_int⟩

/-! ### items, slices -/
def notSlice : Expr → Bool
  | .Slice .. => false
  | _ => true
theorem plainIx_of (h : notSlice b = true) : PlainIx b := fun o i => by
  cases b <;> first | rfl | exact absurd h (by simp [notSlice])
theorem place_atI {α : Type} {xs : List α} {i : Int} {k : Nat} {v : α} (h : place xs.length i = some k) (hv : xs[k]? = some v) : atI xs i = some v := by
  unfold place at h
  unfold atI ixN
  by_cases h0 : 0 ≤ i
  · rw [if_pos h0] at h ⊢
    by_cases h1 : i < (xs.length : Int)
    · rw [if_pos h1] at h ⊢
      cases h
      exact hv
    · rw [if_neg h1] at h; cases h
  · rw [if_neg h0] at h ⊢
    by_cases h1 : 0 ≤ i + (xs.length : Int)
    · rw [if_pos h1] at h
      cases h
      first
        | (rw [if_pos h1]; exact hv)
        | (rw [if_pos (by omega)]; exact hv)
    · rw [if_neg h1] at h; cases h
theorem dkGet_val {K : PySem.W.Frag} {Z : Hp} {k : Key} : ∀ {kvs : List (Key × V)} {vs : List D} {e : D}, RepL fa K Z vs (kvs.map (·.2)) → dkGet (kvs.map fun p => keyD p.1) vs (keyD k) = some e → ∃ v, valV kvs k = some v ∧ Rep fa K Z e v
  | [], vs, e, h, q => by
    cases vs <;> simp [dkGet] at q
  | p :: kvs, [], e, h, q => by simp [dkGet] at q
  | p :: kvs, d :: vs, e, h, q => by
    simp only [List.map_cons, RepL] at h
    obtain ⟨v, r, e1, h1, h2⟩ := h
    cases e1
    simp only [List.map_cons, dkGet] at q
    by_cases c : p.1 = k
    · rw [if_pos (keyD_same.mpr (by rw [c]))] at q
      cases q
      exact ⟨p.2, valV_pos c, h1⟩
    · rw [if_neg fun z => c (keyD_inj (keyD_same.mp z)).symm] at q
      obtain ⟨w, q1, q2⟩ := dkGet_val h2 q
      exact ⟨w, by rw [valV_neg c]; exact q1, q2⟩
theorem Kid.item {K : PySem.W.Frag} {Z H : Hp} {x : V} {d e : D} {i : Int} (sz : Sub Z H) (nd : ∀ ks vs, d ≠ .dct ks vs) (h : Kid fa K Z H x d) (q : dIdx d (.int i) = some e) :
    ∃ p xs v, x = .ref p ∧ (SqL K H p xs ∨ SqT K H p xs) ∧ atI xs i = some v ∧ Rep fa K Z e v := by
  unfold dIdx at q
  split at q
  · exact absurd rfl (nd _ _)
  · rename_i xs j ej
    cases ej
    obtain ⟨k, q1, q2⟩ := Option.bind_eq_some_iff.mp q
    obtain ⟨a, vs, rfl, h1, h2⟩ := h
    obtain ⟨v, q3, q4⟩ := h2.get q2
    exact ⟨a, vs, v, rfl, .inl (SqL.of h1), place_atI (by rw [← h2.length]; exact q1) q3, q4⟩
  · rename_i xs j ej
    cases ej
    obtain ⟨k, q1, q2⟩ := Option.bind_eq_some_iff.mp q
    have h' : Rep fa K Z (.tup _) x := h
    simp only [Rep] at h'
    obtain ⟨a, vs, rfl, h1, h2⟩ := h'
    obtain ⟨v, q3, q4⟩ := h2.get q2
    exact ⟨a, vs, v, rfl, .inr (SqT.sub h1 sz), place_atI (by rw [← h2.length]; exact q1) q3, q4⟩
  · rename_i xs j ej
    cases ej
    obtain ⟨k, q1, q2⟩ := Option.bind_eq_some_iff.mp q
    obtain ⟨m, q3, rfl⟩ := Option.map_eq_some_iff.mp q2
    have h' : Rep fa K Z (.scr _) x := h
    simp only [Rep] at h'
    obtain ⟨a, rfl, h1⟩ := h'
    exact ⟨a, _, .int m, rfl, .inl (sqL_scr h1 sz), place_atI (xs := xs.map V.int) (k := k) (by rw [List.length_map]; exact q1) (by rw [List.getElem?_map, q3]; rfl), by simp [Rep]⟩
  · cases q
theorem ix_dict (hu : X.A.units + 1 < cLine) : IxR X (fun x y H Q => ∃ a v, x = .ref a ∧ DGet H a y (some v) ∧ Q v H) := by
  intro value slice pins s σ H x y v u Q I rx ry h hs
  obtain ⟨a, z, rfl, g, q⟩ := h
  cases rx
  have hT := dict_typeIs I g
  unfold subscriptTail
  refine wpAny_bind ?_
  rw [getitemInPython_of_ne hT.not_modules]
  refine wpAny_bind (wpAny_specialOf hT PySem.F.slot_dict_getitem.lookup ?_)
  have fin : wpAny (model X.prog X.w) X.A (subscripted slice false (.ref a) u) (fun r s₃ => wpAny (model X.prog X.w) X.A (letTemporaryGo value (.ref a) r >>= fun _ => pure r) (EP X pins σ Q) X.xe s₃) X.xe s := by
    rw [hs]
    have g2 : wpAny (model X.prog X.w) X.A (getItem (.ref a) u) (EP X pins σ Q) X.xe s := d_getItem hu I g ry fun w' s3 I3 rw' => ⟨z, H, I3, rw', q⟩
    exact wpAny_operating (wpAny_mono g2 (fun r s₃ h₃ => wpAny_bind (wpAny_letTemporaryGo (wpAny_pure h₃))) fun _ _ x => x)
  first
    | exact wpAny_pure (wpAny_bind fin)
    | exact wpAny_bind (wpAny_pure (wpAny_bind fin))
    | exact wpAny_bind fin
theorem snd_idx {kk : Nat} (hr : Room kk X.A) (ha : Snd fa ca X a da) (hb : Snd fa ca X b db) (hs : notSlice b = true) : Snd fa ca X (.Subscript a b pos) (xIdx da db) := fun W tk N H σ E Q s p => by
  have hu := hr.units
  refine of_pe (pe_ix (r := fun x y H' Q' => (∃ p xs i v, x = .ref p ∧ y = .int i ∧ (SqL X.K H' p xs ∨ SqT X.K H' p xs) ∧ atI xs i = some v ∧ Q' v H') ∨ ∃ a v, x = .ref a ∧ DGet H' a y (some v) ∧ Q' v H') (fun value slice pins s σ H x y v u Q I rx ry h hs => ?_) (peE (e := a)) (peE (e := b)) (plainIx_of hs)) ?_
  · rcases h with h | h
    · obtain ⟨p, xs, i, z, e1, e2, h | h, h4, h5⟩ := h
      · exact ix_list value slice pins s σ H x y v u Q I rx ry ⟨p, xs, i, z, e1, e2, h, h4, h5⟩ hs
      · exact ix_tup value slice pins s σ H x y v u Q I rx ry ⟨p, xs, i, z, e1, e2, h, h4, h5⟩ hs
    · exact ix_dict (by omega) value slice pins s σ H x y v u Q I rx ry h hs
  · show tE X a σ H _
    refine ha.bd tk s (Sub.refl _) p fun r x H1 e1 g1 r1 p1 => ?_
    refine hb.bd tk (s.grow g1) g1 p1 fun r' y H2 e2 g2 r2 p2 => ?_
    have k1 := (r1.kid s g1).sub (hide_mono g2 fun b o _ n => n) g2
    have k2 := r2.kid (s.grow g1) g2
    have g12 := g1.trans g2
    cases q : dIdx r.d r'.d with
    | none => simp only [q] at p2; exact p2.elim
    | some d =>
      simp only [q] at p2
      by_cases hd : ∃ ks vs, r.d = .dct ks vs
      · obtain ⟨ks, vs, hd⟩ := hd
        rw [hd] at q k1
        have q' : (if isKey r'.d then dkGet ks vs r'.d else none) = some d := q
        split at q'
        · rename_i hk
          obtain ⟨key, ek⟩ := isKey_is hk
          rw [ek] at q' k2
          obtain ⟨ap, kvs, rfl, h1, rfl, h2⟩ := k1
          obtain ⟨v, q3, q4⟩ := dkGet_val h2 q'
          have ey := k2.key
          subst ey
          exact .inr ⟨ap, v, rfl, q3 ▸ DGet.k h1, p2 v H2 g12 (rr_mkF s g12 q4)⟩
        · cases q'
      · have nd : ∀ ks vs, r.d ≠ .dct ks vs := fun ks vs e => hd ⟨ks, vs, e⟩
        have hi : ∃ i, r'.d = .int i := by
          revert q
          unfold dIdx
          split
          · rename_i e; exact absurd e (nd _ _)
          · rename_i e; intro _; exact ⟨_, e⟩
          · rename_i e; intro _; exact ⟨_, e⟩
          · rename_i e; intro _; exact ⟨_, e⟩
          · intro z; cases z
        obtain ⟨i, ei⟩ := hi
        rw [ei] at q k2
        obtain ⟨pp, xs, v, h1, h2, h3, h4⟩ := k1.item hide_sub nd q
        exact .inl ⟨pp, xs, i, v, h1, k2.int, h2, h3, p2 v H2 g12 (rr_mkF s g12 h4)⟩
theorem sEnd_eq (n d : Nat) (o : Option Int) : sEnd n d o = HT.sIx n d o := by
  cases o with
  | none => rfl
  | some i =>
    show (if 0 ≤ i then min i.toNat n else (i + n).toNat) = if i < 0 then (i + (n : Int)).toNat else min i.toNat n
    by_cases h : 0 ≤ i
    · rw [if_pos h, if_neg (by omega)]
    · rw [if_neg h, if_pos (by omega)]
theorem cutL_map {α : Type} {xs : List α} : cutL xs = fun lo hi => (xs.drop (HT.sIx xs.length 0 lo)).take (HT.sIx xs.length xs.length hi - HT.sIx xs.length 0 lo) := by
  funext lo hi
  unfold cutL
  rw [sEnd_eq, sEnd_eq]
theorem RepL.cut {K : PySem.W.Frag} {Z : Hp} {ds : List D} {vs : List V} (h : RepL fa K Z ds vs) (lo hi : Option Int) : RepL fa K Z (cutL ds lo hi) (cutL vs lo hi) := by
  unfold cutL
  rw [h.length]
  exact (h.drop _).take _
def SndO (fa ca : Nat → Addr) (X : Cx) : Option Expr → Option Ex → Prop
  | none, none => True
  | some e, some f => Snd fa ca X e f
  | _, _ => False
def tOE (X : Cx) (o : Option Expr) : L2.TO := fun σ H Q => ∀ (pins : List (Addr × Obj)) (s : Shared), Inv X pins σ H s → wpAny (model X.prog X.w) X.A (evalPart o X.env) (fun u s' => ∃ o H', Inv X pins σ H' s' ∧ IsPart u o ∧ Q o H') X.xe s
theorem poO {o : Option Expr} : PO X o (tOE X o) := ⟨fun pins s σ H Q I h => h pins s I⟩
theorem SndO.bd {o : Option Expr} {f : Option Ex} {β : Type} {P : β → Prop} {W : WX} {N : Addr → Prop} {H0 H : Hp} {σ : L2.St} {E : Env} {k : Option Int → R β} {Q : Option Int → Hp → Prop} (ho : SndO fa ca X o f) (tk : Takes X W) (s : SR fa X.K N H σ E) (g : Sub H0 H)
    (h : Post ca W H0 σ P ((evO f E).bd k)) (hk : ∀ r H1, Sub H H1 → Post ca W H0 σ P (k r) → Q r H1) : tOE X o σ H Q := fun pins st I => by
  cases o with
  | none =>
    cases f with
    | none => exact po_none.run pins st σ H Q I (hk none H (Sub.refl _) h)
    | some f => exact ho.elim
  | some e =>
    cases f with
    | none => exact ho.elim
    | some f =>
      refine (po_some (peE (e := e))).run pins st σ H Q I ?_
      have ho' : Snd fa ca X e f := ho
      have h' : Post ca W H0 σ P ((f E).bd fun r => (match r.d with | .int i => R.ok (some i) | _ => .bad).bd k) := by
        have z := h
        unfold evO at z
        rw [R.bd_assoc] at z
        exact z
      refine ho'.bd tk s g h' fun r x H1 e1 g1 r1 p1 => ?_
      have k1 := r1.kid s g1
      revert p1 k1
      cases r.d <;> intro p1 k1 <;> simp only [] at p1 <;> try exact p1.elim
      exact ⟨_, k1.int, hk _ H1 g1 p1⟩
theorem snd_slice {lo hi : Option Expr} {fl fh : Option Ex} {p2 : Pos} (ha : Snd fa ca X a da) (hl : SndO fa ca X lo fl) (hh : SndO fa ca X hi fh) : Snd fa ca X (.Subscript a (.Slice lo hi none p2) pos) (xSlice da fl fh) := fun W tk N H σ E Q s p => by
  refine of_pe (pe_slice (SlR.or sl_list sl_tupA) (peE (e := a)) poO poO) ?_
  show tE X a σ H _
  refine ha.bd tk s (Sub.refl _) p fun r x H1 e1 g1 r1 p1 => ?_
  refine hl.bd tk (s.grow g1) g1 p1 fun l H2 g2 p2 => ?_
  refine hh.bd tk (s.grow (g1.trans g2)) (g1.trans g2) p2 fun h H3 g3 p3 => ?_
  have k1 := (r1.kid s g1).sub (hide_mono (g2.trans g3) fun b o _ n => n) (g2.trans g3)
  have g13 := g1.trans (g2.trans g3)
  revert p3 k1
  cases hd : r.d <;> intro p3 k1 <;> simp only [dSlice] at p3 <;> try exact p3.elim
  · obtain ⟨a, vs, rfl, h1, h2⟩ := k1
    refine .inl ⟨a, vs, rfl, SqL.of h1, fun p np => p3 _ _ (g13.trans (sub_upd np)) ?_⟩
    refine (NewR.rr (fr := true) (p := r.kc) s g13 (NewR.list np hide_sub ?_))
    have z := h2.cut l h
    rw [cutL_map (xs := vs)] at z
    exact z
  · have k2 : Rep fa X.K _ (.tup _) x := k1
    have k3 := k2
    simp only [Rep] at k2
    obtain ⟨a, vs, rfl, h1, h2⟩ := k2
    have z := h2.cut l h
    rw [cutL_map (xs := vs)] at z
    refine .inr ⟨a, vs, rfl, SqT.sub h1 hide_sub, fun e => p3 _ _ g13 ?_, fun _ p np => p3 _ _ (g13.trans (sub_upd np)) ?_⟩
    · have w : cutL (α := V) vs l h = vs := by
        rw [cutL_map (xs := vs)]
        dsimp only
        rw [e.1, e.2]
        simp
      refine NewR.rr (fr := false) (p := r.kc) s g13 (NewR.old ?_ hide_sub)
      simp only [Rep]
      refine ⟨a, vs, rfl, h1, ?_⟩
      have z' := h2.cut l h
      rw [w] at z'
      exact z'
    · exact NewR.rr (fr := false) (p := r.kc) s g13 (NewR.tuple np hide_sub z)
end
end Rt
end
section
set_option Elab.async false
set_option linter.all false
set_option maxRecDepth 100000
set_option maxHeartbeats 1000000
/-! zip of a tuple and a list (turned from the kit's zip of two tuples) -/
namespace RZ
open PySem
open PySem.Sem (wp)
section
variable {prog : Program} {w : World} {A : Around} {E : Value → Shared → Prop} {s : Shared}
theorem zipTL_next_item {z TI TO i1 i2 l1 l2 : Addr} {k1 k2 : Nat} {xs ys : Array Value} {x y a b : Value} {Q : Value → Shared → Prop} (D : ZipApart z TI TO i1 i2 l1 l2)
    (hz : IsZip s.heap z TI TO .none) (hTI : IsPair s.heap TI (.ref i1) (.ref i2)) (hTO : IsPair s.heap TO a b)
    (h1 : s.heap.IsTupleIter i1 l1 k1) (h2 : s.heap.IsListIter i2 l2 k2) (hl1 : s.heap.IsTuple l1 xs) (hl2 : s.heap.IsList l2 ys) (hx : xs[k1]? = some x) (hy : ys[k2]? = some y)
    (hQ : ∀ h', IsZip h' z TI TO (rawInt s.heap.objs.size) → IsPair h' TO x y → h'.IsTupleIter i1 l1 (k1 + 1) → h'.IsListIter i2 l2 (k2 + 1) → IsPair h' s.heap.objs.size x y → h'.objs.size = s.heap.objs.size + 1 →
      (∀ c o, c ≠ z → c ≠ TO → c ≠ i1 → c ≠ i2 → s.heap.get? c = some o → h'.get? c = some o) → Q (.ref s.heap.objs.size) { s with heap := h' }) :
    wpAny (model prog w) A (Builtin.«zip.__next__» ⟨[.ref z], []⟩) (fun fin s' => ∃ v, fin = .done (.ret v) ∧ Q v s') E s := by
  show wpAny _ _ (field (.ref z) 2 >>= _) _ _ _
  refine wpAny_bind (wpAny_field hz rfl (x := .bool false) rfl ?_)
  show wpAny _ _ (field (.ref z) 3 >>= _) _ _ _
  refine wpAny_bind (wpAny_field hz rfl (x := .ref TI) rfl ?_)
  refine wpAny_bind (wpAny_seqItems hTI rfl ?_)
  show wpAny _ _ (Builtin.SmallTypes.ownedTupleIsFree (.ref z) >>= _) _ _ _
  refine wpAny_bind ?_
  unfold Builtin.SmallTypes.ownedTupleIsFree
  refine wpAny_bind (wpAny_field hz rfl (x := .none) rfl (wpAny_pure ?_))
  simp only [if_true]
  refine wpAny_bind (wpAny_rule ?_)
  refine wpAny_bind (wpAny_field hz rfl (x := .ref TO) rfl ?_)
  refine wpAny_bind (wpAny_setField_rec hz (by simp) fun h₁ hz₁ hs₁ => ?_)
  replace hz₁ : IsZip h₁ z TI TO .ellipsis := hz₁
  refine wpAny_bind ?_
  simp only [List.zipIdx_cons, List.zipIdx_nil, List.forIn_cons, List.forIn_nil]

  refine wpAny_bind (wpAny_bind (wpAny_onRaise ?_))
  show wpAny _ _ (Builtin.SmallTypes.nextOf (.ref i1) >>= _) _ _ _
  refine wpAny_bind (nextOf_tuple_item (h1.extBut hs₁.extBut D.i1z) (hl1.extBut hs₁.extBut D.l1z) hx fun h₂ h1₂ hs₂ => wpAny_pure ?_)
  have hTO₂ : IsPair h₂ TO a b := hs₂.extBut _ _ D.TOi1 (hs₁.extBut _ _ D.TOz hTO)
  refine wpAny_bind (wpAny_seqItems hTO₂ rfl ?_)
  refine wpAny_bind (wpAny_updateSeq_pair hTO₂ fun h₃ hTO₃ hs₃ => ?_)
  replace hTO₃ : IsPair h₃ TO x b := hTO₃
  refine wpAny_bind (wpAny_letGo (wpAny_pure ?_))

  refine wpAny_bind (wpAny_bind (wpAny_onRaise ?_))
  show wpAny _ _ (Builtin.SmallTypes.nextOf (.ref i2) >>= _) _ _ _
  refine wpAny_bind (wpAny_nextOf_list_item (((h2.extBut hs₁.extBut D.i2z).extBut hs₂.extBut D.i12.symm).extBut hs₃.extBut D.TOi2.symm)
    (((hl2.extBut hs₁.extBut D.l2z).extBut hs₂.extBut D.l2i1).extBut hs₃.extBut D.l2TO) hy fun h₄ h2₄ hs₄ => wpAny_pure ?_)
  have hTO₄ : IsPair h₄ TO x b := hs₄.extBut _ _ D.TOi2 hTO₃
  refine wpAny_bind (wpAny_seqItems hTO₄ rfl ?_)
  refine wpAny_bind (wpAny_updateSeq_pair hTO₄ fun h₅ hTO₅ hs₅ => ?_)
  replace hTO₅ : IsPair h₅ TO x y := hTO₅
  refine wpAny_bind (wpAny_letGo (wpAny_pure (wpAny_pure ?_)))

  refine wpAny_bind (wpAny_seqItems hTO₅ rfl ?_)
  refine wpAny_bind (wpAny_newTuple ?_)
  have hsz : h₅.objs.size = s.heap.objs.size := by rw [hs₅.1, hs₄.1, hs₃.1, hs₂.1, hs₁.1]
  have hz₅ : IsZip h₅ z TI TO .ellipsis := hs₅.extBut _ _ D.TOz.symm (hs₄.extBut _ _ D.i2z.symm (hs₃.extBut _ _ D.TOz.symm (hs₂.extBut _ _ D.i1z.symm hz₁)))
  have hk₅ : ∀ c o, c ≠ z → c ≠ TO → c ≠ i1 → c ≠ i2 → s.heap.get? c = some o → h₅.get? c = some o := fun c o c1 c2 c3 c4 e =>
    hs₅.extBut _ _ c2 (hs₄.extBut _ _ c4 (hs₃.extBut _ _ c2 (hs₂.extBut _ _ c3 (hs₁.extBut _ _ c1 e))))
  have h1₅ : h₅.IsTupleIter i1 l1 (k1 + 1) := ((h1₂.extBut hs₃.extBut D.TOi1.symm).extBut hs₄.extBut D.i12).extBut hs₅.extBut D.TOi1.symm
  have h2₅ : h₅.IsListIter i2 l2 (k2 + 1) := h2₄.extBut hs₅.extBut D.TOi2.symm
  have hzlt : z < h₅.objs.size := Heap.lt_size hz₅
  have hTOlt : TO < h₅.objs.size := Heap.lt_size hTO₅
  have hi1lt : i1 < h₅.objs.size := by obtain ⟨_, e, _⟩ := h1₅; exact Heap.lt_size e
  have hi2lt : i2 < h₅.objs.size := by obtain ⟨_, e, _⟩ := h2₅; exact Heap.lt_size e
  show wpAny _ _ (Builtin.SmallTypes.ownedTupleHandOut (.ref z) (.ref h₅.objs.size) >>= _) _ _ _
  refine wpAny_bind ?_
  unfold Builtin.SmallTypes.ownedTupleHandOut
  have hz₆ : IsZip (h₅.push { cls := .type "tuple", data := .seq #[x, y] }) z TI TO .ellipsis := Heap.get?_push_of_some _ hz₅
  refine wpAny_bind (wpAny_setField_rec hz₆ (by simp) fun h₇ hz₇ hs₇ => ?_)
  replace hz₇ : IsZip h₇ z TI TO (rawInt h₅.objs.size) := hz₇
  refine wpAny_setField_rec hz₇ (by simp) fun h₈ hz₈ hs₈ => ?_
  replace hz₈ : IsZip h₈ z TI TO (rawInt h₅.objs.size) := hz₈
  have up : ∀ c o, c ≠ z → h₅.get? c = some o → h₈.get? c = some o := fun c o c1 e => hs₈.extBut _ _ c1 (hs₇.extBut _ _ c1 (Heap.get?_push_of_some _ e))
  have hT₈ : IsPair h₈ h₅.objs.size x y := hs₈.extBut _ _ (Nat.ne_of_gt hzlt) (hs₇.extBut _ _ (Nat.ne_of_gt hzlt) (Heap.get?_push_size _ rfl))
  have hz8 : h₈.objs.size = h₅.objs.size + 1 := by rw [hs₈.1, hs₇.1, Heap.size_push]
  rw [hsz] at hz₈ hT₈ hz8
  refine wpAny_pure ⟨_, rfl, ?_⟩
  show Q (.ref h₅.objs.size) _
  rw [hsz]
  exact hQ h₈ hz₈ (up _ _ D.TOz hTO₅) (h1₅.at fun o e => up _ o D.i1z e) (h2₅.at fun o e => up _ o D.i2z e) hT₈ hz8 fun c o c1 c2 c3 c4 e => up c o c1 (hk₅ c o c1 c2 c3 c4 e)

theorem zipTL_next_end {z TI TO i1 i2 l1 l2 : Addr} {k1 k2 : Nat} {xs ys : Array Value} {a b : Value} {Q : Fin → Shared → Prop} (hh : A.handled = none) (D : ZipApart z TI TO i1 i2 l1 l2)
    (hz : IsZip s.heap z TI TO .none) (hTI : IsPair s.heap TI (.ref i1) (.ref i2)) (hTO : IsPair s.heap TO a b)
    (h1 : s.heap.IsTupleIter i1 l1 k1) (h2 : s.heap.IsListIter i2 l2 k2) (hl1 : s.heap.IsTuple l1 xs) (hl2 : s.heap.IsList l2 ys) (hend : xs[k1]? = none ∨ ys[k2]? = none)
    (hE : ∀ h' e, (∀ c o, c ≠ z → c ≠ TO → c ≠ i1 → c ≠ i2 → s.heap.get? c = some o → h'.get? c = some o) → (∃ o, h'.get? e = some o ∧ o.cls = .type "StopIteration") → E (.ref e) { s with heap := h' }) :
    wpAny (model prog w) A (Builtin.«zip.__next__» ⟨[.ref z], []⟩) Q E s := by
  show wpAny _ _ (field (.ref z) 2 >>= _) _ _ _
  refine wpAny_bind (wpAny_field hz rfl (x := .bool false) rfl ?_)
  show wpAny _ _ (field (.ref z) 3 >>= _) _ _ _
  refine wpAny_bind (wpAny_field hz rfl (x := .ref TI) rfl ?_)
  refine wpAny_bind (wpAny_seqItems hTI rfl ?_)
  show wpAny _ _ (Builtin.SmallTypes.ownedTupleIsFree (.ref z) >>= _) _ _ _
  refine wpAny_bind ?_
  unfold Builtin.SmallTypes.ownedTupleIsFree
  refine wpAny_bind (wpAny_field hz rfl (x := .none) rfl (wpAny_pure ?_))
  simp only [if_true]
  refine wpAny_bind (wpAny_rule ?_)
  refine wpAny_bind (wpAny_field hz rfl (x := .ref TO) rfl ?_)
  refine wpAny_bind (wpAny_setField_rec hz (by simp) fun h₁ hz₁ hs₁ => ?_)
  replace hz₁ : IsZip h₁ z TI TO .ellipsis := hz₁
  refine wpAny_bind ?_
  simp only [List.zipIdx_cons, List.zipIdx_nil, List.forIn_cons, List.forIn_nil]
  refine wpAny_bind (wpAny_bind (wpAny_onRaise ?_))
  show wpAny _ _ (Builtin.SmallTypes.nextOf (.ref i1) >>= _) _ _ _
  cases hx : xs[k1]? with
  | none =>
    refine wpAny_bind (nextOf_tuple_end hh (h1.extBut hs₁.extBut D.i1z) (hl1.extBut hs₁.extBut D.l1z) hx fun h₂ e hs₂ he => ?_)
    obtain ⟨oe, hoe, hce⟩ := he
    have hz₂ : IsZip h₂ z TI TO .ellipsis := hs₂ _ _ D.i1z.symm hz₁
    have hez : e ≠ z := fun x => by subst x; rw [hz₂] at hoe; cases hoe; simp at hce
    refine wpAny_setField_rec hz₂ (by simp) fun h₃ _ hs₃ => hE h₃ e (fun c o c1 _ c3 _ x => hs₃.extBut _ _ c1 (hs₂ _ _ c3 (hs₁.extBut _ _ c1 x))) ⟨oe, hs₃.extBut _ _ hez hoe, hce⟩
  | some x =>
    have hy : ys[k2]? = none := by rcases hend with h | h; rw [hx] at h; cases h; exact h
    refine wpAny_bind (nextOf_tuple_item (h1.extBut hs₁.extBut D.i1z) (hl1.extBut hs₁.extBut D.l1z) hx fun h₂ h1₂ hs₂ => wpAny_pure ?_)
    have hTO₂ : IsPair h₂ TO a b := hs₂.extBut _ _ D.TOi1 (hs₁.extBut _ _ D.TOz hTO)
    refine wpAny_bind (wpAny_seqItems hTO₂ rfl ?_)
    refine wpAny_bind (wpAny_updateSeq_pair hTO₂ fun h₃ hTO₃ hs₃ => ?_)
    refine wpAny_bind (wpAny_letGo (wpAny_pure ?_))
    refine wpAny_bind (wpAny_bind (wpAny_onRaise ?_))
    show wpAny _ _ (Builtin.SmallTypes.nextOf (.ref i2) >>= _) _ _ _
    refine wpAny_bind (wpAny_nextOf_list_end hh (((h2.extBut hs₁.extBut D.i2z).extBut hs₂.extBut D.i12.symm).extBut hs₃.extBut D.TOi2.symm)
      (((hl2.extBut hs₁.extBut D.l2z).extBut hs₂.extBut D.l2i1).extBut hs₃.extBut D.l2TO) hy fun h₄ e hs₄ he => ?_)
    obtain ⟨oe, hoe, hce⟩ := he
    have hz₄ : IsZip h₄ z TI TO .ellipsis := hs₄ _ _ D.i2z.symm (hs₃.extBut _ _ D.TOz.symm (hs₂.extBut _ _ D.i1z.symm hz₁))
    have hez : e ≠ z := fun x => by subst x; rw [hz₄] at hoe; cases hoe; simp at hce
    refine wpAny_setField_rec hz₄ (by simp) fun h₅ _ hs₅ => hE h₅ e (fun c o c1 c2 c3 c4 x => hs₅.extBut _ _ c1 (hs₄ _ _ c4 (hs₃.extBut _ _ c2 (hs₂.extBut _ _ c3 (hs₁.extBut _ _ c1 x))))) ⟨oe, hs₅.extBut _ _ hez hoe, hce⟩

theorem pyNext_zipTL_item {z TI TO i1 i2 l1 l2 : Addr} {k1 k2 : Nat} {xs ys : Array Value} {x y a b : Value} {Q : Option Value → Shared → Prop} (D : ZipApart z TI TO i1 i2 l1 l2)
    (hz : IsZip s.heap z TI TO .none) (hTI : IsPair s.heap TI (.ref i1) (.ref i2)) (hTO : IsPair s.heap TO a b)
    (h1 : s.heap.IsTupleIter i1 l1 k1) (h2 : s.heap.IsListIter i2 l2 k2) (hl1 : s.heap.IsTuple l1 xs) (hl2 : s.heap.IsList l2 ys) (hx : xs[k1]? = some x) (hy : ys[k2]? = some y)
    (hQ : ∀ h', IsZip h' z TI TO (rawInt s.heap.objs.size) → IsPair h' TO x y → h'.IsTupleIter i1 l1 (k1 + 1) → h'.IsListIter i2 l2 (k2 + 1) → IsPair h' s.heap.objs.size x y → h'.objs.size = s.heap.objs.size + 1 →
      (∀ c o, c ≠ z → c ≠ TO → c ≠ i1 → c ≠ i2 → s.heap.get? c = some o → h'.get? c = some o) → Q (some (.ref s.heap.objs.size)) { s with heap := h' }) :
    wpAny (model prog w) A (pyNext (.ref z)) Q E s := by
  have hT : s.TypeIs (.ref z) "zip" := ⟨_, hz, rfl⟩
  unfold pyNext
  exact wpAny_bind (wpAny_attempt (wpAny_callSpecial?_slot (name := Str.ofString "__next__") hT F.slot_zip_next
    (wpAny_call_entry F.slot_zip_next hT F.entry_zip_next
      (zipTL_next_item D hz hTI hTO h1 h2 hl1 hl2 hx hy fun h' a1 a2 a3 a4 a5 a6 a7 => wpAny_pure (hQ h' a1 a2 a3 a4 a5 a6 a7)) (F.args_zip_next_1 _))))

theorem pyNext_zipTL_end {z TI TO i1 i2 l1 l2 : Addr} {k1 k2 : Nat} {xs ys : Array Value} {a b : Value} {Q : Option Value → Shared → Prop} (hh : A.handled = none) (D : ZipApart z TI TO i1 i2 l1 l2)
    (hz : IsZip s.heap z TI TO .none) (hTI : IsPair s.heap TI (.ref i1) (.ref i2)) (hTO : IsPair s.heap TO a b)
    (h1 : s.heap.IsTupleIter i1 l1 k1) (h2 : s.heap.IsListIter i2 l2 k2) (hl1 : s.heap.IsTuple l1 xs) (hl2 : s.heap.IsList l2 ys) (hend : xs[k1]? = none ∨ ys[k2]? = none)
    (hQ : ∀ h', (∀ c o, c ≠ z → c ≠ TO → c ≠ i1 → c ≠ i2 → s.heap.get? c = some o → h'.get? c = some o) → Q none { s with heap := h' }) : wpAny (model prog w) A (pyNext (.ref z)) Q E s := by
  have hT : s.TypeIs (.ref z) "zip" := ⟨_, hz, rfl⟩
  unfold pyNext
  refine wpAny_bind (wpAny_attempt (wpAny_callSpecial?_slot (name := Str.ofString "__next__") hT F.slot_zip_next
    (wpAny_call_entry F.slot_zip_next hT F.entry_zip_next (zipTL_next_end hh D hz hTI hTO h1 h2 hl1 hl2 hend fun h' e hk he => ?_) (F.args_zip_next_1 _))))
  obtain ⟨o, ho, hc⟩ := he
  refine wpAny_bind (wpAny_isInstance (T := "StopIteration") (b := true) ⟨o, ho, hc⟩ isSubtype_stop ?_)
  exact wpAny_pure (hQ _ hk)
end

abbrev zipMH1 (h : Heap) (l1 : Addr) : Heap := h.push { cls := .type "tuple_iterator", data := .fields #[.ref l1, .int 0 0] }
abbrev zipMH2 (h : Heap) (l1 l2 : Addr) : Heap := (zipMH1 h l1).push { cls := .type "list_iterator", data := .fields #[.ref l2, .int 0 0] }
abbrev zipMH3 (h : Heap) (l1 l2 : Addr) : Heap := (zipMH2 h l1 l2).push { cls := .type "tuple", data := .seq #[.ref h.objs.size, .ref (zipMH1 h l1).objs.size] }
abbrev zipMH4 (h : Heap) (l1 l2 : Addr) : Heap := (zipMH3 h l1 l2).push { cls := .type "tuple", data := .seq #[.none, .none] }
abbrev zipMH5 (h : Heap) (l1 l2 : Addr) : Heap := (zipMH4 h l1 l2).push { cls := .type "zip", data := .fields #[.none, .bool false, .bool false, .ref (zipMH2 h l1 l2).objs.size, .ref (zipMH3 h l1 l2).objs.size] }

theorem meets_zipTL_new (l1 l2 : Addr) (xs ys : Array Value) :
    Meets (Builtin.«zip.__new__» ⟨[.type "zip", .ref l1, .ref l2], []⟩) (fun _ R s => s.heap.IsTuple l1 xs ∧ s.heap.IsList l2 ys ∧
      R (.ok (.ret (.ref (zipMH4 s.heap l1 l2).objs.size))) { s with heap := zipMH5 s.heap l1 l2 }) :=
  .of_wp fun prog w A R s h => by
    obtain ⟨hp, g, d, tk, os⟩ := s; obtain ⟨hl1, hl2, h⟩ := h
    have hsub := sub_zip
    have hL1 : Heap.IsTuple (Shared.heap ⟨hp, g, d, tk, os⟩) l1 xs := hl1
    have hL2 : Heap.IsList (Shared.heap ⟨hp.push { cls := .type "tuple_iterator", data := .fields #[.ref l1, .int 0 0] }, g, d, tk, os⟩) l2 ys := Heap.IsList.push hl2 _
    wp_walk using wpAny_pyIter_tuple hL1, wpAny_pyIter_list hL2
    exact ⟨_, rfl, h⟩

section
variable {prog : Program} {w : World} {A : Around} {E : Value → Shared → Prop} {s : Shared}

theorem call_zipTL {l1 l2 : Addr} {xs ys : Array Value} {Q : Value → Shared → Prop} (hl1 : s.heap.IsTuple l1 xs) (hl2 : s.heap.IsList l2 ys)
    (h : ∀ h', IsZip h' (s.heap.objs.size + 4) (s.heap.objs.size + 2) (s.heap.objs.size + 3) .none → IsPair h' (s.heap.objs.size + 2) (.ref s.heap.objs.size) (.ref (s.heap.objs.size + 1)) →
      IsPair h' (s.heap.objs.size + 3) .none .none → h'.IsTupleIter s.heap.objs.size l1 0 → h'.IsListIter (s.heap.objs.size + 1) l2 0 → h'.objs.size = s.heap.objs.size + 5 →
      (∀ c o, s.heap.get? c = some o → h'.get? c = some o) → Q (.ref (s.heap.objs.size + 4)) { s with heap := h' }) :
    wpAny (model prog w) A (call (.type "zip") [.ref l1, .ref l2]) Q E s := by
  refine callType_new F.called_zip (by decide) (F.typeCall_zip_2 _ _) (F.newCall_zip_2 _ _) (fun obj => F.args_object_init_3 obj _ _) F.entry_zip_new
    (meets_zipTL_new l1 l2 xs ys) ⟨hl1, hl2, ?_⟩
  have z1 : (zipMH1 s.heap l1).objs.size = s.heap.objs.size + 1 := Heap.size_push ..
  have z2 : (zipMH2 s.heap l1 l2).objs.size = s.heap.objs.size + 2 := by rw [Heap.size_push, z1]
  have z3 : (zipMH3 s.heap l1 l2).objs.size = s.heap.objs.size + 3 := by rw [Heap.size_push, z2]
  have z4 : (zipMH4 s.heap l1 l2).objs.size = s.heap.objs.size + 4 := by rw [Heap.size_push, z3]
  have z5 : (zipMH5 s.heap l1 l2).objs.size = s.heap.objs.size + 5 := by rw [Heap.size_push, z4]
  have g5 : (zipMH5 s.heap l1 l2).get? (zipMH4 s.heap l1 l2).objs.size = some _ := Heap.get?_push_size _ rfl
  have g4 : (zipMH5 s.heap l1 l2).get? (zipMH3 s.heap l1 l2).objs.size = some _ := Heap.get?_push_of_some _ (Heap.get?_push_size _ rfl)
  have g3 : (zipMH5 s.heap l1 l2).get? (zipMH2 s.heap l1 l2).objs.size = some _ := Heap.get?_push_of_some _ (Heap.get?_push_of_some _ (Heap.get?_push_size _ rfl))
  have g2 : (zipMH5 s.heap l1 l2).get? (zipMH1 s.heap l1).objs.size = some _ := Heap.get?_push_of_some _ (Heap.get?_push_of_some _ (Heap.get?_push_of_some _ (Heap.get?_push_size _ rfl)))
  have g1 : (zipMH5 s.heap l1 l2).get? s.heap.objs.size = some _ := Heap.get?_push_of_some _ (Heap.get?_push_of_some _ (Heap.get?_push_of_some _ (Heap.get?_push_of_some _ (Heap.get?_push_size _ rfl))))
  show _ ∧ _
  rw [z2, z3, z4] at g5
  rw [z1, z2] at g3
  rw [z3] at g4
  rw [z1] at g2
  rw [z4]
  exact ⟨⟨_, g5, rfl⟩, h _ g5 g3 g4 ⟨_, g1, rfl, rfl⟩ ⟨_, g2, rfl, rfl⟩ z5 fun c o x =>
    Heap.get?_push_of_some _ (Heap.get?_push_of_some _ (Heap.get?_push_of_some _ (Heap.get?_push_of_some _ (Heap.get?_push_of_some _ x))))⟩
end
open PySem PySem.Spec PyProof.Rows L2
/-- the tuple at a and the list at b as they stand at each turn, the items in new pairs -/
def ItzTL (K : PySem.W.Frag) (a b : Addr) : It :=
  ⟨fun i H => ∃ (xs ys : List V) (x y : V), SqT K H a xs ∧ SqL K H b ys ∧ xs[i]? = some x ∧ ys[i]? = some y,
    fun i H v H' => ∃ T x y, v = .ref T ∧ H T = none ∧ H' = upd H T (.tup [x, y]) ∧ (∀ xs, SqT K H a xs → xs[i]? = some x) ∧ ∀ ys, SqL K H b ys → ys[i]? = some y,
    fun i H => ∃ xs ys : List V, SqT K H a xs ∧ SqL K H b ys ∧ (xs.length ≤ i ∨ ys.length ≤ i)⟩
theorem turn_zipTL {P : Program} {w : World} {K : PySem.W.Frag} {elts : List Expr} {kk : Nat} {tpos : Pos} {a b z TI TO i1 i2 : Addr} (D : ZipApart z TI TO i1 i2 a b) :
    Turn P w K (.Tuple elts kk tpos) (ItzTL K a b) [z, TI, TO, i1, i2] z (fun i h => IsZip h z TI TO .none ∧ IsPair h TI (.ref i1) (.ref i2) ∧ (∃ x y, IsPair h TO x y) ∧ h.IsTupleIter i1 a i ∧ h.IsListIter i2 b i) where
  mem := by simp
  obj := fun i h st c hc => by
    obtain ⟨hz, hTI, ⟨x, y, hTO⟩, ⟨o1, e1, _, d1⟩, ⟨o2, e2, _, d2⟩⟩ := st
    have e' : c = z ∨ c = TI ∨ c = TO ∨ c = i1 ∨ c = i2 := by simpa using hc
    rcases e' with q | q | q | q | q
    · rw [q]; exact ⟨_, hz, fun v q => nomatch q⟩
    · rw [q]; exact ⟨_, hTI, fun v q => nomatch q⟩
    · rw [q]; exact ⟨_, hTO, fun v q => nomatch q⟩
    · rw [q]; exact ⟨o1, e1, fun v q => by rw [d1] at q; cases q⟩
    · rw [q]; exact ⟨o2, e2, fun v q => by rw [d2] at q; cases q⟩
  keep := fun i h h' st k => by
    obtain ⟨hz, hTI, ⟨x, y, hTO⟩, h1, h2⟩ := st
    exact ⟨k z (by simp) _ hz, k TI (by simp) _ hTI, ⟨x, y, k TO (by simp) _ hTO⟩, h1.at fun o q => k i1 (by simp) o q, h2.at fun o q => k i2 (by simp) o q⟩
  item := by
    intro X hP hw hK hc i pins s σ H E I hf st hg
    subst hP hw hK
    obtain ⟨hz, hTI, ⟨x0, y0, hTO⟩, h1, h2⟩ := st
    obtain ⟨xs, ys, x, y, hqx, hqy, hx, hy⟩ := hg
    obtain ⟨its, rv, p, _⟩ := I.tuple hqx
    obtain ⟨its2, rv2, p2, _⟩ := I.list hqy
    obtain ⟨u, hu, ru⟩ := rv.get hx
    obtain ⟨u2, hu2, ru2⟩ := rv2.get hy
    have hzl : z < s.heap.objs.size := Heap.lt_size hz
    refine pyNext_zipTL_item D hz hTI hTO h1 h2 p p2.isList (x := u) (y := u2) (by simpa using hu) (by simpa using hu2) fun h' z' TO' h1' h2' hT hsz hk => ?_
    refine ⟨_, rfl, wpAny_letOwnedTupleGo_zip (s := { s with heap := h' }) z' fun h'' z'' sb => ?_⟩
    have hT2 : h''.get? s.heap.objs.size = some { cls := .type "tuple", data := .seq #[u, u2] } := (sb.2 _ (Nat.ne_of_gt hzl)).trans hT
    have new : ObjOk X.prog X.w (upd H s.heap.objs.size (.tup [x, y])) h'' s.heap.objs.size (.tup [x, y]) :=
      ⟨by show 2 ≤ sizeLine; decide, [u, u2], .cons ru (.cons ru2 .nil), ⟨_, hT2, rfl, _, rfl⟩⟩
    have I1 : Inv X pins σ (upd H s.heap.objs.size (.tup [x, y])) { s with heap := h'' } :=
      I.turnedNew (t' := s.toks) (ch := [z, TI, TO, i1, i2]) (fun c o hb q => (sb.2 c (fun q' => hb (by simp [q']))).trans (hk c o (fun q' => hb (by simp [q'])) (fun q' => hb (by simp [q'])) (fun q' => hb (by simp [q'])) (fun q' => hb (by simp [q'])) q)) hf (Nat.le_refl _) new
    refine ⟨.ref s.heap.objs.size, _, I1, rfl, ⟨_, x, y, rfl, I.hok.fresh (Nat.le_refl _), rfl, fun l hl => by rw [I.tuple_inj hl hqx]; exact hx, fun l hl => by rw [I.list_inj hl hqy]; exact hy⟩, ⟨z'', ?_, ⟨u, u2, ?_⟩, ?_, ?_⟩, fun c hcm => ?_⟩
    · exact (sb.2 _ D.TIz).trans (hk _ _ D.TIz D.TITO D.TIi1 D.TIi2 hTI)
    · exact (sb.2 _ D.TOz).trans TO'
    · exact h1'.at fun o q => (sb.2 _ D.i1z).trans q
    · exact h2'.at fun o q => (sb.2 _ D.i2z).trans q
    · have hlt : c < s.heap.objs.size := by
        have e' : c = z ∨ c = TI ∨ c = TO ∨ c = i1 ∨ c = i2 := by simpa using hcm
        rcases e' with q | q | q | q | q
        · rw [q]; exact hzl
        · rw [q]; exact Heap.lt_size hTI
        · rw [q]; exact Heap.lt_size hTO
        · rw [q]; obtain ⟨_, e1, _⟩ := h1; exact Heap.lt_size e1
        · rw [q]; obtain ⟨_, e2, _⟩ := h2; exact Heap.lt_size e2
      rw [upd_ne (Nat.ne_of_lt hlt)]
      exact (hf c hcm).1
  done := by
    intro X hP hw hK hc i pins s σ H E I hf st hg
    subst hP hw hK
    obtain ⟨hz, hTI, ⟨x0, y0, hTO⟩, h1, h2⟩ := st
    obtain ⟨xs, ys, hqx, hqy, hend⟩ := hg
    obtain ⟨its, rv, p, _⟩ := I.tuple hqx
    obtain ⟨its2, rv2, p2, _⟩ := I.list hqy
    have l1 := rv.length
    have l2 := rv2.length
    have he : its.toArray[i]? = none ∨ its2.toArray[i]? = none := by
      rcases hend with q | q
      · exact .inl (by simp; omega)
      · exact .inr (by simp; omega)
    exact pyNext_zipTL_end (I.ok.hd hc) D hz hTI hTO h1 h2 p p2.isList he fun h' hk => ⟨rfl, I.turnedL (t' := s.toks) (ch := [z, TI, TO, i1, i2]) (fun c o hb q =>
      hk c o (fun q' => hb (by simp [q'])) (fun q' => hb (by simp [q'])) (fun q' => hb (by simp [q'])) (fun q' => hb (by simp [q'])) q) hf⟩
  self := fun A i s Q E st h => wpAny_pyIter_zip st.1 h

def iZipM (K : PySem.W.Frag) (ta : TA) : TI := fun σ H R => ta σ H fun vs H1 => ∃ a b xs ys, vs = [.ref a, .ref b] ∧ ((SqL K H1 a xs ∧ SqL K H1 b ys ∧ R (Itz K a b) H1) ∨ (SqT K H1 a xs ∧ SqT K H1 b ys ∧ R (ItzT K a b) H1) ∨ (SqT K H1 a xs ∧ SqL K H1 b ys ∧ R (ItzTL K a b) H1))
theorem pi_zipM {X : Cx} {e e2 : Expr} {ta : TA} {p pos tpos : Pos} {elts : List Expr} {kk : Nat} (hg : Gl X "zip") (hm : X.mg "zip" = none) (ha : PA X [e, e2] ta)
    (hs : starEach [e, e2] X.env = (false, eval e X.env) :: starEach [e2] X.env := by rfl) (hpl : (backTo pos (starEach [e2] X.env)).any (·.1) = false := by rfl) :
    PI X (.Tuple elts kk tpos) (.Call (.Name "zip" p) [e, e2] [] pos) (iZipM X.K ta) := by
  refine ⟨fun pins s σ H R I h => ?_⟩
  refine Call_ (ld_blt I hg hm PyProof.Rows.boot_zip (PyProof.Rows.callWith_type1 (thn (ha.run pos pins s σ H _ I h) fun us s1 ⟨vs, H1, I1, r1, q1⟩ => ?_) hs hpl))
  obtain ⟨a, b, xs, ys, ex, q1⟩ := q1
  subst ex
  cases r1 with
  | cons r rr =>
    cases rr with
    | cons r' rr =>
      cases rr
      cases r
      cases r'
      have fresh5 : ∀ c, c ∈ [s1.heap.objs.size + 4, s1.heap.objs.size + 2, s1.heap.objs.size + 3, s1.heap.objs.size, s1.heap.objs.size + 1] → FpOk X pins H1 c := fun c hcm => by
        have e' : c = s1.heap.objs.size + 4 ∨ c = s1.heap.objs.size + 2 ∨ c = s1.heap.objs.size + 3 ∨ c = s1.heap.objs.size ∨ c = s1.heap.objs.size + 1 := by simpa using hcm
        have hle : s1.heap.objs.size ≤ c := by
          rcases e' with z | z | z | z | z
          · rw [z]; exact Nat.le_add_right _ _
          · rw [z]; exact Nat.le_add_right _ _
          · rw [z]; exact Nat.le_add_right _ _
          · rw [z]; exact Nat.le_refl _
          · rw [z]; exact Nat.le_add_right _ _
        exact I1.fpOk hle (I1.hok.fresh hle)
      rcases q1 with ⟨hqx, hqy, q⟩ | ⟨hqx, hqy, q⟩ | ⟨hqx, hqy, q⟩
      · obtain ⟨its, rv, p1, _⟩ := I1.list hqx
        obtain ⟨its2, rv2, p2, _⟩ := I1.list hqy
        refine call_zip_2 p1.isList p2.isList fun h' hz hTI hTO h1 h2 hsz hk => wpAny_pyIter_zip hz ?_
        have I2 : Inv X pins σ H1 { s1 with heap := h' } := I1.kept (t' := s1.toks) hk
        exact ⟨s1.heap.objs.size + 4, [s1.heap.objs.size + 4, s1.heap.objs.size + 2, s1.heap.objs.size + 3, s1.heap.objs.size, s1.heap.objs.size + 1], _, _, H1, rfl, I2, turn_zip (PySem.W.ktu_apart s1.heap.objs.size a b p1.lt p2.lt), ⟨hz, hTI, ⟨_, _, hTO⟩, h1, h2⟩, fresh5, q⟩
      · obtain ⟨its, rv, p1, _⟩ := I1.tuple hqx
        obtain ⟨its2, rv2, p2, _⟩ := I1.tuple hqy
        obtain ⟨o1, ho1, _⟩ := id p1
        obtain ⟨o2, ho2, _⟩ := id p2
        refine call_zipT (show s1.heap.IsTuple a its.toArray from p1) (show s1.heap.IsTuple b its2.toArray from p2) fun h' hz hTI hTO h1 h2 hsz hk => wpAny_pyIter_zip hz ?_
        have I2 : Inv X pins σ H1 { s1 with heap := h' } := I1.kept (t' := s1.toks) hk
        exact ⟨s1.heap.objs.size + 4, [s1.heap.objs.size + 4, s1.heap.objs.size + 2, s1.heap.objs.size + 3, s1.heap.objs.size, s1.heap.objs.size + 1], _, _, H1, rfl, I2, turn_zipT (PySem.W.ktu_apart s1.heap.objs.size a b (Heap.lt_size ho1) (Heap.lt_size ho2)), ⟨hz, hTI, ⟨_, _, hTO⟩, h1, h2⟩, fresh5, q⟩
      · obtain ⟨its, rv, p1, _⟩ := I1.tuple hqx
        obtain ⟨its2, rv2, p2, _⟩ := I1.list hqy
        obtain ⟨o1, ho1, _⟩ := id p1
        refine call_zipTL (show s1.heap.IsTuple a its.toArray from p1) p2.isList fun h' hz hTI hTO h1 h2 hsz hk => wpAny_pyIter_zip hz ?_
        have I2 : Inv X pins σ H1 { s1 with heap := h' } := I1.kept (t' := s1.toks) hk
        exact ⟨s1.heap.objs.size + 4, [s1.heap.objs.size + 4, s1.heap.objs.size + 2, s1.heap.objs.size + 3, s1.heap.objs.size, s1.heap.objs.size + 1], _, _, H1, rfl, I2, turn_zipTL (PySem.W.ktu_apart s1.heap.objs.size a b (Heap.lt_size ho1) p2.lt), ⟨hz, hTI, ⟨_, _, hTO⟩, h1, h2⟩, fresh5, q⟩
end RZ
end
section
set_option linter.all false
set_option autoImplicit false
set_option Elab.async false
set_option maxRecDepth 100000
set_option maxHeartbeats 2000000
namespace Rt
open PySem PySem.Spec PyProof.Rows L2
theorem textFrom0 (ts : List Str) (acc : Str) : (textFrom 0 acc ts).length ≤ acc.length + piled ts := by
  cases ts with
  | nil => simp [textFrom, piled]
  | cons t ts =>
    show (textFrom 1 (acc ++ (if (0 : Nat) > 0 then ", " else "" : String) ++ t) ts).length ≤ _
    rw [textFrom_length_pos ts 1 _ (by omega), piled_cons, strLen_append, strLen_append]
    have e : ((if (0 : Nat) > 0 then ", " else "" : String) : Str).length = 0 := rfl
    rw [e]
    omega
mutual
theorem shown_len : ∀ (p : PyData), p.plain = true → p.shown.length ≤ repW p
  | .none, _ => by decide
  | .bool b, _ => by cases b <;> decide
  | .int i, _ => by
    have h := int_text_length_le (a := i) (k := i.natAbs.log2 + 1) (by omega) (by omega)
    have e : (PyData.int i).shown = Str.ofString (toString i) := by simp only [PyData.shown]
    rw [e]
    simp only [repW]
    have e2 : (Str.ofString (toString i)).length = (toString i).length := PySem.ofString_length _
    omega
  | .str x, _ => by
    simp only [PyData.shown, repW]
    exact Nat.le_refl _
  | .list xs, p => by
    have h := shownAll_len xs (by simpa [PyData.plain] using p)
    have h2 := textFrom0 (PyData.shownAll xs) "["
    simp only [PyData.shown, repW, listText, strLen_append]
    have e1 : ((("[" : String) : Str)).length = 1 := rfl
    have e2 : ((("]" : String) : Str)).length = 1 := rfl
    rw [e1] at h2
    rw [e2]
    omega
  | .tuple xs, p => by
    have h := shownAll_len xs (by simpa [PyData.plain] using p)
    simp only [PyData.shown, repW, tupleText, strLen_append]
    have e1 : ((("(" : String) : Str)).length = 1 := rfl
    have e2 : ∀ b : Bool, ((if b then ",)" else ")" : String) : Str).length ≤ 2 := fun b => by cases b <;> decide
    have h3 := e2 ((PyData.shownAll xs).length == 1)
    have h4 : (Str.join ", " (PyData.shownAll xs)).length ≤ piled (PyData.shownAll xs) := by
      cases q : PyData.shownAll xs with
      | nil => decide
      | cons t ts =>
        have := join_length_add (t :: ts) (by simp)
        omega
    rw [e1]
    omega
  | .dict _, p => by simp [PyData.plain] at p
theorem shownAll_len : ∀ (ps : List PyData), PyData.plainAll ps = true → piled (PyData.shownAll ps) ≤ repWL ps
  | [], _ => by decide
  | p :: ps, h => by
    rw [plain_cons, Bool.and_eq_true] at h
    have h1 := shown_len p h.1
    have h2 := shownAll_len ps h.2
    simp only [PyData.shownAll, piled_cons, repWL]
    omega
end
mutual
theorem plain_noDict : ∀ (p : PyData), p.plain = true → p.hasDict = false
  | .none, _ => rfl
  | .bool _, _ => rfl
  | .int _, _ => rfl
  | .str _, _ => rfl
  | .list xs, p => by simpa [PyData.hasDict] using plainAll_noDict xs (by simpa [PyData.plain] using p)
  | .tuple xs, p => by simpa [PyData.hasDict] using plainAll_noDict xs (by simpa [PyData.plain] using p)
  | .dict _, p => by simp [PyData.plain] at p
theorem plainAll_noDict : ∀ (ps : List PyData), PyData.plainAll ps = true → PyData.hasDictAll ps = false
  | [], _ => rfl
  | p :: ps, h => by
    rw [plain_cons, Bool.and_eq_true] at h
    simp [PyData.hasDictAll, plain_noDict p h.1, plainAll_noDict ps h.2]
end
/-! ### dicts -/
theorem repW_len : ∀ (kvs : List (PyData × PyData)), kvs.all (fun kv => kv.1.plain && kv.2.plain) = true → ((PyData.shownKv kvs).map (·.length)).sum + 2 * (PyData.shownKv kvs).length ≤ repWK kvs
  | [], _ => by simp [PyData.shownKv, repWK]
  | (k, v) :: r, h => by
    simp only [List.all_cons, Bool.and_eq_true] at h
    have h1 := shown_len k h.1.1
    have h2 := shown_len v h.1.2
    have h3 := repW_len r h.2
    simp only [PyData.shownKv, List.map_cons, List.sum_cons, List.length_cons, repWK, strLen_append]
    have e1 : (((": " : String) : Str)).length = 2 := rfl
    try rw [e1]
    omega
theorem keys_noDict : ∀ (kvs : List (PyData × PyData)) (f : PyData × PyData → PyData), (∀ x ∈ kvs, (f x).plain = true) → PyData.hasDictAll (kvs.map f) = false := fun kvs f h => plainAll_noDict _ (by
  induction kvs with
  | nil => rfl
  | cons x l ih => rw [List.map_cons, plain_cons, h x List.mem_cons_self, ih fun y hy => h y (List.mem_cons_of_mem _ hy)]; rfl)
theorem repr_dictP {prog : Program} {w : World} {A : Around} {E : Value → Shared → Prop} {s : Shared} {Q : Value → Shared → Prop} {h₀ : Heap} {a : Addr} {o : Obj} {es : Array DictEntry} {n : Nat} {kvs : List (PyData × PyData)} {as₁ bs₁ : List Addr}
    (h1 : h₀.get? a = some o) (h2 : o.cls = .type "dict") (h3 : o.data = .dict es n) (h4 : ReadsAll h₀ (es.toList.map (·.key)) (kvs.map (·.1)) as₁) (h5 : ReadsAll h₀ (es.toList.map (·.val)) (kvs.map (·.2)) bs₁)
    (hsys : (a == sysModules) = false) (nk : PyData.hasDictAll (kvs.map (·.1)) = false) (nv : PyData.hasDictAll (kvs.map (·.2)) = false) (hs : (PyData.dict kvs).showable = true) (hg : A.guards = some []) (hu : A.units + ((PyData.dict kvs).depth + 1) < cLine)
    (hk0 : ∀ b o, h₀.get? b = some o → s.heap.get? b = some o) (hQ : ∀ h' u tk, (∀ b o, s.heap.get? b = some o → h'.get? b = some o) → Q (.str (PyData.dict kvs).shown u) { s with heap := h', toks := tk })
    (hsz : (PyData.dict kvs).shown.length ≤ sizeLine) : wpAny (model prog w) A (call (.builtin "repr") [.ref a]) Q E s := by
  have hz' : (dictText (PyData.shownKv kvs)).length ≤ sizeLine := by simpa only [PyData.shown] using hsz
  obtain ⟨hs1, hs2⟩ := PyData.showableKv_split kvs (by simpa [PyData.showable] using hs)
  obtain ⟨b1, hb1, k1⟩ := ReprAllK.of_readsAll (prog := prog) (w := w) h4 hs1 (fun z => by rw [nk] at z; cases z) (fun t ht => let ⟨p, hp, hl⟩ := PyData.shownKv_key_le kvs t ht; Nat.le_trans hl (Nat.le_trans (dictText_mem_le hp) hz'))
  obtain ⟨b2, hb2, k2⟩ := ReprAllK.of_readsAll (prog := prog) (w := w) h5 hs2 (fun z => by rw [nv] at z; cases z) (fun t ht => let ⟨p, hp, hl⟩ := PyData.shownKv_val_le kvs t ht; Nat.le_trans hl (Nat.le_trans (dictText_mem_le hp) hz'))
  have hb : ReadAtMost h₀ (PyData.depthKv kvs) (b1 ++ b2) := (hb1.mono (PyData.depthAll_keys_le kvs)).append (hb2.mono (PyData.depthAll_vals_le kvs))
  have hna : a ∉ b1 ++ b2 := not_mem_of_deeper (.dict h1 h2 h3 h4 h5) (by simp only [PyData.depth]; omega) hb
  simp only [PyData.depth] at hu
  simp only [PyData.shown, PyData.shownKv_eq] at hQ
  refine call_repr_slot (by omega) (⟨o, hk0 _ _ h1, h2⟩ : s.TypeIs (.ref a) "dict") F.slot_dict_repr (call_dict_reprK (A := A.in1) h1 h2 h3 hsys hna (ReprEntriesK.of_two es.toList _ _
    (k1.more_le (fun b hb => List.mem_append_left _ hb) (PyData.depthAll_keys_le kvs)) (k2.more_le (fun b hb => List.mem_append_right _ hb) (PyData.depthAll_vals_le kvs))) hg (fun b _ => Clear.nil b) (by show A.units + 1 + _ < cLine; omega) hk0 (fun h' u tk hk => ⟨_, _, rfl, hQ h' u tk hk⟩) (by rw [← PyData.shownKv_eq]; exact hz'))
theorem pyL_length : ∀ (l : List D), (D.pyL l).length = l.length
  | [] => rfl
  | x :: l => by simp [D.pyL, pyL_length l]
theorem reads_keys {P : Program} {w : World} {h : Heap} : ∀ {es : List DictEntry} {ws : List (Key × Value)} {kvs : List (Key × V)}, Pairs (mixKind P w) es ws → KV kvs ws →
    ReadsAll h (es.map (·.key)) (D.pyL (kvs.map fun p => keyD p.1)) [] ∧ Vals (kvs.map (·.2)) (es.map (·.val))
  | [], _, kvs, .nil, r => by
    cases r
    exact ⟨.nil, .nil⟩
  | e :: es, _, _, .cons hk hv t, .cons ⟨q1, q2⟩ r => by
    obtain ⟨i1, i2⟩ := reads_keys t r
    rename_i kv p _
    refine ⟨?_, .cons (show L2.RelV p.2 e.val by rw [hv]; exact q2) i2⟩
    have hk' : keyIs p.1 e.key = true := by rw [q1]; exact hk
    obtain ⟨k, v⟩ := p
    simp only [List.map_cons, D.pyL]
    rcases keyIs_shape hk' with ⟨i, t, e1, e2⟩ | ⟨x, t, e1, e2⟩
    · dsimp only at e1
      subst e1
      rw [e2]
      exact ReadsAll.cons (as := []) (.int i t) i1
    · dsimp only at e1
      subst e1
      rw [e2]
      exact ReadsAll.cons (as := []) (.str x t) i1
section
variable {fa ca : Nat → Addr} {X : Cx}
theorem bi_repr (hg : X.A.guards = some []) (hu : X.A.units + 64 < cLine) : BiS fa X (.builtin "repr") bRepr := fun Z H vs ds r fr Q sz kd q k pins s σ us I rv => by
  unfold bRepr at q
  split at q
  · rename_i d
    split at q
    · rename_i ok
      cases q
      by_cases okd : okRepD d = true
      · cases d with
        | dct ks vs =>
          obtain ⟨v, rfl, k1⟩ := kid1 kd
          obtain ⟨u, rfl, ru⟩ := rv.one
          obtain ⟨a, kvs, rfl, h1, rfl, h2⟩ := k1
          obtain rfl : u = Value.ref a := ru
          have ln : (D.pyL (kvs.map fun p => keyD p.1)).length = (D.pyL vs).length := by
            rw [pyL_length, pyL_length, List.length_map, h2.length, List.length_map]
          simp only [okRepD, okKv, Bool.and_eq_true, decide_eq_true_eq, List.all_eq_true] at okd
          obtain ⟨⟨⟨pl, sh⟩, dp⟩, wd⟩ := okd
          have e1 : ((D.pyL (kvs.map fun p => keyD p.1)).zip (D.pyL vs)).map (·.1) = D.pyL (kvs.map fun p => keyD p.1) := by rw [← List.unzip_fst, List.unzip_zip ln]
          have e2 : ((D.pyL (kvs.map fun p => keyD p.1)).zip (D.pyL vs)).map (·.2) = D.pyL vs := by rw [← List.unzip_snd, List.unzip_zip ln]
          have nk := keys_noDict _ (·.1) fun x hx => (pl x hx).1
          have nv := keys_noDict _ (·.2) fun x hx => (pl x hx).2
          have pv : PyData.plainAll (D.pyL vs) = true := by
            rw [← e2]
            generalize (D.pyL (kvs.map fun p => keyD p.1)).zip (D.pyL vs) = l at pl
            induction l with
            | nil => rfl
            | cons x l ih => rw [List.map_cons, plain_cons, (pl x List.mem_cons_self).2, ih fun y hy => pl y (List.mem_cons_of_mem _ hy)]; rfl
          obtain ⟨z, hd, ws, rel, o, es, ep, ho, hex, hdt, hko, hpr, hnd⟩ := dk_of I.hok h1
          obtain ⟨rk, rvs⟩ := reads_keys (h := s.heap) hpr rel
          obtain ⟨bs, rr⟩ := Dp.readsAll I _ _ _ (RepL.dp (fa := fa) vs _ (RepL.sub sz _ _ h2) pv) rvs
          refine repr_dictP (kvs := (D.pyL (kvs.map fun p => keyD p.1)).zip (D.pyL vs)) ho hex.1 hdt (by rw [e1]; exact rk) (by rw [e2]; exact rr) hd nk nv sh hg (by omega) (fun b o e => e) (fun h' t tk kp => ?_) ?_
          · exact ⟨.str (D.dct (kvs.map fun p => keyD p.1) vs).py.shown, H, I.kept (t' := tk) kp, ⟨t, by simp only [D.py]⟩, k _ _ (NewR.flat fun _ => by simp only [Rep])⟩
          · have h3 := repW_len _ (List.all_eq_true.mpr fun x hx => by rw [(pl x hx).1, (pl x hx).2]; rfl)
            have h4 := dictText_len_le (PyData.shownKv ((D.pyL (kvs.map fun p => keyD p.1)).zip (D.pyL vs)))
            simp only [PyData.shown]
            rw [← line_eq]
            omega
        | _ => simp [okRepD] at okd
      have ok : okRep d.py = true := by
        rw [Bool.or_eq_true] at ok
        exact ok.resolve_right okd
      simp only [okRep, Bool.and_eq_true, decide_eq_true_eq] at ok
      obtain ⟨⟨⟨pl, sh⟩, dp⟩, wd⟩ := ok
      obtain ⟨v, rfl, k1⟩ := kid1 kd
      obtain ⟨u, rfl, ru⟩ := rv.one
      have fit : d.py.shown.length ≤ sizeLine := by rw [← line_eq]; exact Nat.le_trans (shown_len _ pl) wd
      have rep := k1.rep sz
      have dpv := Rep.dp (fa := fa) d v rep pl
      obtain ⟨as, rd⟩ := Dp.reads I d.py v u dpv ru
      have nd := plain_noDict d.py pl
      have fin : ∀ (h' : Heap) (t : Tok) (tk : Nat), (∀ b o, s.heap.get? b = some o → h'.get? b = some o) → EP X pins σ Q (.str d.py.shown t) { s with heap := h', toks := tk } := fun h' t tk kp =>
        ⟨.str d.py.shown, H, I.kept (t' := tk) kp, ⟨t, rfl⟩, k _ _ (NewR.flat fun _ => by simp only [Rep])⟩
      have ref : ∀ a : Addr, u = .ref a → wpAny (model X.prog X.w) X.A (call (.builtin "repr") [u]) (EP X pins σ Q) X.xe s := fun a e => by
        subst e
        exact repr_of_reads' rd sh (fun z => by rw [nd] at z; cases z) hg (by omega) (fun b o e => e) (fun h' t tk kp => fin h' t tk kp) fit
      cases d with
      | lst xs => simp only [Rep] at rep; obtain ⟨a, _, rfl, _⟩ := rep; exact ref a (by cases ru; rfl)
      | tup xs => simp only [Rep] at rep; obtain ⟨a, _, rfl, _⟩ := rep; exact ref a (by cases ru; rfl)
      | int i =>
        simp only [Rep] at rep; subst rep
        obtain ⟨t, rfl⟩ := ru
        refine P.repr_of_int (by simpa [D.py, PyData.showable] using sh) ?_
        have e : (D.int i).py.shown = Str.ofString (toString i) := by simp only [D.py, PyData.shown]
        have f := fin s.heap s.toks (s.toks + 1) fun _ _ e => e
        rw [e] at f
        exact f
      | str x =>
        simp only [Rep] at rep; subst rep
        obtain ⟨t, rfl⟩ := ru
        have e : (D.str x).py.shown = reprText x := by simp only [D.py, PyData.shown]
        have f := fin s.heap s.toks (s.toks + 1) fun _ _ e => e
        rw [e] at f fit
        exact P.repr_of_str f fit
      | bl b =>
        simp only [Rep] at rep; subst rep
        obtain rfl : u = .bool b := ru
        have e : (D.bl b).py.shown = (if b then ("True" : Str) else "False") := by cases b <;> rfl
        have f := fin s.heap s.toks (s.toks + 1) fun _ _ e => e
        rw [e] at f
        exact P.repr_of_bool f
      | non =>
        simp only [Rep] at rep; subst rep
        obtain rfl : u = .none := ru
        have e : D.non.py.shown = Str.ofString "None" := by rfl
        have f := fin s.heap s.toks (s.toks + 1) fun _ _ e => e
        rw [e] at f
        exact P.repr_of_none f
      | dct ks vs => simp [D.py, PyData.plain] at pl
      | set xs => simp [D.py, PyData.plain] at pl
      | rep d => simp [D.py, PyData.plain] at pl
      | fn i => simp [D.py, PyData.plain] at pl
      | scr is => simp [D.py, PyData.plain] at pl
    · cases q
  · cases q
end
end Rt
end
section
set_option linter.all false
set_option autoImplicit false
set_option Elab.async false
set_option maxRecDepth 100000
set_option maxHeartbeats 2000000
/-! for k, x in enumerate(t), t a tuple -/
namespace Rt
open PySem PySem.Spec PyProof.Rows L2
open Sem (wp)

theorem enum_new1 {v : Value} {ob : Obj} {G : Heap → Prop} (B : Begins v ob G) :
    Meets (Builtin.«enumerate.__new__» ⟨[.type "enumerate", v], []⟩) (fun _ R st => G st.heap ∧
      R (.ok (.ret (.ref (st.heap.push ob).objs.size))) { st with heap := (st.heap.push ob).push { cls := .type "enumerate", data := .fields #[.none, .bool false, .ref st.heap.objs.size, rawInt 0, .none, .none] } }) :=
  .of_wp fun pg wd A R st both => by
    obtain ⟨hp, gs, dr, tk, os⟩ := st
    obtain ⟨gv, fin⟩ := both
    have hsub := sub_enumerate
    have mv : ∀ {A' : Around} {E : Value → Shared → Prop} {Q : Value → Shared → Prop}, Q (.ref hp.objs.size) ⟨hp.push ob, gs, dr, tk, os⟩ → wpAny (model pg wd) A' (pyIter v) Q E ⟨hp, gs, dr, tk, os⟩ :=
      fun q => B.iter pg wd _ _ ⟨hp, gs, dr, tk, os⟩ _ gv q
    wp_walk using mv
    refine wpAny_stack_any fun _ => wpAny_pure ?_
    split
    · rename_i k1 _ _ _ _ _
      cases (k1 == Value.type "enumerate")
      all_goals
        wp_walk using mv
        exact ⟨_, rfl, fin⟩
    · wp_walk using mv
      exact ⟨_, rfl, fin⟩
section
variable {pg : Program} {wd : World} {A : Around} {E : Value → Shared → Prop} {st : Shared}
theorem enum_call1 {v : Value} {ob : Obj} {G : Heap → Prop} {Q : Value → Shared → Prop} (B : Begins v ob G) (gv : G st.heap)
    (fin : ∀ h2, IsEnum h2 (st.heap.objs.size + 1) st.heap.objs.size 0 .none → h2.get? st.heap.objs.size = some ob →
      (∀ b o, st.heap.get? b = some o → h2.get? b = some o) → Q (.ref (st.heap.objs.size + 1)) { st with heap := h2 }) :
    wpAny (model pg wd) A (call (.type "enumerate") [v]) Q E st := by
  refine callType_new F.called_enumerate (by decide) (F.typeCall_enumerate_1 _) (F.newCall_enumerate_1 _) (fun obj => F.args_object_init_2 obj _) F.entry_enumerate_new (enum_new1 B) ⟨gv, ?_⟩
  have sz : (st.heap.push ob).objs.size = st.heap.objs.size + 1 := Heap.size_push ..
  show _ ∧ _
  rw [sz]
  have at_ := Heap.get?_push_size (st.heap.push ob) (o := { cls := .type "enumerate", data := .fields #[.none, .bool false, .ref st.heap.objs.size, rawInt 0, .none, .none] }) rfl
  rw [sz] at at_
  exact ⟨⟨_, at_, rfl⟩, fin _ at_ (Heap.get?_push_of_some _ (Heap.get?_push_size _ B.free)) fun b o x => Heap.get?_push_of_some _ (Heap.get?_push_of_some _ x)⟩
theorem enum_endT {en it t : Addr} {k : Nat} {its : Array Value} {last : Value} {Q : Option Value → Shared → Prop} (calm : A.handled = none)
    (he : IsEnum st.heap en it k last) (hit : st.heap.IsTupleIter it t k) (tup : st.heap.IsTuple t its) (none_ : its[k]? = none) (fin : ∀ h2, Heap.ExtBut it st.heap h2 → Q none { st with heap := h2 }) : wpAny (model pg wd) A (pyNext (.ref en)) Q E st := by
  have ty : st.TypeIs (.ref en) "enumerate" := ⟨_, he, rfl⟩
  unfold pyNext
  refine wpAny_bind (wpAny_attempt (wpAny_callSpecial?_slot (name := Str.ofString "__next__") ty F.slot_enumerate_next (wpAny_call_entry F.slot_enumerate_next ty F.entry_enumerate_next ?_ (F.args_enumerate_next_1 _))))
  show wpAny _ _ (field (.ref en) 2 >>= _) _ _ st
  refine wpAny_bind (wpAny_field he rfl (x := .ref it) rfl (wpAny_bind (wpAny_nextOf_tuple_end calm hit tup none_ fun h2 x eb ⟨o, q1, q2⟩ => ?_)))
  exact wpAny_bind (wpAny_isInstance (T := "StopIteration") (b := true) ⟨o, q1, q2⟩ isSubtype_stop (wpAny_pure (fin _ eb)))
end
/-- the tuple's items in new pairs -/
def ItE (K : PySem.W.Frag) (t : Addr) : It where
  go := fun k H => ∃ ys y, SqT K H t ys ∧ ys[k]? = some y
  yld := fun k H v H2 => ∃ p y, v = .ref p ∧ H p = none ∧ H2 = upd H p (.tup [.int (k : Nat), y]) ∧ ∀ ys, SqT K H t ys → ys[k]? = some y
  stop := fun k H => ∃ ys, SqT K H t ys ∧ ys.length ≤ k
theorem turn_enumT {P : Program} {w : World} {K : PySem.W.Frag} {els : List Expr} {kk : Nat} {tp : Pos} (t en it : Addr) :
    Turn P w K (.Tuple els kk tp) (ItE K t) [en, it] en (fun k h => (∃ last, IsEnum h en it ((k : Nat) : Int) last) ∧ h.IsTupleIter it t k ∧ en ≠ it) where
  mem := List.mem_cons_self
  obj := fun k h st b hb => by
    obtain ⟨⟨last, he⟩, ⟨o, ho, _, hd⟩, _⟩ := st
    rcases List.mem_cons.mp hb with z | z
    · rw [z]
      exact ⟨_, he, fun v q => nomatch q⟩
    · rw [List.mem_singleton.mp z]
      exact ⟨o, ho, fun v q => by rw [hd] at q; cases q⟩
  keep := fun k h h2 st same => let ⟨⟨last, he⟩, hi, ne⟩ := st; ⟨⟨last, same en List.mem_cons_self _ he⟩, hi.at fun o q => same it (List.mem_cons_of_mem _ List.mem_cons_self) o q, ne⟩
  item := by
    intro X eP ew eK calm k pins s σ H E I fp ⟨⟨last, he⟩, hit, ne⟩ ⟨ys, y, hq, hy⟩
    subst eP ew eK
    obtain ⟨its, rv, tup, _⟩ := I.tuple hq
    obtain ⟨u, hu, ru⟩ := rv.get hy
    have len : k < its.toArray.size := by
      have := (List.getElem?_eq_some_iff.mp hu).1
      simpa using this
    have ti : t ≠ it := fun z => by
      obtain ⟨o, q1, q2, _⟩ := hit
      obtain ⟨o', q3, q4, _⟩ := tup
      rw [z, q1] at q3; cases q3
      rw [q2] at q4; exact absurd q4 (by decide)
    have te : en ≠ t := fun z => by
      obtain ⟨o', q3, q4, _⟩ := tup
      rw [← z, he] at q3; cases q3
      have q5 : Value.type "enumerate" = Value.type "tuple" := q4
      exact absurd q5 (by decide)
    have Dr := Draws.tuple (prog := X.prog) (w := X.w) (A := X.A.in1) (I.ok.hd calm) it t ti its.toArray
    have bounds : en < s.heap.objs.size ∧ it < s.heap.objs.size := by
      obtain ⟨_, q, _⟩ := hit
      exact ⟨Heap.lt_size he, Heap.lt_size q⟩
    refine wpAny_pyNext_enum_itemD Dr he ⟨hit, tup⟩ len ne (by simp [ne, te]) fun x h2 tk hx out ⟨hit2, _⟩ hT sz kp => ?_
    have ex : x = u := by
      rw [List.getElem?_toArray, hu] at hx
      exact (Option.some.inj hx).symm
    subst ex
    refine ⟨_, rfl, wpAny_letOwnedTupleGo_enum (s := { s with heap := h2, toks := tk + 1 }) out fun h3 he3 sb => ?_⟩
    have hT3 : h3.get? s.heap.objs.size = some { cls := .type "tuple", data := .seq #[.int k tk, x] } := (sb.2 _ (Nat.ne_of_gt bounds.1)).trans hT
    have new : ObjOk X.prog X.w (upd H s.heap.objs.size (.tup [.int (k : Nat), y])) h3 s.heap.objs.size (.tup [.int (k : Nat), y]) :=
      ⟨by show 2 ≤ sizeLine; decide, [.int k tk, x], .cons ⟨_, rfl⟩ (.cons ru .nil), ⟨_, hT3, rfl, _, rfl⟩⟩
    have rest : ∀ b o, b ∉ [en, it] → s.heap.get? b = some o → h3.get? b = some o := fun b o nb q => by
      have n1 : b ≠ en := fun z => nb (z ▸ List.mem_cons_self)
      have n2 : b ≠ it := fun z => nb (z ▸ List.mem_cons_of_mem _ List.mem_cons_self)
      exact (sb.2 b n1).trans (kp b o n1 n2 q)
    have I3 := I.turnedNew (t' := tk + 1) (ch := [en, it]) rest fp (Nat.le_refl _) new
    have step : ((k + 1 : Nat) : Int) = (k : Int) + 1 := by omega
    refine ⟨.ref s.heap.objs.size, _, I3, rfl, ⟨_, y, rfl, I.hok.fresh (Nat.le_refl _), rfl, fun zs hz => by rw [I.tuple_inj hz hq]; exact hy⟩, ⟨⟨x, step ▸ he3⟩, hit2.at fun o q => (sb.2 it (Ne.symm ne)).trans q, ne⟩, fun b hb => ?_⟩
    have lt : b < s.heap.objs.size := by
      rcases List.mem_cons.mp hb with z | z
      · exact z ▸ bounds.1
      · exact (List.mem_singleton.mp z) ▸ bounds.2
    rw [upd_ne (Nat.ne_of_lt lt)]
    exact (fp b hb).1
  done := by
    intro X eP ew eK calm k pins s σ H E I fp ⟨⟨last, he⟩, hit, ne⟩ ⟨ys, hq, hy⟩
    subst eP ew eK
    obtain ⟨its, rv, tup, _⟩ := I.tuple hq
    have ti : t ≠ it := fun z => by
      obtain ⟨o, q1, q2, _⟩ := hit
      obtain ⟨o', q3, q4, _⟩ := tup
      rw [z, q1] at q3; cases q3
      rw [q2] at q4; exact absurd q4 (by decide)
    obtain ⟨f0, f1, f2, f3, f4, f5⟩ := fp it (List.mem_cons_of_mem _ List.mem_cons_self)
    have ll := rv.length
    refine enum_endT (I.ok.hd calm) he hit tup (by simp; omega) fun h2 eb => ⟨rfl, I.turned (t' := s.toks) (fun b o nb q => eb b o nb q) f0 f1 f3 f4 f5⟩
  self := fun _ _ _ _ _ ⟨⟨_, he⟩, _⟩ q => wpAny_pyIter_enum he q
def iEnT (K : PySem.W.Frag) (ta : TA) : TI := fun σ H R => ta σ H fun vs H1 => ∃ t ys, vs = [.ref t] ∧ SqT K H1 t ys ∧ R (ItE K t) H1
theorem pi_enumT {X : Cx} {e : Expr} {ta : TA} {p pos tp : Pos} {els : List Expr} {kk : Nat} (hg : Gl X "enumerate") (hm : X.mg "enumerate" = none) (ha : PA X [e] ta) (hs : starEach [e] X.env = [(false, eval e X.env)]) :
    PI X (.Tuple els kk tp) (.Call (.Name "enumerate" p) [e] [] pos) (iEnT X.K ta) := ⟨fun pins s σ H R I h => by
  refine Call_ (ld_blt I hg hm boot_enumerate (PyProof.Rows.callWith_type1 (thn (ha.run pos pins s σ H _ I h) fun us s1 ⟨vs, H1, I1, r1, q1⟩ => ?_) hs rfl))
  obtain ⟨t, ys, e1, hq, q⟩ := q1
  subst e1
  cases r1 with
  | cons r nil_ =>
    cases nil_
    cases r
    obtain ⟨its, rv, tup, _⟩ := I1.tuple hq
    refine enum_call1 (begins_tuple t its.toArray) tup fun h2 he hit kp => wpAny_pyIter_enum he ?_
    refine ⟨_, [s1.heap.objs.size + 1, s1.heap.objs.size], _, _, H1, rfl, I1.kept (t' := s1.toks) kp, turn_enumT t (s1.heap.objs.size + 1) s1.heap.objs.size, ⟨⟨.none, he⟩, ⟨_, hit, rfl, rfl⟩, Nat.succ_ne_self _⟩, fun b hb => ?_, q⟩
    have le : s1.heap.objs.size ≤ b := by
      rcases List.mem_cons.mp hb with z | z
      · rw [z]; exact Nat.le_succ _
      · rw [List.mem_singleton.mp z]; exact Nat.le_refl _
    exact I1.fpOk le (I1.hok.fresh le)⟩
end Rt
end
section
set_option linter.all false
set_option autoImplicit false
set_option Elab.async false
set_option maxRecDepth 100000
set_option maxHeartbeats 2000000
namespace Rt
open PySem PySem.Spec PyProof.Rows L2
/-! ### what is walked -/
/-- the walk J gives the items; Zt: where what is walked stands, Zi: where its items stand -/
structure Wk (fa : Nat → Addr) (K : PySem.W.Frag) (Zt Zi : Hp) (J : It) (items : List D) : Prop where
  go : ∀ (i : Nat) (H : Hp) (d : D), Sub Zt H → Sub Zi H → items[i]? = some d → J.go i H ∧ ∀ x H', J.yld i H x H' → NewR fa K Zi H H' false d x
  stop : ∀ (i : Nat) (H : Hp), Sub Zt H → Sub Zi H → items.length ≤ i → J.stop i H
def tI (X : Cx) (tg iter : Expr) : TI := fun σ H R => ∀ (pins : List (Addr × Obj)) (s : Shared), Inv X pins σ H s → wpAny (model X.prog X.w) X.A (eval iter X.env) (fun v s1 => wpAny (model X.prog X.w) X.A (pyIter v) (PIE X pins σ tg R) X.xe s1) X.xe s
section
variable {fa ca : Nat → Addr} {X : Cx} {a b c e tg iter elt : Expr} {da db dc : Ex} {ta tb tc : Tst} {pos : Pos} {it : Itr}
theorem piI : PI X tg iter (tI X tg iter) := ⟨fun pins s σ H R I h => h pins s I⟩
theorem of_pi {wi : TI} {σ : L2.St} {H : Hp} {R : It → Hp → Prop} (h : PI X tg iter wi) (k : wi σ H R) : tI X tg iter σ H R := fun pins s I => h.run pins s σ H R I k
def SndI (fa ca : Nat → Addr) (X : Cx) (tg iter : Expr) (f : Itr) : Prop := ∀ (W : WX), Takes X W → ∀ (N : Addr → Prop) (H : Hp) (σ : L2.St) (E : Env) (R : It → Hp → Prop), SR fa X.K N H σ E →
  Post ca W H σ (fun q => ∀ J H', Sub H H' → Wk fa X.K (hide H' (del N σ q.2)) (hide H' N) J q.1 → R J H') (f E) → tI X tg iter σ H R
theorem SndI.bd {β : Type} {P : β → Prop} {W : WX} {N : Addr → Prop} {H0 H : Hp} {σ : L2.St} {E : Env} {k : List D × List Nat → R β} {R : It → Hp → Prop} (ha : SndI fa ca X tg iter it) (tk : Takes X W) (s : SR fa X.K N H σ E) (g : Sub H0 H)
    (h : Post ca W H0 σ P ((it E).bd k)) (hk : ∀ q J H1, it E = .ok q → Sub H H1 → Wk fa X.K (hide H1 (del N σ q.2)) (hide H1 N) J q.1 → Post ca W H0 σ P (k q) → R J H1) : tI X tg iter σ H R := by
  refine ha W tk N H σ E R s ?_
  cases q : it E with
  | ok r => rw [q] at h; exact fun v H1 g1 rr => hk r v H1 q g1 rr h
  | ex c x => rw [q] at h; exact fun dd H' g' ed => h dd H' (g.trans g') (ed.from g)
  | bad => rw [q] at h; exact h.elim
theorem noDep_ok {K : PySem.W.Frag} {N : Addr → Prop} {H H' : Hp} {σ : L2.St} {E : Env} {items xs : List D} {l p : List Nat} {vs : List V} (s : SR fa K N H σ E) (g : Sub H H') (e : noDep items p = .ok (xs, l)) (h : RepL fa K (hide H' (del N σ p)) items vs) :
    RepL fa K (hide H' N) xs vs ∧ xs = items := by
  unfold noDep at e
  cases p with
  | nil =>
    simp only [R.ok.injEq, Prod.mk.injEq] at e
    obtain ⟨rfl, _⟩ := e
    exact ⟨RepL.sub (hide_mono (Sub.refl _) fun b _ _ n => del_nil.mpr n) _ _ h, rfl⟩
  | cons i p =>
    dsimp only at e
    split at e
    · rename_i im
      simp only [R.ok.injEq, Prod.mk.injEq] at e
      obtain ⟨rfl, _⟩ := e
      exact ⟨RepL.unhide (fun b n => by obtain ⟨o, q, m⟩ := s.sub b n; exact ⟨o, g _ _ q, m⟩) _ _ im h, rfl⟩
    · cases e
theorem noDep_bd {α : Type} {items : List D} {p : List Nat} (k : List D × List Nat → R α) : noDep items p = .ok (items, []) ∧ (noDep items p).bd k = k (items, []) ∨ noDep items p = .bad ∧ (noDep items p).bd k = .bad := by
  unfold noDep
  cases p with
  | nil => exact .inl ⟨rfl, rfl⟩
  | cons i p =>
    by_cases im : D.immL items = true
    · simp [im]
    · simp [im]
theorem wk_list {K : PySem.W.Frag} {Zt Zi : Hp} {a : Addr} {vs : List V} {ds : List D} (h : Zt a = some (.lst vs)) (hi : RepL fa K Zi ds vs) : Wk fa K Zt Zi (Itl K a) ds where
  go := fun i H d st si e => by
    obtain ⟨v, q1, q2⟩ := hi.get e
    refine ⟨⟨vs, v, SqL.of (st _ _ h), q1⟩, fun x H' y => ?_⟩
    obtain ⟨rfl, y⟩ := y
    have z := y vs (SqL.of (st _ _ h))
    rw [q1] at z; cases z
    exact NewR.old q2 si
  stop := fun i H st si le => ⟨vs, SqL.of (st _ _ h), by rw [← hi.length]; exact le⟩
theorem wk_tup {K : PySem.W.Frag} {Zt Zi : Hp} {a : Addr} {vs : List V} {ds : List D} (h : SqT K Zt a vs) (hi : RepL fa K Zi ds vs) : Wk fa K Zt Zi (Itt K a) ds where
  go := fun i H d st si e => by
    obtain ⟨v, q1, q2⟩ := hi.get e
    refine ⟨⟨vs, v, SqT.sub h st, q1⟩, fun x H' y => ?_⟩
    obtain ⟨rfl, y⟩ := y
    have z := y vs (SqT.sub h st)
    rw [q1] at z; cases z
    exact NewR.old q2 si
  stop := fun i H st si le => ⟨vs, SqT.sub h st, by rw [← hi.length]; exact le⟩
theorem wk_range {K : PySem.W.Frag} {Zt Zi : Hp} {lo : Int} {n : Nat} : Wk fa K Zt Zi (L2.Itr lo n) ((upto lo n).map .int) where
  go := fun i H d st si e => by
    simp only [upto, List.map_map, List.getElem?_map, Option.map_eq_some_iff] at e
    obtain ⟨k, e1, e2⟩ := e
    have lt : i < n := by
      have := (List.getElem?_eq_some_iff.mp e1).1
      simpa using this
    rw [List.getElem?_range lt] at e1
    cases e1
    refine ⟨lt, fun x H' y => ?_⟩
    obtain ⟨rfl, rfl⟩ := y
    rw [← e2]
    exact newR_int
  stop := fun i H st si le => by
    have : n ≤ i := by simpa [upto] using le
    exact this
theorem numbered_get : ∀ {ds : List D} {k i : Nat} {d : D}, (numbered k ds)[i]? = some d → ∃ e, ds[i]? = some e ∧ d = .tup [.int ((k + i : Nat) : Int), e]
  | [], _, _, _, h => by simp [numbered] at h
  | x :: xs, k, 0, d, h => by
    simp only [numbered, List.getElem?_cons_zero, Option.some.injEq] at h
    exact ⟨x, by simp, by rw [← h]; simp⟩
  | x :: xs, k, i + 1, d, h => by
    simp only [numbered, List.getElem?_cons_succ] at h
    obtain ⟨e, h1, h2⟩ := numbered_get h
    refine ⟨e, by simpa using h1, ?_⟩
    rw [h2]
    have : k + 1 + i = k + (i + 1) := by omega
    rw [this]
theorem numbered_length : ∀ (ds : List D) (k : Nat), (numbered k ds).length = ds.length
  | [], _ => rfl
  | x :: xs, k => by simp [numbered, numbered_length xs]
theorem wk_enum {K : PySem.W.Frag} {Zt Zi : Hp} {a : Addr} {vs : List V} {ds : List D} (h : Zt a = some (.lst vs)) (hi : RepL fa K Zi ds vs) : Wk fa K Zt Zi (Ite K a) (numbered 0 ds) where
  go := fun i H d st si e => by
    obtain ⟨e0, e1, e2⟩ := numbered_get e
    obtain ⟨v, q1, q2⟩ := hi.get e1
    refine ⟨⟨vs, v, SqL.of (st _ _ h), q1⟩, fun x H' y => ?_⟩
    obtain ⟨T, w, rfl, nT, rfl, y⟩ := y
    have z := y vs (SqL.of (st _ _ h))
    rw [q1] at z; cases z
    rw [e2, Nat.zero_add]
    exact NewR.tuple nT si (.cons_ (by simp [Rep]) (.one q2))
  stop := fun i H st si le => ⟨vs, SqL.of (st _ _ h), by rw [← hi.length, ← numbered_length ds 0]; exact le⟩
theorem wk_enumT {K : PySem.W.Frag} {Zt Zi : Hp} {a : Addr} {vs : List V} {ds : List D} (h : SqT K Zt a vs) (hi : RepL fa K Zi ds vs) : Wk fa K Zt Zi (ItE K a) (numbered 0 ds) where
  go := fun i H d st si e => by
    obtain ⟨e0, e1, e2⟩ := numbered_get e
    obtain ⟨v, q1, q2⟩ := hi.get e1
    refine ⟨⟨vs, v, SqT.sub h st, q1⟩, fun x H' y => ?_⟩
    obtain ⟨T, w, rfl, nT, rfl, y⟩ := y
    have z := y vs (SqT.sub h st)
    rw [q1] at z; cases z
    rw [e2, Nat.zero_add]
    exact NewR.tuple nT si (.cons_ (by simp [Rep]) (.one q2))
  stop := fun i H st si le => ⟨vs, SqT.sub h st, by rw [← hi.length, ← numbered_length ds 0]; exact le⟩
theorem paired_get : ∀ {ds es : List D} {i : Nat} {d : D}, (paired ds es)[i]? = some d → ∃ x y, ds[i]? = some x ∧ es[i]? = some y ∧ d = .tup [x, y]
  | [], es, _, _, h => by cases es <;> simp [paired] at h
  | x :: xs, [], _, _, h => by simp [paired] at h
  | x :: xs, y :: ys, 0, d, h => by
    simp only [paired, List.getElem?_cons_zero, Option.some.injEq] at h
    exact ⟨x, y, by simp, by simp, h.symm⟩
  | x :: xs, y :: ys, i + 1, d, h => by
    simp only [paired, List.getElem?_cons_succ] at h
    obtain ⟨e, f, h1, h2, h3⟩ := paired_get h
    exact ⟨e, f, by simpa using h1, by simpa using h2, h3⟩
theorem paired_length : ∀ (ds es : List D), (paired ds es).length = min ds.length es.length
  | [], es => by cases es <;> simp [paired]
  | x :: xs, [] => by simp [paired]
  | x :: xs, y :: ys => by simp [paired, paired_length xs ys]
theorem wk_zip {K : PySem.W.Frag} {Zt Zi : Hp} {a b : Addr} {vs us : List V} {ds es : List D} (h : Zt a = some (.lst vs)) (h' : Zt b = some (.lst us)) (hi : RepL fa K Zi ds vs) (hi' : RepL fa K Zi es us) : Wk fa K Zt Zi (Itz K a b) (paired ds es) where
  go := fun i H d st si e => by
    obtain ⟨e0, f0, e1, f1, e2⟩ := paired_get e
    obtain ⟨v, q1, q2⟩ := hi.get e1
    obtain ⟨u, r1, r2⟩ := hi'.get f1
    refine ⟨⟨vs, us, v, u, SqL.of (st _ _ h), SqL.of (st _ _ h'), q1, r1⟩, fun x H' y => ?_⟩
    obtain ⟨T, w, z, rfl, nT, rfl, y1, y2⟩ := y
    have z1 := y1 vs (SqL.of (st _ _ h))
    rw [q1] at z1; cases z1
    have z2 := y2 us (SqL.of (st _ _ h'))
    rw [r1] at z2; cases z2
    rw [e2]
    exact NewR.tuple nT si (.cons_ q2 (.one r2))
  stop := fun i H st si le => ⟨vs, us, SqL.of (st _ _ h), SqL.of (st _ _ h'), by rw [← hi.length, ← hi'.length]; rw [paired_length] at le; omega⟩
/-- a list or a tuple -/
theorem snd_seq (ha : Snd fa ca X a da) : SndI fa ca X tg a (iSeq da) := fun W tk N H σ E R s p => by
  unfold iSeq at p
  by_cases ht : ∃ r xs, da E = .ok r ∧ r.d = .tup xs
  · obtain ⟨r0, xs0, z1, z2⟩ := ht
    refine of_pi (pi_tup (peE (e := a))) ?_
    show tE X a σ H _
    refine ha.bd tk s (Sub.refl _) p fun r x H1 e1 g1 r1 p1 => ?_
    rw [z1] at e1; cases e1
    have k1 := r1.kid s g1
    have k2 := r1.all s g1
    rw [z2] at k1 k2
    simp only [z2] at p1
    rcases noDep_bd (items := xs0) (p := r0.kc) (fun q => .ok (q.1, r0.kp)) with ⟨n1, n2⟩ | ⟨n1, n2⟩ <;> rw [n2] at p1
    · have ek : r0.kp = r0.kc := by
        unfold Rv.kp Rv.kc
        cases et : r0.t with
        | sl i =>
          unfold RR at r1
          rw [et] at r1
          obtain ⟨ad, _, _, tp⟩ := s.ow _ _ r1.1
          rw [z2] at tp
          exact tp.elim
        | _ => rfl
      simp only [Rep] at k2
      obtain ⟨v', vs', e', h3, h4⟩ := k2
      subst e'
      exact ⟨_, rfl, ⟨vs', SqT.sub h3 hide_sub⟩, p1 _ H1 g1 (wk_tup h3 (noDep_ok s g1 n1 (ek ▸ h4)).1)⟩
    · exact p1.elim
  · refine of_pi (pi_list (peE (e := a))) ?_
    show tE X a σ H _
    refine ha.bd tk s (Sub.refl _) p fun r x H1 e1 g1 r1 p1 => ?_
    have k1 := r1.kid s g1
    have k2 := r1.all s g1
    cases hd : r.d <;> simp only [hd] at p1 k1 k2 <;> try exact p1.elim
    · rename_i xs0
      rcases noDep_bd (items := xs0) (p := r.kc) (fun q => .ok (q.1, r.kp)) with ⟨n1, n2⟩ | ⟨n1, n2⟩ <;> rw [n2] at p1
      · simp only [Rep] at k2
        obtain ⟨v, vs, e, h1, h2⟩ := k1
        obtain ⟨v', vs', e', h3, h4⟩ := k2
        subst e; cases e'
        have : vs' = vs := by
          have q3 := hide_sub _ _ h3
          rw [h1] at q3; cases q3; rfl
        subst this
        exact ⟨_, rfl, ⟨vs', SqL.of h1⟩, p1 _ H1 g1 (wk_list h3 (noDep_ok s g1 n1 h2).1)⟩
      · exact p1.elim
    · exact (ht ⟨r, _, e1, hd⟩).elim
theorem snd_range1 {p0 : Pos} (hg : Gl X "range") (hm : X.mg "range" = none) (hs : notStar a = true) (ha : Snd fa ca X a da) : SndI fa ca X tg (.Call (.Name "range" p0) [a] [] pos) (iRng1 da) := fun W tk N H σ E R s p => by
  refine of_pi (pi_range1 hg hm (pa_cons (peE (e := a)) pa_nil (star_cons hs)) (star_cons hs)) ?_
  unfold iRng1 at p
  show tE X a σ H _
  refine ha.bd tk s (Sub.refl _) p fun r x H1 e1 g1 r1 p1 => ?_
  have k1 := r1.kid s g1
  cases hd : r.d <;> simp only [hd] at p1 k1 <;> try exact p1.elim
  rename_i n
  split at p1
  · rename_i ok
    simp only [okRng, Bool.and_eq_true, below_iff] at ok
    have e := k1.int; subst e
    exact ⟨n, rfl, by omega, by omega, p1 _ H1 g1 wk_range⟩
  · exact p1.elim
theorem snd_range2 {p0 : Pos} (hg : Gl X "range") (hm : X.mg "range" = none) (hs : notStar a = true) (hs2 : notStar b = true) (ha : Snd fa ca X a da) (hb : Snd fa ca X b db) : SndI fa ca X tg (.Call (.Name "range" p0) [a, b] [] pos) (iRng2 da db) := fun W tk N H σ E R s p => by
  refine of_pi (pi_range2 hg hm (pa_cons (peE (e := a)) (pa_cons (peE (e := b)) pa_nil (star_cons hs2)) (star_cons hs)) (by rw [star_cons hs, star_cons hs2]; rfl) (star_cons hs2)) ?_
  unfold iRng2 at p
  show tE X a σ H _
  refine ha.bd tk s (Sub.refl _) p fun r x H1 e1 g1 r1 p1 => ?_
  refine hb.bd tk (s.grow g1) g1 p1 fun r' y H2 e2 g2 r2 p2 => ?_
  have k1 := (r1.grow g2).kid s (g1.trans g2)
  have k2 := r2.kid (s.grow g1) g2
  cases hd : r.d <;> simp only [hd] at p2 k1 <;> try exact p2.elim
  cases hd2 : r'.d <;> simp only [hd2] at p2 k2 <;> try exact p2.elim
  rename_i m n
  split at p2
  · rename_i ok
    simp only [okRng, Bool.and_eq_true, below_iff] at ok
    have e := k1.int; subst e
    have e := k2.int; subst e
    exact ⟨m, n, rfl, ⟨by omega, by omega, by omega, by omega⟩, p2 _ H2 (g1.trans g2) wk_range⟩
  · exact p2.elim
/-- a walked thing that is a list, or a tuple -/
theorem snd_enum {p0 tp : Pos} {els : List Expr} {kk : Nat} (hg : Gl X "enumerate") (hm : X.mg "enumerate" = none) (hs : notStar a = true) (ha : Snd fa ca X a da) : SndI fa ca X (.Tuple els kk tp) (.Call (.Name "enumerate" p0) [a] [] pos) (iEnum da) := fun W tk N H σ E R s p => by
  unfold iEnum at p
  by_cases ht : ∃ r xs, da E = .ok r ∧ r.d = .tup xs
  · obtain ⟨r0, xs0, z1, z2⟩ := ht
    refine of_pi (pi_enumT hg hm (pa_cons (peE (e := a)) pa_nil (star_cons hs)) (star_cons hs)) ?_
    show tE X a σ H _
    refine ha.bd tk s (Sub.refl _) p fun r x H1 e1 g1 r1 p1 => ?_
    rw [z1] at e1; cases e1
    have k2 := r1.all s g1
    rw [z2] at k2
    simp only [z2] at p1
    rcases noDep_bd (items := xs0) (p := r0.kc) (fun q => .ok (numbered 0 q.1, r0.kp)) with ⟨n1, n2⟩ | ⟨n1, n2⟩ <;> rw [n2] at p1
    · have ek : r0.kp = r0.kc := by
        unfold Rv.kp Rv.kc
        cases et : r0.t with
        | sl i =>
          unfold RR at r1
          rw [et] at r1
          obtain ⟨ad, _, _, tp⟩ := s.ow _ _ r1.1
          rw [z2] at tp
          exact tp.elim
        | _ => rfl
      simp only [Rep] at k2
      obtain ⟨v', vs', e', h3, h4⟩ := k2
      subst e'
      exact ⟨_, vs', rfl, SqT.sub h3 hide_sub, p1 _ H1 g1 (wk_enumT h3 (noDep_ok s g1 n1 (ek ▸ h4)).1)⟩
    · exact p1.elim
  · refine of_pi (pi_enum hg hm (pa_cons (peE (e := a)) pa_nil (star_cons hs)) (star_cons hs)) ?_
    show tE X a σ H _
    refine ha.bd tk s (Sub.refl _) p fun r x H1 e1 g1 r1 p1 => ?_
    have k1 := r1.kid s g1
    have k2 := r1.all s g1
    cases hd : r.d <;> simp only [hd] at p1 k1 k2 <;> try exact p1.elim
    · rename_i xs0
      rcases noDep_bd (items := xs0) (p := r.kc) (fun q => .ok (numbered 0 q.1, r.kp)) with ⟨n1, n2⟩ | ⟨n1, n2⟩ <;> rw [n2] at p1
      · simp only [Rep] at k2
        obtain ⟨v, vs, e, h1, h2⟩ := k1
        obtain ⟨v', vs', e', h3, h4⟩ := k2
        subst e; cases e'
        have : vs' = vs := by
          have q3 := hide_sub _ _ h3
          rw [h1] at q3; cases q3; rfl
        subst this
        exact ⟨_, vs', rfl, SqL.of h1, p1 _ H1 g1 (wk_enum h3 (noDep_ok s g1 n1 h2).1)⟩
      · exact p1.elim
    · exact (ht ⟨r, _, e1, hd⟩).elim
theorem wk_zipT {K : PySem.W.Frag} {Zt Zi : Hp} {a b : Addr} {vs us : List V} {ds es : List D} (h : SqT K Zt a vs) (h' : SqT K Zt b us) (hi : RepL fa K Zi ds vs) (hi' : RepL fa K Zi es us) : Wk fa K Zt Zi (RZ.ItzT K a b) (paired ds es) where
  go := fun i H d st si e => by
    obtain ⟨e0, f0, e1, f1, e2⟩ := paired_get e
    obtain ⟨v, q1, q2⟩ := hi.get e1
    obtain ⟨u, r1, r2⟩ := hi'.get f1
    refine ⟨⟨vs, us, v, u, SqT.sub h st, SqT.sub h' st, q1, r1⟩, fun x H' y => ?_⟩
    obtain ⟨T, w, z, rfl, nT, rfl, y1, y2⟩ := y
    have z1 := y1 vs (SqT.sub h st)
    rw [q1] at z1; cases z1
    have z2 := y2 us (SqT.sub h' st)
    rw [r1] at z2; cases z2
    rw [e2]
    exact NewR.tuple nT si (.cons_ q2 (.one r2))
  stop := fun i H st si le => ⟨vs, us, SqT.sub h st, SqT.sub h' st, by rw [← hi.length, ← hi'.length]; rw [paired_length] at le; omega⟩
theorem wk_zipTL {K : PySem.W.Frag} {Zt Zi : Hp} {a b : Addr} {vs us : List V} {ds es : List D} (h : SqT K Zt a vs) (h' : Zt b = some (.lst us)) (hi : RepL fa K Zi ds vs) (hi' : RepL fa K Zi es us) : Wk fa K Zt Zi (RZ.ItzTL K a b) (paired ds es) where
  go := fun i H d st si e => by
    obtain ⟨e0, f0, e1, f1, e2⟩ := paired_get e
    obtain ⟨v, q1, q2⟩ := hi.get e1
    obtain ⟨u, r1, r2⟩ := hi'.get f1
    refine ⟨⟨vs, us, v, u, SqT.sub h st, SqL.of (st _ _ h'), q1, r1⟩, fun x H' y => ?_⟩
    obtain ⟨T, w, z, rfl, nT, rfl, y1, y2⟩ := y
    have z1 := y1 vs (SqT.sub h st)
    rw [q1] at z1; cases z1
    have z2 := y2 us (SqL.of (st _ _ h'))
    rw [r1] at z2; cases z2
    rw [e2]
    exact NewR.tuple nT si (.cons_ q2 (.one r2))
  stop := fun i H st si le => ⟨vs, us, SqT.sub h st, SqL.of (st _ _ h'), by rw [← hi.length, ← hi'.length]; rw [paired_length] at le; omega⟩
theorem snd_zip {p0 tp : Pos} {els : List Expr} {kk : Nat} (hg : Gl X "zip") (hm : X.mg "zip" = none) (hs : notStar a = true) (hs2 : notStar b = true) (ha : Snd fa ca X a da) (hb : Snd fa ca X b db) : SndI fa ca X (.Tuple els kk tp) (.Call (.Name "zip" p0) [a, b] [] pos) (iZip da db) := fun W tk N H σ E R s p => by
  refine of_pi (RZ.pi_zipM hg hm (pa_cons (peE (e := a)) (pa_cons (peE (e := b)) pa_nil (star_cons hs2)) (star_cons hs)) (star_cons hs) (by rw [star_cons hs2]; rfl)) ?_
  unfold iZip at p
  show tE X a σ H _
  refine ha.bd tk s (Sub.refl _) p fun r x H1 e1 g1 r1 p1 => ?_
  refine hb.bd tk (s.grow g1) g1 p1 fun r' y H2 e2 g2 r2 p2 => ?_
  have g12 := g1.trans g2
  have r1' := r1.grow g2
  have r2' := r2.from g1
  have k1 := r1'.kid s g12
  have k2 := r2'.kid s g12
  have l1 := r1'.all s g12
  have l2 := r2'.all s g12
  cases hd : r.d <;> simp only [hd] at p2 k1 l1 <;> try exact p2.elim
  · cases hd2 : r'.d <;> simp only [hd2] at p2 k2 l2 <;> try exact p2.elim
    rename_i xs ys
    rcases noDep_bd (items := xs) (p := r.kc) (fun q => (noDep ys r'.kc).bd fun q' => .ok (paired q.1 q'.1, r.kp ++ r'.kp)) with ⟨n1, n2⟩ | ⟨n1, n2⟩ <;> rw [n2] at p2
    · rcases noDep_bd (items := ys) (p := r'.kc) (fun q' => .ok (paired xs q'.1, r.kp ++ r'.kp)) with ⟨n3, n4⟩ | ⟨n3, n4⟩ <;> rw [n4] at p2
      · simp only [Rep] at l1 l2
        obtain ⟨v, vs, e, h1, h2⟩ := k1
        obtain ⟨v', vs', e', h3, h4⟩ := l1
        subst e; cases e'
        have ev : vs' = vs := by
          have q3 := hide_sub _ _ h3
          rw [h1] at q3; cases q3; rfl
        subst ev
        obtain ⟨u, us, e, h5, h6⟩ := k2
        obtain ⟨u', us', e', h7, h8⟩ := l2
        subst e; cases e'
        have ev : us' = us := by
          have q3 := hide_sub _ _ h7
          rw [h5] at q3; cases q3; rfl
        subst ev
        exact ⟨_, _, vs', us', rfl, .inl ⟨SqL.of h1, SqL.of h5, p2 _ H2 g12 (wk_zip (hide_dep mem_app_l _ _ h3) (hide_dep mem_app_r _ _ h7) (noDep_ok s g12 n1 h2).1 (noDep_ok s g12 n3 h6).1)⟩⟩
      · exact p2.elim
    · exact p2.elim
  · cases hd2 : r'.d <;> simp only [hd2] at p2 k2 l2 <;> try exact p2.elim
    · rename_i xs ys
      have ek1 : r.kp = r.kc := by
        unfold Rv.kp Rv.kc
        cases et : r.t with
        | sl i =>
          unfold RR at r1'
          rw [et] at r1'
          obtain ⟨ad, _, _, tp⟩ := s.ow _ _ r1'.1
          rw [hd] at tp
          exact tp.elim
        | _ => rfl
      rcases noDep_bd (items := xs) (p := r.kc) (fun q => (noDep ys r'.kc).bd fun q' => .ok (paired q.1 q'.1, r.kp ++ r'.kp)) with ⟨n1, n2⟩ | ⟨n1, n2⟩ <;> rw [n2] at p2
      · rcases noDep_bd (items := ys) (p := r'.kc) (fun q' => .ok (paired xs q'.1, r.kp ++ r'.kp)) with ⟨n3, n4⟩ | ⟨n3, n4⟩ <;> rw [n4] at p2
        · simp only [Rep] at l1 l2
          obtain ⟨v', vs', e', h3, h4⟩ := l1
          subst e'
          obtain ⟨u, us, e, h5, h6⟩ := k2
          obtain ⟨u', us', e', h7, h8⟩ := l2
          subst e; cases e'
          have ev : us' = us := by
            have q3 := hide_sub _ _ h7
            rw [h5] at q3; cases q3; rfl
          subst ev
          exact ⟨_, _, vs', us', rfl, .inr (.inr ⟨SqT.sub h3 hide_sub, SqL.of h5, p2 _ H2 g12 (wk_zipTL (SqT.sub h3 (hide_dep mem_app_l)) (hide_dep mem_app_r _ _ h7) (noDep_ok s g12 n1 (ek1 ▸ h4)).1 (noDep_ok s g12 n3 h6).1)⟩)⟩
        · exact p2.elim
      · exact p2.elim
    · rename_i xs ys
      have ek1 : r.kp = r.kc := by
        unfold Rv.kp Rv.kc
        cases et : r.t with
        | sl i =>
          unfold RR at r1'
          rw [et] at r1'
          obtain ⟨ad, _, _, tp⟩ := s.ow _ _ r1'.1
          rw [hd] at tp
          exact tp.elim
        | _ => rfl
      have ek2 : r'.kp = r'.kc := by
        unfold Rv.kp Rv.kc
        cases et : r'.t with
        | sl i =>
          unfold RR at r2'
          rw [et] at r2'
          obtain ⟨ad, _, _, tp⟩ := s.ow _ _ r2'.1
          rw [hd2] at tp
          exact tp.elim
        | _ => rfl
      rcases noDep_bd (items := xs) (p := r.kc) (fun q => (noDep ys r'.kc).bd fun q' => .ok (paired q.1 q'.1, r.kp ++ r'.kp)) with ⟨n1, n2⟩ | ⟨n1, n2⟩ <;> rw [n2] at p2
      · rcases noDep_bd (items := ys) (p := r'.kc) (fun q' => .ok (paired xs q'.1, r.kp ++ r'.kp)) with ⟨n3, n4⟩ | ⟨n3, n4⟩ <;> rw [n4] at p2
        · simp only [Rep] at l1 l2
          obtain ⟨v', vs', e', h3, h4⟩ := l1
          subst e'
          obtain ⟨u', us', e', h7, h8⟩ := l2
          subst e'
          exact ⟨_, _, vs', us', rfl, .inr (.inl ⟨SqT.sub h3 hide_sub, SqT.sub h7 hide_sub, p2 _ H2 g12 (wk_zipT (SqT.sub h3 (hide_dep mem_app_l)) (SqT.sub h7 (hide_dep mem_app_r)) (noDep_ok s g12 n1 (ek1 ▸ h4)).1 (noDep_ok s g12 n3 (ek2 ▸ h8)).1)⟩)⟩
        · exact p2.elim
      · exact p2.elim
end
end Rt
end
section
set_option linter.all false
set_option autoImplicit false
set_option Elab.async false
set_option maxRecDepth 100000
set_option maxHeartbeats 2000000
namespace Rt
open PySem PySem.Spec PyProof.Rows L2
section
variable {fa ca : Nat → Addr} {X : Cx} {a b c e tg iter elt : Expr} {da db dc : Ex} {ta tb tc : Tst} {pos : Pos} {it : Itr}
/-! ### targets -/
def tG (X : Cx) (tg : Expr) : TG := fun v σ H Q => ∀ (pins : List (Addr × Obj)) (s : Shared) (u : Value), Inv X pins σ H s → RelV v u →
  wpAny (model X.prog X.w) X.A (assign tg X.env u) (fun _ s' => ∃ σ' H', Inv X pins σ' H' s' ∧ Q σ' H') X.xe s
theorem pgG : PG X tg (tG X tg) := ⟨fun pins s σ H v u Q I r h => h pins s u I r⟩
theorem of_pg {g : TG} {v : V} {σ : L2.St} {H : Hp} {Q : L2.St → Hp → Prop} (h : PG X tg g) (k : g v σ H Q) : tG X tg v σ H Q := fun pins s u I r => h.run pins s σ H v u Q I r k
def tGs (X : Cx) (tgs : List Expr) : TGs := fun vs σ H Q => ∀ (pins : List (Addr × Obj)) (s : Shared) (us : List Value), Inv X pins σ H s → Vals vs us →
  wpAny (model X.prog X.w) X.A (assignInOrder ((assignEach tgs X.env).map (·.2)) us) (fun _ s' => ∃ σ' H', Inv X pins σ' H' s' ∧ Q σ' H') X.xe s
theorem pgsG {tgs : List Expr} : PGs X tgs (tGs X tgs) := ⟨fun pins s σ H vs us Q I r h => h pins s us I r⟩
theorem of_pgs {tgs : List Expr} {g : TGs} {vs : List V} {σ : L2.St} {H : Hp} {Q : L2.St → Hp → Prop} (h : PGs X tgs g) (k : g vs σ H Q) : tGs X tgs vs σ H Q := fun pins s us I r => h.run pins s σ H vs us Q I r k
/-- but for the slots l alike -/
def But {α : Type} (l : List Nat) (σ σ' : List α) : Prop := ∀ j, j ∉ l → σ'[j]? = σ[j]?
theorem But.trans {α : Type} {l m : List Nat} {x y z : List α} (h : But l x y) (k : But m y z) : But (l ++ m) x z := fun j nj => by
  rw [List.mem_append, not_or] at nj
  rw [k j nj.2, h j nj.1]
/-- what targets do -/
structure Mv (is : List Nat) (σ : L2.St) (E : Env) (σ' : L2.St) (E' : Env) : Prop where
  st : But is σ σ'
  env : But is E E'
  len : σ'.length = σ.length
  own : ∀ (i : Nat) (d : D), E'[i]? = some (some (d, true)) → E[i]? = some (some (d, true)) ∧ σ'[i]? = σ[i]?
theorem Mv.trans {l m : List Nat} {σ σ1 σ2 : L2.St} {E E1 E2 : Env} (h : Mv l σ E σ1 E1) (k : Mv m σ1 E1 σ2 E2) : Mv (l ++ m) σ E σ2 E2 :=
  ⟨h.st.trans k.st, h.env.trans k.env, k.len.trans h.len, fun i d e => by
    obtain ⟨q1, q2⟩ := k.own i d e
    obtain ⟨q3, q4⟩ := h.own i d q1
    exact ⟨q3, q2.trans q4⟩⟩
structure SndG (fa : Nat → Addr) (X : Cx) (tg : Expr) (is : List Nat) (g : Tg) : Prop where
  run : ∀ (N : Addr → Prop) (H : Hp) (σ : L2.St) (E : Env) (d : D) (v : V) (E' : Env) (Q : L2.St → Hp → Prop), SR fa X.K N H σ E → Rep fa X.K (hide H N) d v → g d E = some E' →
    (∀ σ', SR fa X.K N H σ' E' → Mv is σ E σ' E' → Q σ' H) → tG X tg v σ H Q
structure SndGs (fa : Nat → Addr) (X : Cx) (tgs : List Expr) (is : List Nat) (gs : List Tg) : Prop where
  run : ∀ (N : Addr → Prop) (H : Hp) (σ : L2.St) (E : Env) (ds : List D) (vs : List V) (E' : Env) (Q : L2.St → Hp → Prop), SR fa X.K N H σ E → RepL fa X.K (hide H N) ds vs → gAll gs ds E = some E' →
    (∀ σ', SR fa X.K N H σ' E' → Mv is σ E σ' E' → Q σ' H) → tGs X tgs vs σ H Q
  len : tgs.length = gs.length
theorem SR.put {K : PySem.W.Frag} {N : Addr → Prop} {H : Hp} {σ : L2.St} {E : Env} {i : Nat} {d : D} {v : V} (s : SR fa K N H σ E) (lt : i < E.length) (r : Rep fa K (hide H N) d v) : SR fa K N H (σ.set i (some v)) (E.set i (some (d, false))) where
  len := by simp [s.len]
  sub := s.sub
  fz := fun j d' e => by
    by_cases q : i = j
    · subst q
      rw [List.getElem?_set_self lt] at e
      cases e
      exact ⟨v, by rw [List.getElem?_set_self (by rw [s.len]; exact lt)], r⟩
    · rw [List.getElem?_set_ne q] at e
      obtain ⟨w, h1, h2⟩ := s.fz j d' e
      exact ⟨w, by rw [List.getElem?_set_ne q]; exact h1, h2⟩
  ow := fun j d' e => by
    by_cases q : i = j
    · subst q
      rw [List.getElem?_set_self lt] at e
      cases e
    · rw [List.getElem?_set_ne q] at e
      obtain ⟨w, h1, h2⟩ := s.ow j d' e
      exact ⟨w, by rw [List.getElem?_set_ne q]; exact h1, h2⟩
  inj := fun j k d' e' ad e1 e2 e3 e4 => by
    have z : ∀ {j : Nat} {d' : D}, (E.set i (some (d, false)))[j]? = some (some (d', true)) → i ≠ j := fun {j d'} e q => by
      subst q
      rw [List.getElem?_set_self lt] at e
      cases e
    have q1 := z e1
    have q2 := z e2
    rw [List.getElem?_set_ne q1] at e1 e3
    rw [List.getElem?_set_ne q2] at e2 e4
    exact s.inj j k d' e' ad e1 e2 e3 e4
theorem but_set {α : Type} {σ : List α} {i : Nat} {v : α} : But [i] σ (σ.set i v) := fun j nj => List.getElem?_set_ne fun z => nj (by rw [← z]; exact List.mem_cons_self)
theorem mv_put {σ : L2.St} {E : Env} {i : Nat} {v : Option V} {d : D} (lt : i < E.length) : Mv [i] σ E (σ.set i v) (E.set i (some (d, false))) :=
  ⟨but_set, but_set, by simp, fun j d' e => by
    have q : i ≠ j := fun q => by
      subst q
      rw [List.getElem?_set_self lt] at e
      cases e
    rw [List.getElem?_set_ne q] at e ⊢
    exact ⟨e, rfl⟩⟩
theorem sndG_name {i : Nat} {x : Str} (hN : X.N.Nodup) (hi : X.N[i]? = some x) (hx : Loc X.env.scope x) (hf : X.fn x = true ∨ X.env.scope.names.lookup x = some .local) : SndG fa X (.Name x pos) [i] (gName i) where
  run := fun N H σ E d v E' Q s r e k => by
    refine of_pg (pg_name hN hi hx hf) ?_
    unfold gName at e
    split at e
    · rename_i lt
      cases e
      exact k _ (s.put lt r) (mv_put lt)
    · cases e
theorem sndGs_nil : SndGs fa X [] [] [] where
  run := fun N H σ E ds vs E' Q s r e k => by
    refine of_pgs pgs_nil ?_
    cases ds with
    | nil =>
      simp only [gAll, Option.some.injEq] at e
      subst e
      simp only [RepL] at r
      exact ⟨r, k σ s ⟨fun _ _ => rfl, fun _ _ => rfl, rfl, fun _ _ e => ⟨e, rfl⟩⟩⟩
    | cons d ds => simp [gAll] at e
  len := rfl
def plainTg : Expr → Bool
  | .Name _ _ => true
  | .Tuple _ _ _ => true
  | _ => false
theorem each_cons {e : Expr} {es : List Expr} {env : PySem.Env} (h : plainTg e = true) : assignEach (e :: es) env = (false, assign e env) :: assignEach es env := by
  cases e <;> first | rfl | exact absurd h (by simp [plainTg])
theorem each_len {env : PySem.Env} : ∀ {es : List Expr}, es.all plainTg = true → (assignEach es env).length = es.length ∧ (assignEach es env).findIdx? (·.1) = none
  | [], _ => ⟨rfl, rfl⟩
  | e :: es, h => by
    simp only [List.all_cons, Bool.and_eq_true] at h
    obtain ⟨h1, h2⟩ := each_len (env := env) h.2
    rw [each_cons h.1]
    refine ⟨by simp [h1], ?_⟩
    rw [List.findIdx?_cons]
    simp [h2]
theorem sndGs_cons {tgs : List Expr} {is js : List Nat} {g : Tg} {gs : List Tg} (hp : plainTg tg = true) (h : SndG fa X tg is g) (hr : SndGs fa X tgs js gs) : SndGs fa X (tg :: tgs) (is ++ js) (g :: gs) where
  run := fun N H σ E ds vs E' Q s r e k => by
    refine of_pgs (pgs_cons pgG pgsG (by rw [each_cons hp]; rfl)) ?_
    cases ds with
    | nil => simp [gAll] at e
    | cons d ds =>
      simp only [RepL] at r
      obtain ⟨v, us, rfl, r1, r2⟩ := r
      simp only [gAll] at e
      obtain ⟨E1, e1, e2⟩ := Option.bind_eq_some_iff.mp e
      refine ⟨v, us, rfl, h.run N H σ E d v E1 _ s r1 e1 fun σ1 s1 m1 => ?_⟩
      exact hr.run N H σ1 E1 ds us E' _ s1 r2 e2 fun σ2 s2 m2 => k σ2 s2 (m1.trans m2)
  len := by simp [hr.len]
theorem gAll_len : ∀ {gs : List Tg} {ds : List D} {E E' : Env}, gAll gs ds E = some E' → ds.length = gs.length
  | [], [], _, _, _ => rfl
  | [], _ :: _, _, _, h => by simp [gAll] at h
  | _ :: _, [], _, _, h => by simp [gAll] at h
  | g :: gs, d :: ds, E, E', h => by
    simp only [gAll] at h
    obtain ⟨E1, _, h⟩ := Option.bind_eq_some_iff.mp h
    simp [gAll_len h]
theorem sndG_tup {tgs : List Expr} {is : List Nat} {gs : List Tg} {k : Nat} (hc : X.calm = true) (h : SndGs fa X tgs is gs) (hp : tgs.all plainTg = true) : SndG fa X (.Tuple tgs k pos) is (gTup gs) where
  run := fun N H σ E d v E' Q s r e kk => by
    obtain ⟨hn, hst⟩ := each_len (env := X.env) hp
    unfold gTup at e
    split at e
    · refine of_pg (pg_tup hc pgsG hn hst) ?_
      simp only [Rep] at r
      obtain ⟨ad, vs, rfl, r1, r2⟩ := r
      refine ⟨ad, vs, rfl, SqT.sub r1 hide_sub, ?_, h.run N H σ E _ vs E' Q s r2 e kk⟩
      rw [← r2.length, gAll_len e, h.len]
    · refine of_pg (pg_lst hc pgsG hn hst) ?_
      simp only [Rep] at r
      obtain ⟨ad, vs, rfl, r1, r2⟩ := r
      refine ⟨ad, vs, rfl, SqL.of (hide_sub _ _ r1), ?_, h.run N H σ E _ vs E' Q s r2 e kk⟩
      rw [← r2.length, gAll_len e, h.len]
    · cases e

/-! ### a block's own slots -/
theorem wipe_get : ∀ {vs : List Nat} {σ : L2.St} {j : Nat}, j ∉ vs → (wipe σ vs)[j]? = σ[j]? := fun {vs σ j} h => wipe_out h
theorem wipe_in : ∀ {vs : List Nat} {σ : L2.St} {j : Nat}, j ∈ vs → j < σ.length → (wipe σ vs)[j]? = some none
  | v :: vs, σ, j, h, lt => by
    unfold wipe
    by_cases q : v = j
    · subst q
      rw [List.getElem?_set_self (by rw [wipe_length]; exact lt)]
    · rw [List.getElem?_set_ne q]
      exact wipe_in ((List.mem_cons.mp h).resolve_left fun z => q z.symm) lt
theorem wipe_but {vs : List Nat} {σ σ' : L2.St} (h : But vs (wipe σ vs) σ') (l : σ'.length = (wipe σ vs).length) : wipe σ' vs = wipe σ vs := by
  refine List.ext_getElem? fun j => ?_
  by_cases q : j ∈ vs
  · by_cases lt : j < σ.length
    · rw [wipe_in q lt, wipe_in q (by rw [l, wipe_length]; exact lt)]
    · rw [List.getElem?_eq_none (by rw [wipe_length, l, wipe_length]; omega), List.getElem?_eq_none (by rw [wipe_length]; omega)]
  · rw [wipe_get q, h j q]
theorem wipeE_get : ∀ {vs : List Nat} {σ : Env} {j : Nat}, j ∉ vs → (wipeE vs σ)[j]? = σ[j]?
  | [], _, _, _ => rfl
  | v :: vs, σ, j, h => by
    rw [List.mem_cons, not_or] at h
    show ((wipeE vs σ).set v none)[j]? = _
    rw [List.getElem?_set_ne fun z => h.1 z.symm]
    exact wipeE_get h.2
theorem wipeE_length : ∀ (vs : List Nat) (σ : Env), (wipeE vs σ).length = σ.length
  | [], _ => rfl
  | v :: vs, σ => by
    show ((wipeE vs σ).set v none).length = _
    rw [List.length_set]; exact wipeE_length vs σ
theorem wipeE_some : ∀ {vs : List Nat} {σ : Env} {j : Nat} {x : D × Bool}, (wipeE vs σ)[j]? = some (some x) → j ∉ vs ∧ σ[j]? = some (some x)
  | [], _, _, _, h => ⟨by simp, h⟩
  | v :: vs, σ, j, x, h => by
    have h' : ((wipeE vs σ).set v none)[j]? = some (some x) := h
    by_cases q : v = j
    · subst q
      by_cases lt : v < (wipeE vs σ).length
      · rw [List.getElem?_set_self lt] at h'; cases h'
      · rw [List.getElem?_eq_none (by simpa using lt)] at h'; cases h'
    · rw [List.getElem?_set_ne q] at h'
      obtain ⟨h1, h2⟩ := wipeE_some h'
      exact ⟨by rw [List.mem_cons, not_or]; exact ⟨fun z => q z.symm, h1⟩, h2⟩
theorem SR.wipe {K : PySem.W.Frag} {N : Addr → Prop} {H : Hp} {σ : L2.St} {E : Env} (s : SR fa K N H σ E) (vs : List Nat) : SR fa K N H (L2.wipe σ vs) (wipeE vs E) where
  len := by rw [wipe_length, wipeE_length, s.len]
  sub := s.sub
  fz := fun j d e => by
    obtain ⟨q1, q2⟩ := wipeE_some e
    rw [wipe_get q1]
    exact s.fz j d q2
  ow := fun j d e => by
    obtain ⟨q1, q2⟩ := wipeE_some e
    rw [wipe_get q1]
    exact s.ow j d q2
  inj := fun j k d e ad e1 e2 e3 e4 => by
    obtain ⟨q1, q2⟩ := wipeE_some e1
    obtain ⟨q3, q4⟩ := wipeE_some e2
    rw [wipe_get q1] at e3
    rw [wipe_get q3] at e4
    exact s.inj j k d e ad q2 q4 e3 e4
/-- one more object that may change -/
theorem SR.also {K : PySem.W.Frag} {N : Addr → Prop} {H H2 : Hp} {σ : L2.St} {E : Env} {p : Addr} (s : SR fa K N H σ E) (g : Sub H H2) (np : H p = none) {o : HO} (hp : H2 p = some o) (mb : Mb o) : SR fa K (fun b => N b ∨ b = p) H2 σ E := by
  have sb : Sub (hide H N) (hide H2 fun b => N b ∨ b = p) := hide_mono g fun b o e n => n.elim id fun z => by rw [z, np] at e; cases e
  exact {
    len := s.len
    sub := fun b n => n.elim (fun n => by obtain ⟨o, e, m⟩ := s.sub b n; exact ⟨o, g _ _ e, m⟩) fun z => ⟨o, by rw [z]; exact hp, mb⟩
    fz := fun i d e => by
      obtain ⟨v, q1, q2⟩ := s.fz i d e
      exact ⟨v, q1, Rep.sub sb _ _ q2⟩
    ow := fun i d e => by
      obtain ⟨ad, q1, q2, q3⟩ := s.ow i d e
      exact ⟨ad, q1, .inl q2, q3.sub sb g⟩
    inj := s.inj }

/-! ### a clause's tests -/
def tTs (X : Cx) (ifs : List Expr) : TT := fun σ H Q => ∀ (pins : List (Addr × Obj)) (s : Shared), Inv X pins σ H s →
  wpAny (model X.prog X.w) X.A (forIn ifs true fun c r => if r = true then do let ok ← isTrue c X.env (eval c X.env); pure (ForInStep.yield ok) else pure (ForInStep.yield r)) (TP X pins σ Q) X.xe s
theorem of_pts {ifs : List Expr} {t : TT} {σ : L2.St} {H : Hp} {Q : Bool → Hp → Prop} (h : PTs X ifs t) (k : t σ H Q) : tTs X ifs σ H Q := fun pins s I => h.run pins s σ H Q I k
def SndTs (fa ca : Nat → Addr) (X : Cx) (ifs : List Expr) (f : Tst) : Prop := ∀ (W : WX), Takes X W → ∀ (N : Addr → Prop) (H : Hp) (σ : L2.St) (E : Env) (Q : Bool → Hp → Prop), SR fa X.K N H σ E →
  Post ca W H σ (fun k => ∀ H', Sub H H' → Q k H') (f E) → tTs X ifs σ H Q
def tYesD : Tst := fun _ => .ok true
theorem sndTs_nil : SndTs fa ca X [] tYesD := fun W tk N H σ E Q s p => of_pts pts_nil (p H (Sub.refl _))
theorem sndTs_one (h : SndT fa ca X c tc) : SndTs fa ca X [c] tc := fun W tk N H σ E Q s p => of_pts (pts_one (ptT (e := c))) (h W tk N H σ E Q s p)

/-! ### list comprehensions of one for -/
abbrev blkN (X : Cx) (scope : Scope) (s : Shared) (H : Hp) (C : Addr) (cl : List (Str × Addr)) (fp : List Addr) : Cx := X.blk s H scope (compEnvC scope cl C X.env) fp
def bE (X : Cx) (scope : Scope) (e : Expr) : TE := fun σ H Q => ∀ (s0 : Shared) (H0 : Hp) (C : Addr) (cl : List (Str × Addr)) (fp : List Addr), tE (blkN X scope s0 H0 C cl fp) e σ H Q
def bT (X : Cx) (scope : Scope) (ifs : List Expr) : TT := fun σ H Q => ∀ (s0 : Shared) (H0 : Hp) (C : Addr) (cl : List (Str × Addr)) (fp : List Addr), tTs (blkN X scope s0 H0 C cl fp) ifs σ H Q
def bG (X : Cx) (scope : Scope) (tg : Expr) : TG := fun v σ H Q => ∀ (s0 : Shared) (H0 : Hp) (C : Addr) (cl : List (Str × Addr)) (fp : List Addr), tG (blkN X scope s0 H0 C cl fp) tg v σ H Q
theorem pe_b {scope : Scope} : ∀ (s : Shared) (H : Hp) (C : Addr) (cl : List (Str × Addr)) (fp : List Addr), PE (blkN X scope s H C cl fp) e (bE X scope e) := fun s0 H0 C cl fp => ⟨fun pins st σ H Q I h => h s0 H0 C cl fp pins st I⟩
theorem pt_b {scope : Scope} {ifs : List Expr} : ∀ (s : Shared) (H : Hp) (C : Addr) (cl : List (Str × Addr)) (fp : List Addr), PTs (blkN X scope s H C cl fp) ifs (bT X scope ifs) := fun s0 H0 C cl fp => ⟨fun pins st σ H Q I h => h s0 H0 C cl fp pins st I⟩
theorem pg_b {scope : Scope} : ∀ (s : Shared) (H : Hp) (C : Addr) (cl : List (Str × Addr)) (fp : List Addr), PG (blkN X scope s H C cl fp) tg (bG X scope tg) := fun s0 H0 C cl fp => ⟨fun pins st σ H v u Q I r h => h s0 H0 C cl fp pins st u I r⟩
theorem fine_mem {own : List Nat} {E : Env} {l : List Nat} (h : fineAt own E l = true) {i : Nat} (hi : i ∈ l) : i ∉ own ∧ ∃ d, E[i]? = some (some (d, true)) := by
  unfold fineAt at h
  rw [List.all_eq_true] at h
  have q := h i hi
  simp only [Bool.and_eq_true, Bool.not_eq_true', List.contains_eq_mem, decide_eq_false_iff_not] at q
  refine ⟨q.1, ?_⟩
  have q2 := q.2
  split at q2
  · exact ⟨_, by assumption⟩
  · cases q2
theorem lc_read {ifs : List Expr} {scope : Scope} {own is : List Nat} {g : Tg} {t : Tst} {W : WX} {N : Addr → Prop} {H : Hp} {σ : L2.St} {E : Env} {Q : VK} (hi : SndI fa ca X tg iter it) (his : ∀ i ∈ is, i ∈ own)
    (hg : ∀ (s : Shared) (H : Hp) (C : Addr) (cl : List (Str × Addr)) (fp : List Addr), SndG fa (blkN X scope s H C cl fp) tg is g)
    (ht : ∀ (s : Shared) (H : Hp) (C : Addr) (cl : List (Str × Addr)) (fp : List Addr), SndTs fa ca (blkN X scope s H C cl fp) ifs t)
    (he : ∀ (s : Shared) (H : Hp) (C : Addr) (cl : List (Str × Addr)) (fp : List Addr), Snd fa ca (blkN X scope s H C cl fp) elt da)
    (tk : Takes X W) (s : SR fa X.K N H σ E) (p : Post ca W H σ (fun r => ∀ v H', Sub H H' → RR fa X.K N H H' σ E v r → Q v H') (xLC own it g t da E)) :
    tLc (tI X tg iter) (bG X scope tg) (bT X scope ifs) (bE X scope elt) own σ H Q := by
  unfold xLC at p
  refine hi.bd tk s (Sub.refl _) p fun q J H1 e1 g1 wk p1 => ?_
  intro L nL
  cases ql : lcGo own g t da (wipeE own E) q.1 with
  | ex c x => rw [ql] at p1; exact p1.elim
  | bad => rw [ql] at p1; exact p1.elim
  | ok w =>
    rw [ql] at p1
    dsimp only at p1
    split at p1
    case isFalse => exact p1.elim
    rename_i wl
    refine ⟨fun i m H2 => m = q.1.length - i ∧ i ≤ q.1.length ∧ Sub H1 H2 ∧ ∃ acc ds w', H2 L = some (.lst acc) ∧ RepL fa X.K (hide H2 fun b => del N σ w.2 b ∨ b = L) ds acc ∧
      lcGo own g t da (wipeE own E) (q.1.drop i) = .ok w' ∧ ds ++ w'.1 = w.1 ∧ ∀ j ∈ w'.2, j ∈ w.2, ⟨_, rfl, Nat.zero_le _, sub_upd nL, [], [], w, upd_same, RepL.nil_, by simpa using ql, rfl, fun _ h => h⟩, ?_⟩
    rintro i m H2 ⟨rfl, hil, g2, acc, ds, w', hL, hr, hl, hw, hd⟩
    have nL0 : H L = none := g1.none nL
    have zt : Sub (hide H1 (del N σ q.2)) H2 := fun b o e => g2 _ _ (hide_sub _ _ e)
    have zi : Sub (hide H1 N) H2 := fun b o e => g2 _ _ (hide_sub _ _ e)
    by_cases hlt : i < q.1.length
    · have hdr : q.1.drop i = q.1[i] :: q.1.drop (i + 1) := (List.getElem_cons_drop hlt).symm
      rw [hdr] at hl
      unfold lcGo at hl
      obtain ⟨jg, jy⟩ := wk.go i H2 q.1[i] zt zi (List.getElem?_eq_getElem hlt)
      refine .inr ⟨jg, fun H' => Sub H1 H' ∧ ∃ acc ds w', H' L = some (.lst acc) ∧ RepL fa X.K (hide H' fun b => del N σ w.2 b ∨ b = L) ds acc ∧
        lcGo own g t da (wipeE own E) (q.1.drop (i + 1)) = .ok w' ∧ ds ++ w'.1 = w.1 ∧ ∀ j ∈ w'.2, j ∈ w.2, fun H' ⟨k1, k2⟩ => ⟨q.1.length - (i + 1), by omega, rfl, hlt, k1, k2⟩, fun x H3 y3 => ?_⟩
      obtain ⟨g3, rx⟩ := jy x H3 y3
      have hL3 : H3 L = some (.lst acc) := g3 _ _ hL
      have sB : SR fa X.K (fun b => N b ∨ b = L) H3 (L2.wipe σ own) (wipeE own E) := (s.wipe own).also ((g1.trans g2).trans g3) nL0 hL3 trivial
      have rx' : Rep fa X.K (hide H3 fun b => N b ∨ b = L) q.1[i] x := Rep.sub (fun b o e => by
        cases z : H2 b with
        | none =>
          simp only [z] at e
          rw [hide_at fun n => ?_]
          · exact e
          · rcases n with n | n
            · obtain ⟨u, q1, _⟩ := s.sub b n
              rw [g2 _ _ (g1 _ _ q1)] at z; cases z
            · rw [n, hL] at z; cases z
        | some u =>
          simp only [z] at e
          refine hide_mono (g2.trans g3) (fun b o e n => ?_) b o e
          rcases n with n | n
          · exact n
          · rw [n, nL] at e; cases e) _ _ rx
      cases qg : g q.1[i] (wipeE own E) with
      | none => rw [qg] at hl; cases hl
      | some E2 =>
        simp only [qg] at hl
        intro s0 H0 C cl fp
        refine (hg s0 H0 C cl fp).run _ H3 _ _ _ x E2 _ sB rx' qg fun σ2 s2 ⟨b2, c2, l2, _⟩ => ?_
        have bo : But own (L2.wipe σ own) σ2 := fun j nj => b2 j fun z => nj (his j z)
        refine ⟨wipe_but bo l2, ?_⟩
        intro s0 H0 C cl fp
        refine ht s0 H0 C cl fp _ takes_none5 _ H3 σ2 E2 _ s2 ?_
        cases qt : t E2 with
        | ex c x => rw [qt] at hl; cases hl
        | bad => rw [qt] at hl; cases hl
        | ok k =>
          intro H4 g4
          cases k with
          | false =>
            simp only [qt] at hl
            simp only [Bool.false_eq_true, if_false]
            exact ⟨(g2.trans g3).trans g4, acc, ds, w', g4 _ _ hL3, RepL.sub (hide_mono (g3.trans g4) fun _ _ _ n => n) _ _ hr, hl, hw, hd⟩
          | true =>
            simp only [qt] at hl
            simp only [if_true]
            intro s0 H0 C cl fp
            refine he s0 H0 C cl fp _ takes_none5 _ H4 σ2 E2 _ (s2.grow g4) ?_
            cases qe : da E2 with
            | ex c x => rw [qe] at hl; cases hl
            | bad => rw [qe] at hl; cases hl
            | ok r =>
              simp only [qe] at hl
              split at hl
              case isFalse => cases hl
              rename_i fine
              cases qr : lcGo own g t da (wipeE own E) (q.1.drop (i + 1)) with
              | ex c x => rw [qr] at hl; cases hl
              | bad => rw [qr] at hl; cases hl
              | ok w2 =>
                rw [qr] at hl
                have hl' : w' = (r.d :: w2.1, r.kp ++ w2.2) := by cases hl; rfl
                subst hl'
                intro v H5 g5 rr
                have hL5 : H5 L = some (.lst acc) := g5 _ _ (g4 _ _ hL3)
                have al := rr.all (s2.grow g4) g5
                have g25 : Sub H2 H5 := (g3.trans g4).trans g5
                refine ⟨acc, hL5, ?_, ?_, acc ++ [v], ds ++ [r.d], w2, upd_same, ?_, rfl, by rw [← hw]; simp, fun j hj => hd j (List.mem_append_right _ hj)⟩
                · rw [← line_eq, ← hr.length]
                  have : w.1.length = ds.length + (w2.1.length + 1) := by rw [← hw]; simp
                  omega
                · exact fun b o e => by
                    have ne : b ≠ L := ne_of_none e nL
                    rw [upd_ne ne]
                    exact g25 _ _ (g2 _ _ e)
                · have up : ∀ b o, b ≠ L → H5 b = some o → ¬ (del N σ w.2 b) → hide (upd H5 L (.lst (acc ++ [v]))) (fun b => del N σ w.2 b ∨ b = L) b = some o := fun b o ne e nd => by
                    rw [hide_at fun z => z.elim nd ne, upd_ne ne]; exact e
                  refine RepL.append (RepL.sub (fun b o e => ?_) _ _ hr) (.one (Rep.sub (fun b o e => ?_) _ _ al))
                  · unfold hide at e
                    split at e
                    · cases e
                    · rename_i n
                      rw [not_or] at n
                      exact up b o n.2 (g25 _ _ e) n.1
                  · unfold hide at e
                    split at e
                    · cases e
                    · rename_i n
                      -- what stands in the value's slots is no new list, and stands in the slots of old
                      have key : ∀ j ∈ r.kp, ∀ bb, σ2[j]? = some (some (.ref bb)) → bb ≠ L ∧ σ[j]? = some (some (.ref bb)) := fun j hj bb e2 => by
                        obtain ⟨nj, d2, ed⟩ := fine_mem fine hj
                        have nis : j ∉ is := fun z => nj (his j z)
                        have e3 : σ[j]? = some (some (.ref bb)) := by rw [← wipe_get nj, ← bo j nj]; exact e2
                        have e4 : E[j]? = some (some (d2, true)) := by rw [← wipeE_get nj, ← c2 j nis]; exact ed
                        obtain ⟨ad, q1, q2, q3⟩ := s.ow j d2 e4
                        rw [e3] at q1; cases q1
                        refine ⟨fun z => ?_, e3⟩
                        obtain ⟨u, z1, _⟩ := s.sub _ q2
                        rw [z, nL0] at z1; cases z1
                      have ne : b ≠ L := fun z => n ⟨.inr z, fun ⟨j, hj, e2⟩ => (key j hj b e2).1 z⟩
                      refine up b o ne e fun nd => n ⟨.inl nd.1, fun ⟨j, hj, e2⟩ => nd.2 ⟨j, hd j (List.mem_append_left _ hj), (key j hj b e2).2⟩⟩
    · have ei : i = q.1.length := by omega
      subst ei
      rw [List.drop_length] at hl
      have ew : w' = ([], []) := by cases hl; rfl
      subst ew
      rw [List.append_nil] at hw
      subst hw
      refine .inl ⟨wk.stop _ H2 zt zi (Nat.le_refl _), p1 _ H2 (g1.trans g2) (rr_mkN s (g1.trans g2) nL0 ⟨acc, hL, hr⟩)⟩
theorem snd_lc {ifs : List Expr} {scope : Scope} {own : List (Str × Nat)} {is : List Nat} {g : Tg} {t : Tst} (hc : X.calm = true) (hN : X.N.Nodup) (hi : SndI fa ca X tg iter it) (ok : BlkOk X.N X.env.scope scope own) (his : ∀ i ∈ is, i ∈ own.map (·.2))
    (hg : ∀ (s : Shared) (H : Hp) (C : Addr) (cl : List (Str × Addr)) (fp : List Addr), SndG fa (blkN X scope s H C cl fp) tg is g)
    (ht : ∀ (s : Shared) (H : Hp) (C : Addr) (cl : List (Str × Addr)) (fp : List Addr), SndTs fa ca (blkN X scope s H C cl fp) ifs t)
    (he : ∀ (s : Shared) (H : Hp) (C : Addr) (cl : List (Str × Addr)) (fp : List Addr), Snd fa ca (blkN X scope s H C cl fp) elt da) (hs : ∀ x, foldedSetIterable iter X.env x = pure x) :
    Snd fa ca X (.ListComp elt [⟨tg, iter, ifs, 0⟩] scope pos) (xLC (own.map (·.2)) it g t da) := fun W tk N H σ E Q s p =>
  of_pe (pe_lc (own := own) hc hN piI ok pg_b pt_b pe_b hs) (lc_read hi his hg ht he tk s p)
end
end Rt
end
section
set_option linter.all false
set_option autoImplicit false
set_option Elab.async false
set_option maxRecDepth 100000
set_option maxHeartbeats 2000000
namespace Rt
open PySem PySem.Spec PyProof.Rows L2
/-! ### statements -/
def tS (X : Cx) (st : Stmt) : TS := fun D σ H => ∀ (pins : List (Addr × Obj)) (s : Shared), Inv X pins σ H s → wpAny (model X.prog X.w) X.A (exec st X.env) (SP X pins D) X.xe s
def tSs (X : Cx) (st : List Stmt) : TS := fun D σ H => ∀ (pins : List (Addr × Obj)) (s : Shared), Inv X pins σ H s → wpAny (model X.prog X.w) X.A (execs st X.env) (SP X pins D) X.xe s
/-- as of the def's start: H0, with U hidden from it -/
structure FS (H0 : Hp) (U N : Addr → Prop) (H : Hp) (σ : L2.St) (E : Env) : Prop where
  sub : Sub H0 H
  un : ∀ b, U b → N b
  ud : ∀ b, U b → ∃ o, H0 b = some o
  new : ∀ (i : Nat) (d : D) (a : Addr), E[i]? = some (some (d, true)) → σ[i]? = some (some (.ref a)) → H0 a = none
structure Fx (fa : Nat → Addr) (K : PySem.W.Frag) (H0 : Hp) (U N : Addr → Prop) (H : Hp) (σ : L2.St) (E : Env) : Prop where
  sr : SR fa K N H σ E
  fs : FS H0 U N H σ E
def PostS (fa ca : Nat → Addr) (K : PySem.W.Frag) (W : WX) (H0 : Hp) (U : Addr → Prop) (D : Ends) (Z : Hp) : O → Prop
  | .nx E' => ∀ (N' : Addr → Prop) (H' : Hp) (σ' : L2.St), Sub Z (hide H' N') → Fx fa K H0 U N' H' σ' E' → D.nx σ' H'
  | .rt d fr => ∀ (v : V) (H' : Hp), Sub H0 H' → RetR fa K U H0 H' v d fr → D.rt v H'
  | .ex c a _ => ∀ (dd : Addr) (σ' : L2.St) (H' : Hp), Sub H0 H' → ExD H0 H' dd a → W (.ref (ca c)) (some dd) σ' H'
  | .bad => False
def SndS (fa ca : Nat → Addr) (X : Cx) (st : Stmt) (f : Sm) : Prop := ∀ (W : WX), Takes X W → ∀ (H0 : Hp) (U N : Addr → Prop) (H : Hp) (σ : L2.St) (E : Env) (D : Ends), Fx fa X.K H0 U N H σ E →
  PostS fa ca X.K W H0 U D (hide H N) (f E) → tS X st D σ H
def SndSs (fa ca : Nat → Addr) (X : Cx) (st : List Stmt) (f : Sm) : Prop := ∀ (W : WX), Takes X W → ∀ (H0 : Hp) (U N : Addr → Prop) (H : Hp) (σ : L2.St) (E : Env) (D : Ends), Fx fa X.K H0 U N H σ E →
  PostS fa ca X.K W H0 U D (hide H N) (f E) → tSs X st D σ H
section
variable {fa ca : Nat → Addr} {X : Cx} {a b c e tg iter elt : Expr} {da db dc : Ex} {ta tb tc : Tst} {pos : Pos} {it : Itr} {st : Stmt} {sts body orelse : List Stmt} {f g fb fo : Sm}
theorem psS : PS X st (tS X st) := ⟨fun pins s σ H D I h => h pins s I⟩
theorem of_ps {t : TS} {D : Ends} {σ : L2.St} {H : Hp} (h : PS X st t) (k : t D σ H) : tS X st D σ H := fun pins s I => h.run pins s σ H D I k
theorem pssS : PSs X sts (tSs X sts) := ⟨fun pins s σ H D I h => h pins s I⟩
theorem of_pss {t : TS} {D : Ends} {σ : L2.St} {H : Hp} (h : PSs X sts t) (k : t D σ H) : tSs X sts D σ H := fun pins s I => h.run pins s σ H D I k
theorem Fx.grow {K : PySem.W.Frag} {H0 H H' : Hp} {U N : Addr → Prop} {σ : L2.St} {E : Env} (h : Fx fa K H0 U N H σ E) (g : Sub H H') : Fx fa K H0 U N H' σ E :=
  ⟨h.sr.grow g, ⟨h.fs.sub.trans g, h.fs.un, h.fs.ud, h.fs.new⟩⟩
theorem hide_grow {H H' : Hp} {N : Addr → Prop} (g : Sub H H') : Sub (hide H N) (hide H' N) := hide_mono g fun _ _ _ n => n
theorem PostS.base {K : PySem.W.Frag} {W : WX} {H0 : Hp} {U : Addr → Prop} {D : Ends} {Z Z' : Hp} {o : O} (h : PostS fa ca K W H0 U D Z o) (g : Sub Z Z') : PostS fa ca K W H0 U D Z' o := by
  cases o with
  | nx E => exact fun N' H' σ' s x => h N' H' σ' (g.trans s) x
  | rt d fr => exact h
  | ex c x E => exact h
  | bad => exact h
theorem PostS.to {K : PySem.W.Frag} {W : WX} {H0 H : Hp} {U : Addr → Prop} {D : Ends} {Z : Hp} {σ : L2.St} {E : Env} {β : Type} {r : R β} {k : β → O} (h : PostS fa ca K W H0 U D Z (r.to E k)) (g : Sub H0 H) :
    Post ca W H σ (fun b => PostS fa ca K W H0 U D Z (k b)) r := by
  cases r with
  | ok b => exact h
  | ex c x => exact fun dd H' g' ed => h dd σ H' (g.trans g') (ed.from g)
  | bad => exact h.elim
/-- the first of two statements -/
theorem PostS.bd {K : PySem.W.Frag} {W : WX} {H0 : Hp} {U : Addr → Prop} {D : Ends} {Z : Hp} {o : O} {k : Sm} (h : PostS fa ca K W H0 U D Z (o.bd k)) {nx' : L2.St → Hp → Prop}
    (hk : ∀ E' N' H' σ', Sub Z (hide H' N') → Fx fa K H0 U N' H' σ' E' → PostS fa ca K W H0 U D Z (k E') → nx' σ' H') {bk' ct' : L2.St → Hp → Prop} : PostS fa ca K W H0 U { D with nx := nx', bk := bk', ct := ct' } Z o := by
  cases o with
  | nx E => exact fun N' H' σ' s x => hk E N' H' σ' s x h
  | rt d fr => exact h
  | ex c x E => exact h
  | bad => exact h
theorem sndS_pass : SndS fa ca X (.Pass pos) sPass := fun W tk H0 U N H σ E D x p => of_ps ps_pass (p N H σ (Sub.refl _) x)
theorem sndS_doc {x : Str} {j : Nat} {p1 p2 : Pos} : SndS fa ca X (.Expr (.Constant (.str x) j p1) p2) sPass := fun W tk H0 U N H σ E D x p => of_ps ps_doc (p N H σ (Sub.refl _) x)
theorem sndSs_nil : SndSs fa ca X [] sPass := fun W tk H0 U N H σ E D x p => of_pss pss_nil (p N H σ (Sub.refl _) x)
theorem sndSs_one (h : SndS fa ca X st f) : SndSs fa ca X [st] f := fun W tk H0 U N H σ E D x p => of_pss (pss_one psS) (h W tk H0 U N H σ E D x p)
theorem sndSs_cons (h : SndS fa ca X st f) (hr : SndSs fa ca X sts g) : SndSs fa ca X (st :: sts) (sSeq f g) := fun W tk H0 U N H σ E D x p => by
  refine of_pss (pss_cons psS pssS) ?_
  show tS X st { D with nx := tSs X sts D } σ H
  refine h W tk H0 U N H σ E _ x ?_
  have p' : PostS fa ca X.K W H0 U D (hide H N) ((f E).bd g) := p
  exact p'.bd fun E' N' H' σ' s x' q => hr W tk H0 U N' H' σ' E' D x' (q.base s)
def plainV : Expr → Bool
  | .ListComp _ _ _ _ | .SetComp _ _ _ _ | .DictComp _ _ _ _ _ => false
  | _ => true
theorem swaps_plain {t : Option Expr} {l : Nat} {env : PySem.Env} (h : plainV e = true) : swapsWith e t l env = pure false := by
  cases e <;> first | rfl | exact absurd h (by simp [plainV])
theorem sndS_expr (he : Snd fa ca X e da) (hp : plainV e = true) : SndS fa ca X (.Expr e pos) (sExpr da) := fun W tk H0 U N H σ E D x p => by
  refine of_ps (ps_expr (peE (e := e)) (swaps_plain hp)) ?_
  show tE X e σ H _
  refine he W tk N H σ E _ x.sr ?_
  have p' : PostS fa ca X.K W H0 U D (hide H N) ((da E).to E fun _ => .nx E) := p
  exact (p'.to x.fs.sub).imp fun r _ q v H' g _ => q N H' σ (hide_grow g) (x.grow g)
theorem fine_own {E : Env} {l : List Nat} (h : fineAt [] E l = true) {i : Nat} (hi : i ∈ l) : ∃ d, E[i]? = some (some (d, true)) := (fine_mem h hi).2
theorem sndS_ret (he : Snd fa ca X e da) : SndS fa ca X (.Return (some e) pos) (sRet da) := fun W tk H0 U N H σ E D x p => by
  refine of_ps (ps_ret (peE (e := e))) ?_
  show tE X e σ H _
  refine he W tk N H σ E _ x.sr ?_
  have p' : PostS fa ca X.K W H0 U D (hide H N) ((da E).to E fun r => if fineAt [] E r.kp then .rt r.d (match r.t with | .fz => false | _ => true) else .bad) := p
  refine (p'.to x.fs.sub).imp fun r _ q v H' g rr => ?_
  split at q
  case isFalse => exact q.elim
  rename_i fine
  have up : Sub (hide H' (del N σ r.kp)) (hide H' U) := hide_mono (Sub.refl _) fun b o _ n => ⟨x.fs.un b n, fun ⟨i, hi, e⟩ => by
    obtain ⟨d, q1⟩ := fine_own fine hi
    have q2 := x.fs.new i d b q1 e
    obtain ⟨o, q3⟩ := x.fs.ud b n
    rw [q2] at q3; cases q3⟩
  refine q v H' (x.fs.sub.trans g) ?_
  have al := rr.all x.sr g
  unfold RR at rr
  cases et : r.t with
  | fz => exact Rep.sub up _ _ al
  | nw =>
    rw [et] at rr
    obtain ⟨ad, e1, e2, e3⟩ := rr
    refine ⟨ad, e1, x.fs.sub.none e2, e3.sub ?_ (Sub.refl _)⟩
    have ek : r.kp = r.p := by unfold Rv.kp; rw [et]
    exact hide_mono (Sub.refl _) fun b o eb n => n.elim (fun n => by
      by_cases z : b = ad
      · exact .inr z
      · refine .inl ?_
        rw [← ek]
        refine ⟨x.fs.un b n, fun ⟨i, hi, e⟩ => ?_⟩
        obtain ⟨d, q1⟩ := fine_own fine hi
        have q2 := x.fs.new i d b q1 e
        obtain ⟨o, q3⟩ := x.fs.ud b n
        rw [q2] at q3; cases q3) .inr
  | sl i =>
    rw [et] at rr
    obtain ⟨e1, e2⟩ := rr
    obtain ⟨ad, q1, q2, q3⟩ := x.sr.ow i _ e1
    rw [e2] at q1; cases q1
    refine ⟨ad, rfl, x.fs.new i _ ad e1 e2, (q3.sub (hide_grow g) g).sub ?_ (Sub.refl _)⟩
    exact hide_mono (Sub.refl _) fun b o eb n => n.elim (fun n => x.fs.un b n) fun z => by rw [z]; exact q2
theorem sndS_retN : SndS fa ca X (.Return none pos) sRetN := fun W tk H0 U N H σ E D x p =>
  of_ps ps_retN (p .non H x.fs.sub (by show Rep fa X.K (hide H U) .non .non; simp [Rep]))

/-! ### slots are frozen -/
theorem frz1_get {E : Env} {i j : Nat} : (frz1 E i)[j]? = if i = j then (match E[j]? with | some (some (d, _)) => some (some (d, false)) | o => o) else E[j]? := by
  unfold frz1
  by_cases q : i = j
  · subst q
    rw [if_pos rfl]
    cases z : E[i]? with
    | none => simp [z]
    | some o =>
      cases o with
      | none => simp [z]
      | some p =>
        obtain ⟨d, k⟩ := p
        have lt := (List.getElem?_eq_some_iff.mp z).1
        simp only []
        rw [List.getElem?_set_self lt]
  · rw [if_neg q]
    cases z : E[i]? with
    | none => rfl
    | some o =>
      cases o with
      | none => rfl
      | some p =>
        obtain ⟨d, k⟩ := p
        simp only []
        rw [List.getElem?_set_ne q]
theorem frz_get : ∀ {l : List Nat} {E : Env} {j : Nat}, (frz l E)[j]? = if j ∈ l then (match E[j]? with | some (some (d, _)) => some (some (d, false)) | o => o) else E[j]?
  | [], _, _ => by simp
  | i :: l, E, j => by
    show (frz l (frz1 E i))[j]? = _
    rw [frz_get, frz1_get]
    by_cases q : i = j
    · subst q
      simp only [if_true, List.mem_cons, true_or]
      split
      · cases z : E[i]? with
        | none => simp
        | some o => cases o <;> simp
      · rfl
    · rw [if_neg q]
      have : (j ∈ i :: l) ↔ j ∈ l := by simp only [List.mem_cons]; exact ⟨fun z => z.resolve_left fun w => q w.symm, .inr⟩
      simp only [this]
theorem frz_length : ∀ (l : List Nat) (E : Env), (frz l E).length = E.length
  | [], _ => rfl
  | i :: l, E => by
    show (frz l (frz1 E i)).length = _
    rw [frz_length]
    unfold frz1
    split
    · simp
    · rfl
theorem Fx.frz {K : PySem.W.Frag} {H0 H : Hp} {U N : Addr → Prop} {σ : L2.St} {E : Env} {l : List Nat} (x : Fx fa K H0 U N H σ E) (fine : fineAt [] E l = true) : Fx fa K H0 U (del N σ l) H σ (Rt.frz l E) := by
  have old : ∀ {i : Nat} {d : D} , (Rt.frz l E)[i]? = some (some (d, true)) → i ∉ l ∧ E[i]? = some (some (d, true)) := fun {i d} e => by
    rw [frz_get] at e
    by_cases q : i ∈ l
    · rw [if_pos q] at e
      split at e
      · cases e
      · rename_i z
        exact (z d true e).elim
    · rw [if_neg q] at e
      exact ⟨q, e⟩
  have sb : Sub (hide H N) (hide H (del N σ l)) := hide_mono (Sub.refl _) fun b o _ n => n.1
  refine ⟨⟨by rw [frz_length]; exact x.sr.len, fun b n => x.sr.sub b n.1, fun i d e => ?_, fun i d e => ?_, fun i j d e ad e1 e2 e3 e4 => x.sr.inj i j d e ad (old e1).2 (old e2).2 e3 e4⟩,
    ⟨x.fs.sub, fun b n => ⟨x.fs.un b n, fun ⟨i, hi, e⟩ => ?_⟩, x.fs.ud, fun i d ad e1 e2 => x.fs.new i d ad (old e1).2 e2⟩⟩
  · rw [frz_get] at e
    by_cases q : i ∈ l
    · obtain ⟨d', q1⟩ := fine_own fine q
      rw [if_pos q, q1] at e
      simp only [Option.some.injEq, Prod.mk.injEq, and_true] at e
      subst e
      obtain ⟨ad, q2, q3, q4⟩ := x.sr.ow i _ q1
      have rr : RR fa K N H H σ E (.ref ad) ⟨d', .sl i, []⟩ := ⟨q1, q2⟩
      exact ⟨_, q2, Rep.sub (hide_dep fun j hj => by rw [List.mem_singleton.mp hj]; exact q) _ _ (rr.all x.sr (Sub.refl _))⟩
    · rw [if_neg q] at e
      obtain ⟨v, q1, q2⟩ := x.sr.fz i d e
      exact ⟨v, q1, Rep.sub sb _ _ q2⟩
  · obtain ⟨ni, e'⟩ := old e
    obtain ⟨ad, q1, q2, q3⟩ := x.sr.ow i d e'
    refine ⟨ad, q1, ⟨q2, fun ⟨j, hj, ej⟩ => ?_⟩, q3.sub sb (Sub.refl _)⟩
    obtain ⟨d', q4⟩ := fine_own fine hj
    have := x.sr.inj i j d d' ad e' q4 q1 ej
    exact ni (this ▸ hj)
  · obtain ⟨d', q4⟩ := fine_own fine hi
    have q5 := x.fs.new i d' b q4 e
    obtain ⟨o, q6⟩ := x.fs.ud b n
    rw [q5] at q6; cases q6
theorem Fx.put {K : PySem.W.Frag} {H0 H : Hp} {U N : Addr → Prop} {σ : L2.St} {E : Env} {i : Nat} {d : D} {v : V} (x : Fx fa K H0 U N H σ E) (lt : i < E.length) (r : Rep fa K (hide H N) d v) : Fx fa K H0 U N H (σ.set i (some v)) (E.set i (some (d, false))) :=
  ⟨x.sr.put lt r, ⟨x.fs.sub, x.fs.un, x.fs.ud, fun j d' ad e1 e2 => by
    obtain ⟨q1, q2⟩ := (mv_put (σ := σ) (v := some v) lt).own j d' e1
    exact x.fs.new j d' ad q1 (q2 ▸ e2)⟩⟩
theorem Fx.mv {K : PySem.W.Frag} {H0 H : Hp} {U N : Addr → Prop} {σ σ' : L2.St} {E E' : Env} {l : List Nat} (x : Fx fa K H0 U N H σ E) (s : SR fa K N H σ' E') (m : Mv l σ E σ' E') : Fx fa K H0 U N H σ' E' :=
  ⟨s, ⟨x.fs.sub, x.fs.un, x.fs.ud, fun j d' ad e1 e2 => by
    obtain ⟨q1, q2⟩ := m.own j d' e1
    exact x.fs.new j d' ad q1 (q2 ▸ e2)⟩⟩
/-- a new object goes into a slot -/
theorem Fx.own {K : PySem.W.Frag} {H0 H H' : Hp} {U N : Addr → Prop} {σ : L2.St} {E : Env} {i : Nat} {d : D} {p : Addr} (x : Fx fa K H0 U N H σ E) (g : Sub H H') (lt : i < E.length) (np : H p = none) (t : Top fa K (hide H' fun b => N b ∨ b = p) H' p d) :
    Fx fa K H0 U (fun b => N b ∨ b = p) H' (σ.set i (some (.ref p))) (E.set i (some (d, true))) := by
  obtain ⟨o, ho, mb⟩ := t.mb
  have s' := x.sr.also g np ho mb
  have other : ∀ {j : Nat} {d' : D} {ad : Addr}, i ≠ j → (E.set i (some (d, true)))[j]? = some (some (d', true)) → (σ.set i (some (V.ref p)))[j]? = some (some (.ref ad)) → E[j]? = some (some (d', true)) ∧ σ[j]? = some (some (.ref ad)) ∧ ad ≠ p := fun {j d' ad} q e1 e2 => by
    rw [List.getElem?_set_ne q] at e1 e2
    obtain ⟨ad', q1, q2, _⟩ := x.sr.ow j d' e1
    rw [e2] at q1; cases q1
    refine ⟨e1, e2, fun z => ?_⟩
    obtain ⟨u, q3, _⟩ := x.sr.sub ad q2
    rw [z, np] at q3; cases q3
  have me : ∀ {ad : Addr}, (σ.set i (some (V.ref p)))[i]? = some (some (.ref ad)) → ad = p := fun {ad} e => by
    rw [List.getElem?_set_self (by rw [x.sr.len]; exact lt)] at e
    cases e; rfl
  refine ⟨⟨by simp [x.sr.len], s'.sub, fun j d' e => ?_, fun j d' e => ?_, fun j k d1 d2 ad e1 e2 e3 e4 => ?_⟩, ⟨x.fs.sub.trans g, fun b n => .inl (x.fs.un b n), x.fs.ud, fun j d' ad e1 e2 => ?_⟩⟩
  · have q : i ≠ j := fun q => by
      subst q
      rw [List.getElem?_set_self lt] at e
      cases e
    rw [List.getElem?_set_ne q] at e ⊢
    exact s'.fz j d' e
  · by_cases q : i = j
    · subst q
      rw [List.getElem?_set_self lt] at e
      cases e
      exact ⟨p, by rw [List.getElem?_set_self (by rw [x.sr.len]; exact lt)], .inr rfl, t⟩
    · rw [List.getElem?_set_ne q] at e ⊢
      exact s'.ow j d' e
  · by_cases q : i = j
    · subst q
      by_cases q' : i = k
      · exact q'
      · exact ((other q' e2 e4).2.2 (me e3)).elim
    · by_cases q' : i = k
      · subst q'
        exact ((other q e1 e3).2.2 (me e4)).elim
      · obtain ⟨z1, z2, _⟩ := other q e1 e3
        obtain ⟨z3, z4, _⟩ := other q' e2 e4
        exact x.sr.inj j k d1 d2 ad z1 z3 z2 z4
  · by_cases q : i = j
    · subst q
      rw [me e2]
      exact x.fs.sub.none np
    · obtain ⟨z1, z2, _⟩ := other q e1 e2
      exact x.fs.new j d' ad z1 z2
/-- the object of a slot is written -/
theorem Fx.write {K : PySem.W.Frag} {H0 H : Hp} {U N : Addr → Prop} {σ : L2.St} {E : Env} {i : Nat} {d d' : D} {p : Addr} {o : HO} (x : Fx fa K H0 U N H σ E) (e0 : E[i]? = some (some (d, true))) (e1 : σ[i]? = some (some (.ref p))) (t : Top fa K (hide H N) (upd H p o) p d') :
    Fx fa K H0 U N (upd H p o) σ (E.set i (some (d', true))) ∧ Sub (hide H N) (hide (upd H p o) N) := by
  obtain ⟨ad, q1, q2, q3⟩ := x.sr.ow i d e0
  rw [e1] at q1; cases q1
  have lt := (List.getElem?_eq_some_iff.mp e0).1
  have h0 := x.fs.new i d p e0 e1
  have sb : Sub (hide H N) (hide (upd H p o) N) := fun b u eb => by
    unfold hide at eb ⊢
    split at eb
    · cases eb
    · rename_i nb
      rw [if_neg nb, upd_ne fun z => nb (by rw [z]; exact q2)]
      exact eb
  have other : ∀ {j : Nat} {d1 : D}, i ≠ j → (E.set i (some (d', true)))[j]? = some (some (d1, true)) → E[j]? = some (some (d1, true)) := fun {j d1} q e => by
    rw [List.getElem?_set_ne q] at e
    exact e
  have got : ∀ {j : Nat} {d1 : D}, (E.set i (some (d', true)))[j]? = some (some (d1, true)) → ∃ d2, E[j]? = some (some (d2, true)) := fun {j d1} e => by
    by_cases q : i = j
    · subst q; exact ⟨_, e0⟩
    · exact ⟨_, other q e⟩
  obtain ⟨u, hu, mb⟩ := t.mb
  refine ⟨⟨⟨by simp [x.sr.len], fun b n => ?_, fun j d1 e => ?_, fun j d1 e => ?_, fun j k d1 d2 a' e2 e3 e4 e5 => ?_⟩, ⟨fun b v e => ?_, x.fs.un, x.fs.ud, fun j d1 a' e2 e3 => ?_⟩⟩, sb⟩
  · by_cases q : b = p
    · subst q; exact ⟨u, hu, mb⟩
    · obtain ⟨v, z1, z2⟩ := x.sr.sub b n
      exact ⟨v, by rw [upd_ne q]; exact z1, z2⟩
  · have q : i ≠ j := fun q => by
      subst q
      rw [List.getElem?_set_self lt] at e
      cases e
    rw [List.getElem?_set_ne q] at e
    obtain ⟨v, z1, z2⟩ := x.sr.fz j d1 e
    exact ⟨v, z1, Rep.sub sb _ _ z2⟩
  · by_cases q : i = j
    · subst q
      rw [List.getElem?_set_self lt] at e
      cases e
      exact ⟨p, e1, q2, t.sub sb (Sub.refl _)⟩
    · have e' := other q e
      obtain ⟨a2, z1, z2, z3⟩ := x.sr.ow j d1 e'
      refine ⟨a2, z1, z2, ?_⟩
      have ne : a2 ≠ p := fun z => q (x.sr.inj i j d d1 p e0 e' e1 (z ▸ z1))
      have z4 := z3.sub sb (Sub.refl _)
      cases d1 with
      | lst ds => obtain ⟨vs, w1, w2⟩ := z4; exact ⟨vs, by rw [upd_ne ne]; exact w1, w2⟩
      | dct ks ds => obtain ⟨vs, w1, w2, w3⟩ := z4; exact ⟨vs, by rw [upd_ne ne]; exact w1, w2, w3⟩
      | _ => exact z4.elim
  · obtain ⟨_, z1⟩ := got e2
    obtain ⟨_, z2⟩ := got e3
    exact x.sr.inj j k _ _ a' z1 z2 e4 e5
  · have ne : b ≠ p := fun z => by rw [z, h0] at e; cases e
    rw [upd_ne ne]
    exact x.fs.sub _ _ e
  · obtain ⟨_, z1⟩ := got e2
    exact x.fs.new j _ a' z1 e3
theorem PostS.frzO {K : PySem.W.Frag} {W : WX} {H0 : Hp} {U : Addr → Prop} {D : Ends} {Z : Hp} {l : List Nat} {E : Env} {k : Env → O} (h : PostS fa ca K W H0 U D Z (Rt.frzO l E k)) : fineAt [] E l = true ∧ PostS fa ca K W H0 U D Z (k (frz l E)) := by
  unfold Rt.frzO at h
  split at h
  · exact ⟨by assumption, h⟩
  · exact h.elim
/-! ### stores -/
/-- a value goes into a slot -/
theorem set_nx {W : WX} {H0 H H1 : Hp} {U N : Addr → Prop} {σ : L2.St} {E : Env} {D : Ends} {i : Nat} {r : Rv} {v : V} (x : Fx fa X.K H0 U N H σ E) (g : Sub H H1) (rr : RR fa X.K N H H1 σ E v r)
    (q : PostS fa ca X.K W H0 U D (hide H N) (Rt.frzO r.kp E fun σ' => if i < E.length then .nx (σ'.set i (some (r.d, r.isNw))) else .bad)) : D.nx (σ.set i (some v)) H1 := by
  obtain ⟨fine, q⟩ := q.frzO
  split at q
  case isFalse => exact q.elim
  rename_i lt
  have x1 := x.frz fine
  have lt' : i < (frz r.kp E).length := by rw [frz_length]; exact lt
  have al := rr.all x.sr g
  have sb : ∀ H2 N2, Sub H H2 → (∀ b o, H b = some o → N2 b → N b) → Sub (hide H N) (hide H2 N2) := fun H2 N2 g2 h => hide_mono g2 h
  unfold RR at rr
  cases et : r.t with
  | nw =>
    rw [et] at rr
    obtain ⟨ad, e1, e2, e3⟩ := rr
    subst e1
    have ek : r.kp = r.p := by unfold Rv.kp; rw [et]
    have en : r.isNw = true := by unfold Rv.isNw; rw [et]
    rw [en] at q
    rw [← ek] at e3
    refine q _ H1 _ ?_ (x1.own g lt' e2 e3)
    exact hide_mono g fun b o eb n => n.elim (fun n => n.1) fun z => by rw [z, e2] at eb; cases eb
  | fz =>
    have en : r.isNw = false := by unfold Rv.isNw; rw [et]
    rw [en] at q
    exact q _ H1 _ (hide_mono g fun b o _ n => n.1) ((x1.grow g).put lt' al)
  | sl j =>
    have en : r.isNw = false := by unfold Rv.isNw; rw [et]
    rw [en] at q
    exact q _ H1 _ (hide_mono g fun b o _ n => n.1) ((x1.grow g).put lt' al)
theorem sndS_set {i : Nat} {y : Str} {p1 : Pos} (hN : X.N.Nodup) (hi : X.N[i]? = some y) (hx : Loc X.env.scope y) (he : Snd fa ca X e da) (hs : swapsWith e (some (.Name y p1)) pos.line X.env = pure false) (hf : X.fn y = true ∨ X.env.scope.names.lookup y = some .local) :
    SndS fa ca X (.Assign [.Name y p1] e pos) (sSet i da) := fun W tk H0 U N H σ E D x p => by
  refine of_ps (ps_set hN hi hx (peE (e := e)) hs hf) ?_
  show tE X e σ H _
  refine he W tk N H σ E _ x.sr ?_
  have p' : PostS fa ca X.K W H0 U D (hide H N) ((da E).to E fun r => Rt.frzO r.kp E fun σ' => if i < E.length then .nx (σ'.set i (some (r.d, r.isNw))) else .bad) := p
  exact (p'.to x.fs.sub).imp fun r _ q v H1 g rr => set_nx x g rr q
theorem sndS_setLc {i : Nat} {y : Str} {p1 p2 : Pos} {ifs : List Expr} {scope : Scope} {own : List (Str × Nat)} {is : List Nat} {g : Tg} {t : Tst} (hc : X.calm = true) (hN : X.N.Nodup) (hy : X.N[i]? = some y) (hyl : X.env.scope.names.lookup y = some .local)
    (hsw : swapsWith (.ListComp elt [⟨tg, iter, ifs, 0⟩] scope p2) (some (.Name y p1)) pos.line X.env = pure true) (hi : SndI fa ca X tg iter it) (ok : BlkOk X.N X.env.scope scope own) (his : ∀ i ∈ is, i ∈ own.map (·.2))
    (hg : ∀ (s : Shared) (H : Hp) (C : Addr) (cl : List (Str × Addr)) (fp : List Addr), SndG fa (blkN X scope s H C cl fp) tg is g)
    (ht : ∀ (s : Shared) (H : Hp) (C : Addr) (cl : List (Str × Addr)) (fp : List Addr), SndTs fa ca (blkN X scope s H C cl fp) ifs t)
    (he : ∀ (s : Shared) (H : Hp) (C : Addr) (cl : List (Str × Addr)) (fp : List Addr), Snd fa ca (blkN X scope s H C cl fp) elt da) (hs : ∀ x, foldedSetIterable iter X.env x = pure x) :
    SndS fa ca X (.Assign [.Name y p1] (.ListComp elt [⟨tg, iter, ifs, 0⟩] scope p2) pos) (sSet i (xLC (own.map (·.2)) it g t da)) := fun W tk H0 U N H σ E D x p => by
  refine of_ps (ps_setLc (own := own) hc hN hy hyl hsw piI ok pg_b pt_b pe_b hs) ?_
  have p' : PostS fa ca X.K W H0 U D (hide H N) ((xLC (own.map (·.2)) it g t da E).to E fun r => Rt.frzO r.kp E fun σ' => if i < E.length then .nx (σ'.set i (some (r.d, r.isNw))) else .bad) := p
  exact lc_read (Q := fun v H1 => D.nx (σ.set i (some v)) H1) hi his hg ht he tk x.sr ((p'.to x.fs.sub).imp fun r _ q v H1 g rr => set_nx x g rr q)
theorem sndS_tg {is : List Nat} {g : Tg} (hg : SndG fa X tg is g) (he : Snd fa ca X e da) (hs : swapsWithSole [tg] e pos.line X.env = pure false) (hw : swappedStores [tg] e X.env = pure none) (h1 : (assignEach [tg] X.env).map (·.2) = [assign tg X.env]) :
    SndS fa ca X (.Assign [tg] e pos) (sTg g da) := fun W tk H0 U N H σ E D x p => by
  refine of_ps (ps_asg (peE (e := e)) pgG hs hw h1) ?_
  show tE X e σ H _
  refine he W tk N H σ E _ x.sr ?_
  have p' : PostS fa ca X.K W H0 U D (hide H N) ((da E).to E fun r => Rt.frzO r.kp E fun σ' => match g r.d σ' with | some σ'' => .nx σ'' | none => .bad) := p
  refine (p'.to x.fs.sub).imp fun r _ q v H1 g1 rr => ?_
  obtain ⟨fine, q⟩ := q.frzO
  cases qg : g r.d (frz r.kp E) with
  | none => rw [qg] at q; exact q.elim
  | some E2 =>
    rw [qg] at q
    have x1 := (x.frz fine).grow g1
    refine hg.run _ H1 σ _ r.d v E2 _ x1.sr (rr.all x.sr g1) qg fun σ2 s2 m2 => ?_
    exact q _ H1 σ2 (hide_mono g1 fun b o _ n => n.1) (x1.mv s2 m2)
theorem sndS_par {i j : Nat} {y z : Str} {py pz pt : Pos} {kt k2 : Nat} {pt2 : Pos} (hc : X.calm = true) (hN : X.N.Nodup) (hi : X.N[i]? = some y) (hj : X.N[j]? = some z) (hij : i ≠ j) (hy : X.env.scope.names.lookup y = some .local) (hz : X.env.scope.names.lookup z = some .local)
    (hs1 : notStar a = true) (hs2 : notStar b = true) (hw : swappedStores [.Tuple [.Name y py, .Name z pz] kt pt] (.Tuple [a, b] k2 pt2) X.env = pure (some [y, z])) (ha : Snd fa ca X a da) (hb : Snd fa ca X b db) :
    SndS fa ca X (.Assign [.Tuple [.Name y py, .Name z pz] kt pt] (.Tuple [a, b] k2 pt2) pos) (sPar i j da db) := fun W tk H0 U N H σ E D x p => by
  refine of_ps (ps_par hc hN hi hj hij hy hz (pa_cons (peE (e := a)) (pa_cons (peE (e := b)) pa_nil (star_cons hs2)) (star_cons hs1)) hw rfl) ?_
  show tE X a σ H _
  refine ha W tk N H σ E _ x.sr ?_
  have p' : PostS fa ca X.K W H0 U D (hide H N) ((da E).to E fun r => (db E).to E fun s => Rt.frzO (r.kp ++ s.kp) E fun σ' => if i < E.length ∧ j < E.length then .nx ((σ'.set i (some (r.d, false))).set j (some (s.d, s.isNw))) else .bad) := p
  refine (p'.to x.fs.sub).imp fun r _ q v H1 g1 rr => ?_
  show tE X b σ H1 _
  have x1 := x.grow g1
  refine hb W tk N H1 σ E _ x1.sr ?_
  refine (q.to x1.fs.sub).imp fun r' _ q2 w H2 g2 rr2 => ?_
  refine ⟨v, w, rfl, ?_⟩
  obtain ⟨fine, q3⟩ := q2.frzO
  split at q3
  case isFalse => exact q3.elim
  rename_i lt
  have sameK : ∀ b o, H b = some o → (del N σ (r.kp ++ r'.kp)) b → N b := fun b o _ n => n.1
  have al1 : Rep fa X.K (hide H2 (del N σ (r.kp ++ r'.kp))) r.d v := Rep.sub (hide_mono g2 fun b o _ n => del_anti mem_app_l n) _ _ (rr.all x.sr g1)
  have al2 : Rep fa X.K (hide H2 (del N σ (r.kp ++ r'.kp))) r'.d w := Rep.sub (hide_dep mem_app_r) _ _ (rr2.all x1.sr g2)
  have flat : r'.isNw = false → D.nx ((σ.set i (some v)).set j (some w)) H2 := fun en => by
    rw [en] at q3
    have x2 := (x1.frz fine).grow g2
    exact q3 _ H2 _ (hide_mono (g1.trans g2) fun b o _ n => n.1) ((x2.put (by rw [frz_length]; exact lt.1) al1).put (by rw [List.length_set, frz_length]; exact lt.2) al2)
  cases et : r'.t with
  | fz => exact flat (by unfold Rv.isNw; rw [et])
  | sl k => exact flat (by unfold Rv.isNw; rw [et])
  | nw =>
    unfold RR at rr2
    rw [et] at rr2
    obtain ⟨ad, e1, e2, e3⟩ := rr2
    subst e1
    have ek : r'.kp = r'.p := by unfold Rv.kp; rw [et]
    have en : r'.isNw = true := by unfold Rv.isNw; rw [et]
    rw [en] at q3
    rw [← ek] at e3
    have al1' : Rep fa X.K (hide H1 (del N σ (r.kp ++ r'.kp))) r.d v := Rep.sub (hide_dep mem_app_l) _ _ (rr.all x.sr g1)
    have x3 := (x1.frz fine).put (i := i) (by rw [frz_length]; exact lt.1) al1'
    refine q3 _ H2 _ ?_ (x3.own g2 (by rw [List.length_set, frz_length]; exact lt.2) e2 (Top.sub (hide_mono (Sub.refl _) fun b o _ n => n.elim (fun n => .inl (del_anti mem_app_r n)) .inr) (Sub.refl _) e3))
    exact hide_mono (g1.trans g2) fun b o eb n => n.elim (fun n => n.1) fun z => by
      have := g1 _ _ eb
      rw [z, e2] at this; cases this
/-- a, b = c, d, stored through a pair (one of the names lies in a cell) -/
theorem sndS_parC {i j : Nat} {y z : Str} {py pz pt : Pos} {kt k2 : Nat} {pt2 : Pos} (hc : X.calm = true) (hN : X.N.Nodup) (hi : X.N[i]? = some y) (hj : X.N[j]? = some z) (hy : L2.Loc X.env.scope y) (hz : L2.Loc X.env.scope z)
    (fy : X.fn y = true ∨ X.env.scope.names.lookup y = some .local) (fz : X.fn z = true ∨ X.env.scope.names.lookup z = some .local)
    (hs1 : notStar a = true) (hs2 : notStar b = true) (hsw : swapsWithSole [.Tuple [.Name y py, .Name z pz] kt pt] (.Tuple [a, b] k2 pt2) pos.line X.env = pure false) (hw : swappedStores [.Tuple [.Name y py, .Name z pz] kt pt] (.Tuple [a, b] k2 pt2) X.env = pure none) (ha : Snd fa ca X a da) (hb : Snd fa ca X b db) :
    SndS fa ca X (.Assign [.Tuple [.Name y py, .Name z pz] kt pt] (.Tuple [a, b] k2 pt2) pos) (sPar i j da db) := fun W tk H0 U N H σ E D x p => by
  refine of_ps (ps_asg (pe_tup (pa_cons (peE (e := a)) (pa_cons (peE (e := b)) pa_nil (star_cons hs2)) (star_cons hs1))) (pg_tup hc (pgs_cons (pg_name hN hi hy fy) (pgs_cons (pg_name hN hj hz fz) pgs_nil))) hsw hw rfl) ?_
  show tE X a σ H _
  refine ha W tk N H σ E _ x.sr ?_
  have p' : PostS fa ca X.K W H0 U D (hide H N) ((da E).to E fun r => (db E).to E fun s => Rt.frzO (r.kp ++ s.kp) E fun σ' => if i < E.length ∧ j < E.length then .nx ((σ'.set i (some (r.d, false))).set j (some (s.d, s.isNw))) else .bad) := p
  refine (p'.to x.fs.sub).imp fun r _ q v H1 g1 rr => ?_
  show tE X b σ H1 _
  have x1 := x.grow g1
  refine hb W tk N H1 σ E _ x1.sr ?_
  refine (q.to x1.fs.sub).imp fun r' _ q2 w H2 g2 rr2 => ?_
  refine ⟨by show 2 ≤ sizeLine; decide, fun T hT => ?_⟩
  refine ⟨T, [v, w], rfl, .inl (.inl upd_same), rfl, v, [w], rfl, w, [], rfl, rfl, ?_⟩
  have g3 : Sub H2 (upd H2 T (.tup [v, w])) := sub_upd hT
  have g23 := g2.trans g3
  obtain ⟨fine, q3⟩ := q2.frzO
  split at q3
  case isFalse => exact q3.elim
  rename_i lt
  have al1 : Rep fa X.K (hide (upd H2 T (.tup [v, w])) (del N σ (r.kp ++ r'.kp))) r.d v := Rep.sub (hide_mono g23 fun b o _ n => del_anti mem_app_l n) _ _ (rr.all x.sr g1)
  have al2 : Rep fa X.K (hide (upd H2 T (.tup [v, w])) (del N σ (r.kp ++ r'.kp))) r'.d w := Rep.sub (hide_mono g3 fun b o _ n => del_anti mem_app_r n) _ _ (rr2.all x1.sr g2)
  have flat : r'.isNw = false → D.nx ((σ.set i (some v)).set j (some w)) (upd H2 T (.tup [v, w])) := fun en => by
    rw [en] at q3
    have x2 := (x1.frz fine).grow g23
    exact q3 _ _ _ (hide_mono (g1.trans g23) fun b o _ n => n.1) ((x2.put (by rw [frz_length]; exact lt.1) al1).put (by rw [List.length_set, frz_length]; exact lt.2) al2)
  cases et : r'.t with
  | fz => exact flat (by unfold Rv.isNw; rw [et])
  | sl k => exact flat (by unfold Rv.isNw; rw [et])
  | nw =>
    unfold RR at rr2
    rw [et] at rr2
    obtain ⟨ad, e1, e2, e3⟩ := rr2
    subst e1
    have ek : r'.kp = r'.p := by unfold Rv.kp; rw [et]
    have en : r'.isNw = true := by unfold Rv.isNw; rw [et]
    rw [en] at q3
    rw [← ek] at e3
    have al1' : Rep fa X.K (hide H1 (del N σ (r.kp ++ r'.kp))) r.d v := Rep.sub (hide_dep mem_app_l) _ _ (rr.all x.sr g1)
    have x3 := (x1.frz fine).put (i := i) (by rw [frz_length]; exact lt.1) al1'
    refine q3 _ _ _ ?_ (x3.own g23 (by rw [List.length_set, frz_length]; exact lt.2) e2 (Top.sub (hide_mono g3 fun b o _ n => n.elim (fun n => .inl (del_anti mem_app_r n)) .inr) g3 e3))
    exact hide_mono (g1.trans g23) fun b o eb n => n.elim (fun n => n.1) fun z => by
      have := g1 _ _ eb
      rw [z, e2] at this; cases this
/-! ### branches, loops -/
theorem sndS_if (hc : SndT fa ca X c tc) (ha : SndSs fa ca X body fb) (hb : SndSs fa ca X orelse fo) : SndS fa ca X (.If c body orelse pos) (sIf tc fb fo) := fun W tk H0 U N H σ E D x p => by
  refine of_ps (ps_if (ptT (e := c)) pssS pssS) ?_
  show tT X c σ H _
  refine hc W tk N H σ E _ x.sr ?_
  have p' : PostS fa ca X.K W H0 U D (hide H N) ((tc E).to E fun k => match k with | true => fb E | false => fo E) := p
  refine (p'.to x.fs.sub).imp fun k _ q H1 g => ?_
  cases k with
  | true =>
    simp only [if_true]
    exact ha W tk H0 U N H1 σ E D (x.grow g) (q.base (hide_grow g))
  | false =>
    simp only [Bool.false_eq_true, if_false]
    exact hb W tk H0 U N H1 σ E D (x.grow g) (q.base (hide_grow g))
theorem sndS_while (hp : PassesOwn (model X.prog X.w) X.A X.env X.xe) (hc : SndT fa ca X c tc) (hb : SndSs fa ca X body fb) : SndS fa ca X (.While c body [] pos) (sWhile tc fb) := fun W tk H0 U N H σ E D x p => by
  refine of_ps (ps_while hp (ptT (e := c)) pssS) ?_
  refine ⟨fun m σ' H' => ∃ N' E', Sub (hide H N) (hide H' N') ∧ Fx fa X.K H0 U N' H' σ' E' ∧ PostS fa ca X.K W H0 U D (hide H N) (whileGo tc fb m E'), ⟨fuel, N, E, Sub.refl _, x, p⟩, ?_⟩
  rintro m σ' H' ⟨N', E', sb, x', p'⟩
  cases m with
  | zero => exact p'.elim
  | succ m =>
    show tT X c σ' H' _
    refine hc W tk N' H' σ' E' _ x'.sr ?_
    have p2 : PostS fa ca X.K W H0 U D (hide H N) ((tc E').to E' fun k => match k with | true => (fb E').bd (whileGo tc fb m) | false => .nx E') := p'
    refine (p2.to x'.fs.sub).imp fun k _ q H1 g => ?_
    cases k with
    | true =>
      simp only [if_true]
      refine ⟨fun σ2 H2 => ∃ N2 E2, Sub (hide H N) (hide H2 N2) ∧ Fx fa X.K H0 U N2 H2 σ2 E2 ∧ PostS fa ca X.K W H0 U D (hide H N) (whileGo tc fb m E2), fun σ2 H2 n => ⟨m, Nat.lt_succ_self m, n⟩, ?_⟩
      refine hb W tk H0 U N' H1 σ' E' _ (x'.grow g) ?_
      exact PostS.base (PostS.bd q fun E2 N2 H2 σ2 sb2 x2 q2 => ⟨N2, E2, sb2, x2, q2⟩) (sb.trans (hide_grow g))
    | false =>
      simp only [Bool.false_eq_true, if_false]
      exact q N' H1 σ' (sb.trans (hide_grow g)) (x'.grow g)
end
end Rt
end
section
set_option linter.all false
set_option autoImplicit false
set_option Elab.async false
set_option maxRecDepth 100000
set_option maxHeartbeats 2000000
namespace Rt
open PySem PySem.Spec PyProof.Rows L2
section
variable {fa ca : Nat → Addr} {X : Cx} {a b c e tg iter elt : Expr} {da db dc : Ex} {ta tb tc : Tst} {pos : Pos} {it : Itr} {st : Stmt} {sts body orelse : List Stmt} {f g fb fo : Sm}
theorem PostS.bd2 {K : PySem.W.Frag} {W : WX} {H0 : Hp} {U : Addr → Prop} {D : Ends} {Z Z2 : Hp} {o : O} {k : Sm} (h : PostS fa ca K W H0 U D Z (o.bd k)) {nx' : L2.St → Hp → Prop}
    (hk : ∀ E' N' H' σ', Sub Z2 (hide H' N') → Fx fa K H0 U N' H' σ' E' → PostS fa ca K W H0 U D Z (k E') → nx' σ' H') {bk' ct' : L2.St → Hp → Prop} : PostS fa ca K W H0 U { D with nx := nx', bk := bk', ct := ct' } Z2 o := by
  cases o with
  | nx E => exact fun N' H' σ' s x => hk E N' H' σ' s x h
  | rt d fr => exact h
  | ex c x E => exact h
  | bad => exact h
def SndJ (fa ca : Nat → Addr) (X : Cx) (tg iter : Expr) (f : Itr) : Prop := ∀ (W : WX), Takes X W → ∀ (N : Addr → Prop) (H : Hp) (σ : L2.St) (E : Env) (R : It → Hp → Prop), SR fa X.K N H σ E →
  Post ca W H σ (fun q => ∀ J H', Sub H H' → Wk fa X.K (hide H' (del N σ q.2)) (hide H' (del N σ q.2)) J q.1 → R J H') (f E) → tI X tg iter σ H R
theorem Wk.more {K : PySem.W.Frag} {Zt Zi Zi' : Hp} {J : It} {items : List D} (w : Wk fa K Zt Zi J items) (h : Sub Zi Zi') : Wk fa K Zt Zi' J items where
  go := fun i H d st si e => by
    obtain ⟨jg, jy⟩ := w.go i H d st (h.trans si) e
    refine ⟨jg, fun x H' y => ?_⟩
    obtain ⟨g, r⟩ := jy x H' y
    refine ⟨g, ?_⟩
    dsimp only at r ⊢
    refine Rep.sub (fun b o e => ?_) _ _ r
    cases z : H b with
    | none => simp only [z] at e ⊢; exact e
    | some u => simp only [z] at e ⊢; exact h _ _ e
  stop := fun i H st si le => w.stop i H st (h.trans si) le
theorem SndI.toJ (h : SndI fa ca X tg iter it) : SndJ fa ca X tg iter it := fun W tk N H σ E R s p => by
  refine h W tk N H σ E R s ?_
  cases q : it E with
  | ok r => rw [q] at p; exact fun J H' g w => p J H' g (w.more (hide_mono (Sub.refl _) fun b o _ n => n.1))
  | ex c x => rw [q] at p; exact p
  | bad => rw [q] at p; exact p
theorem snd_seqF (ha : Snd fa ca X a da) : SndJ fa ca X tg a (iSeqF da) := fun W tk N H σ E R s p => by
  refine of_pi (pi_list (peE (e := a))) ?_
  show tE X a σ H _
  unfold iSeqF at p
  refine ha.bd tk s (Sub.refl _) p fun r x H1 e1 g1 r1 p1 => ?_
  cases hd : r.d <;> simp only [hd] at p1 <;> try exact p1.elim
  rename_i xs
  cases et : r.t <;> simp only [et] at p1 <;> try exact p1.elim
  unfold RR at r1
  rw [et] at r1
  dsimp only at r1
  obtain ⟨ap, rfl, np, tp⟩ := r1
  rw [hd] at tp
  obtain ⟨vs, h1, h2⟩ := tp
  have nN : ¬ del N σ r.p ap := fun n => by
    obtain ⟨o, z, _⟩ := s.sub ap n.1
    rw [np] at z; cases z
  exact ⟨ap, rfl, ⟨vs, SqL.of h1⟩, p1 _ H1 g1 (wk_list (by rw [hide_at nN]; exact h1) (RepL.sub (hide_mono (Sub.refl _) fun b o _ n => .inl n) _ _ h2))⟩
theorem sndS_for {is : List Nat} {gg : Tg} (hp : PassesOwn (model X.prog X.w) X.A X.env X.xe) (hc : X.calm = true) (hi : SndJ fa ca X tg iter it) (hg : SndG fa X tg is gg) (hb : SndSs fa ca X body fb)
    (hs : ∀ x, foldedSetIterable iter X.env x = pure x) : SndS fa ca X (.For tg iter body [] pos) (sFor gg it fb) := fun W tk H0 U N H σ E D x p => by
  refine of_ps (ps_for hp hc piI pgG pssS hs) ?_
  show tI X tg iter σ H _
  refine hi W tk N H σ E _ x.sr ?_
  have p' : PostS fa ca X.K W H0 U D (hide H N) ((it E).to E fun q => Rt.frzO q.2 E fun σ' => forGo gg fb q.1 σ') := p
  refine (p'.to x.fs.sub).imp fun q _ pq J H1 g1 wk => ?_
  obtain ⟨fine, pq⟩ := pq.frzO
  have x1 := (x.frz fine).grow g1
  have s1 : Sub (hide H N) (hide H1 (del N σ q.2)) := hide_mono g1 fun b o _ n => n.1
  have s2 : Sub (hide H1 N) (hide H1 (del N σ q.2)) := hide_mono (Sub.refl _) fun b o _ n => n.1
  refine ⟨fun i m σ' H' => m = q.1.length - i ∧ i ≤ q.1.length ∧ ∃ N' E', Sub (hide H1 (del N σ q.2)) (hide H' N') ∧ Fx fa X.K H0 U N' H' σ' E' ∧ PostS fa ca X.K W H0 U D (hide H N) (forGo gg fb (q.1.drop i) E'),
    ⟨_, rfl, Nat.zero_le _, _, _, Sub.refl _, x1, pq⟩, ?_⟩
  rintro i m σ' H' ⟨rfl, hil, N', E', sb, x', p3⟩
  have zt : Sub (hide H1 (del N σ q.2)) H' := sb.trans hide_sub
  by_cases hlt : i < q.1.length
  · have hdr : q.1.drop i = q.1[i] :: q.1.drop (i + 1) := (List.getElem_cons_drop hlt).symm
    rw [hdr] at p3
    obtain ⟨jg, jy⟩ := wk.go i H' q.1[i] zt zt (List.getElem?_eq_getElem hlt)
    refine .inr ⟨jg, fun σ2 H2 => ∃ N2 E2, Sub (hide H1 (del N σ q.2)) (hide H2 N2) ∧ Fx fa X.K H0 U N2 H2 σ2 E2 ∧ PostS fa ca X.K W H0 U D (hide H N) (forGo gg fb (q.1.drop (i + 1)) E2), fun σ2 H2 n => ⟨q.1.length - (i + 1), by omega, rfl, hlt, n⟩, fun v H3 y3 => ?_⟩
    obtain ⟨g3, rv⟩ := jy v H3 y3
    have x3 := x'.grow g3
    have rv' : Rep fa X.K (hide H3 N') q.1[i] v := Rep.sub (fun b o e => by
      cases z : H' b with
      | none =>
        simp only [z] at e
        rw [hide_at fun n => ?_]
        · exact e
        · obtain ⟨u, q1, _⟩ := x'.sr.sub b n
          rw [q1] at z; cases z
      | some u =>
        simp only [z] at e
        exact hide_grow g3 _ _ (sb _ _ e)) _ _ rv
    have p4 : PostS fa ca X.K W H0 U D (hide H N) (match gg q.1[i] E' with | none => .bad | some σ' => (fb σ').bd (forGo gg fb (q.1.drop (i + 1)))) := p3
    cases qg : gg q.1[i] E' with
    | none => rw [qg] at p4; exact p4.elim
    | some E2 =>
      rw [qg] at p4
      refine hg.run N' H3 σ' E' _ v E2 _ x3.sr rv' qg fun σ2 s2' m2 => ?_
      have x4 := x3.mv s2' m2
      refine hb W tk H0 U N' H3 σ2 E2 _ x4 ?_
      exact p4.bd2 fun E5 N5 H5 σ5 sb5 x5 q5 => ⟨N5, E5, (sb.trans (hide_grow g3)).trans sb5, x5, q5⟩
  · have ei : i = q.1.length := by omega
    subst ei
    rw [List.drop_length] at p3
    exact .inl ⟨wk.stop _ H' zt zt (Nat.le_refl _), p3 N' H' σ' (s1.trans sb) x'⟩
/-! ### lists that are written -/
/-- what stands in a slot that owns it -/
theorem own_at {H0 H H1 : Hp} {U N : Addr → Prop} {σ : L2.St} {E : Env} {i : Nat} {xs : List D} {l : List Nat} (x : Fx fa X.K H0 U (del N σ l) H1 σ (frz l E)) (e : (frz l E)[i]? = some (some (.lst xs, true))) :
    ∃ p vs, σ[i]? = some (some (.ref p)) ∧ H1 p = some (.lst vs) ∧ RepL fa X.K (hide H1 (del N σ l)) xs vs ∧ del N σ l p := by
  obtain ⟨p, q1, q2, vs, q3, q4⟩ := x.sr.ow i _ e
  exact ⟨p, vs, q1, q3, q4, q2⟩
theorem hide_upd {H : Hp} {N : Addr → Prop} {p : Addr} {o : HO} (n : N p) : hide (upd H p o) N = hide H N := by
  funext b
  unfold hide
  split
  · rfl
  · rename_i nb
    exact upd_ne fun z => nb (z ▸ n)
theorem sndS_app {i : Nat} {y : Str} {p1 p2 p3 : Pos} (hN : X.N[i]? = some y) (hv : Vis X.env.scope y) (hd : (y == ("__debug__" : Str)) = false) (hcd : (y == ("__classdict__" : Str)) = false) (hst : notStar e = true) (hline : (p2.endLine == p3.line) = true) (he : Snd fa ca X e da) :
    SndS fa ca X (.Expr (.Call (.Attribute (.Name y p1) "append" p2) [e] [] p3) pos) (sApp i da) := fun W tk H0 U N H σ E D x p => by
  refine of_ps (ps_expr (pe_bm PySem.F.plainAttrs_list PySem.F.slot_list_append PySem.F.type_list_append mt_append (pe_var (i := i) hN hv hd hcd) (pa_cons (peE (e := e)) pa_nil (star_cons hst)) rfl (by rw [star_cons hst]; rfl) hline (star_cons hst) rfl) rfl) ?_
  unfold sApp at p
  split at p
  case h_2 => exact p.elim
  · rename_i xs0 hsl
    have p' : PostS fa ca X.K W H0 U D (hide H N) ((da E).to E fun r => Rt.frzO r.kp E fun σ' => match σ'[i]? with
      | some (some (.lst xs, true)) => if xs.length < line then .nx (σ'.set i (some (.lst (xs ++ [r.d]), true))) else .bad
      | _ => .bad) := p
    obtain ⟨ap, z1, z2, vs0, z3, z4⟩ := x.sr.ow i _ hsl
    refine ⟨_, z1, .inl ⟨rfl, _, SqL.of z3⟩, ?_⟩
    show tE X e σ H _
    refine he W tk N H σ E _ x.sr ?_
    refine (p'.to x.fs.sub).imp fun r _ q v H1 g rr => ?_
    obtain ⟨fine, q⟩ := q.frzO
    have x1 := (x.frz fine).grow g
    cases qe : (frz r.kp E)[i]? with
    | none => simp only [qe] at q; exact q.elim
    | some o =>
      cases o with
      | none => simp only [qe] at q; exact q.elim
      | some dk =>
        obtain ⟨d, k⟩ := dk
        cases d <;> cases k <;> simp only [qe] at q <;> try exact q.elim
        rename_i xs
        split at q
        case isFalse => exact q.elim
        rename_i hl
        obtain ⟨p, vs, w1, w2, w3, w4⟩ := own_at (H := H) x1 qe
        have e1 : p = ap := by rw [z1] at w1; cases w1; rfl
        subst e1
        obtain ⟨x2, sb⟩ := x1.write (o := .lst (vs ++ [v])) (d' := .lst (xs ++ [r.d])) qe w1 ⟨_, upd_same, w3.append (.one (rr.all x.sr g))⟩
        exact ⟨p, vs, v, rfl, rfl, w2, by rw [← line_eq, ← w3.length]; exact hl, q _ _ _ ((hide_mono g fun b o _ n => n.1).trans sb) x2⟩
theorem place_ix {n : Nat} {i : Int} {k : Nat} (h : place n i = some k) : ixN n i = some k := by
  unfold place at h
  unfold ixN
  by_cases h0 : 0 ≤ i
  · rw [if_pos h0] at h ⊢
    by_cases h1 : i < (n : Int)
    · rw [if_pos h1] at h ⊢; exact h
    · rw [if_neg h1] at h; cases h
  · rw [if_neg h0] at h ⊢
    by_cases h1 : 0 ≤ i + (n : Int)
    · rw [if_pos h1] at h
      first
        | (rw [if_pos h1]; exact h)
        | (rw [if_pos (by omega)]; exact h)
    · rw [if_neg h1] at h; cases h
theorem sub_assign {y : Str} {p1 p2 : Pos} {env : PySem.Env} (hb : notSlice b = true) : ∀ v, assign (.Subscript (.Name y p1) b p2) env v = (do
      let ov ← holding [v] (eval (.Name y p1) env)
      let iv ← holding [v, ov] (eval b env)
      standAt p2
      holding [v, ov, iv] (setItem ov iv v)
      release [v, ov, iv] []) := fun v => by
  cases b <;> first | rfl | exact absurd hb (by simp [notSlice])
theorem sole_plain {tg : Expr} {l : Nat} {env : PySem.Env} (hp : plainV e = true) : swapsWithSole [tg] e l env = pure false := by
  show swapsWith e (some tg) l env = pure false
  exact swaps_plain hp
theorem swst_sub {o i : Expr} {p2 : Pos} {env : PySem.Env} : swappedStores [.Subscript o i p2] e env = pure none := by cases e <;> rfl
theorem own_atD {H0 H H1 : Hp} {U N : Addr → Prop} {σ : L2.St} {E : Env} {i : Nat} {ks vs : List D} {l : List Nat} (x : Fx fa X.K H0 U (del N σ l) H1 σ (frz l E)) (e : (frz l E)[i]? = some (some (.dct ks vs, true))) :
    ∃ p kvs, σ[i]? = some (some (.ref p)) ∧ H1 p = some (.dK kvs) ∧ ks = kvs.map (fun p => keyD p.1) ∧ RepL fa X.K (hide H1 (del N σ l)) vs (kvs.map (·.2)) ∧ del N σ l p := by
  obtain ⟨p, q1, q2, vs, q3, q4, q5⟩ := x.sr.ow i _ e
  exact ⟨p, vs, q1, q3, q4, q5, q2⟩
theorem set_dict (hu : X.A.units + 1 < cLine) : PSet X (fun o i v H Q => ∃ a H', o = .ref a ∧ DPut H a i v H' ∧ Q H') := by
  intro pins s σ H o i v ov iv u Q I ro ri rv h
  obtain ⟨a, H', rfl, g, q⟩ := h
  cases ro
  exact d_setItem hu I g ri rv fun s' I' => ⟨H', I', q⟩
theorem any_key {k : Key} : ∀ kvs : List (Key × V), ((kvs.map fun p => keyD p.1).any fun z => sameKey z (keyD k)) = kvs.any fun kv => decide (kv.1 = k)
  | [] => rfl
  | p :: kvs => by
    rw [List.map_cons, List.any_cons, List.any_cons, any_key kvs]
    congr 1
    by_cases c : p.1 = k
    · rw [decide_eq_true c]; exact keyD_same.mpr (by rw [c])
    · rw [decide_eq_false c]
      cases q : sameKey (keyD p.1) (keyD k) with
      | false => rfl
      | true => exact absurd (keyD_inj (keyD_same.mp q)).symm c
theorem dkSet_val {K : PySem.W.Frag} {Z : Hp} {k : Key} {x : D} {w : V} (hw : Rep fa K Z x w) : ∀ {kvs : List (Key × V)} {vs : List D}, RepL fa K Z vs (kvs.map (·.2)) →
    RepL fa K Z (dkSet (kvs.map fun p => keyD p.1) vs (keyD k) x) ((kvs.map fun kv => if kv.1 = k then (kv.1, w) else kv).map (·.2))
  | [], vs, h => by cases vs <;> simp [dkSet, RepL]
  | p :: kvs, [], h => by simp [RepL] at h
  | p :: kvs, d :: vs, h => by
    simp only [List.map_cons, RepL] at h
    obtain ⟨v, r, e1, h1, h2⟩ := h
    cases e1
    simp only [List.map_cons, dkSet]
    by_cases c : p.1 = k
    · rw [if_pos (keyD_same.mpr (by rw [c])), if_pos c]
      exact .cons_ hw (dkSet_val hw h2)
    · rw [if_neg fun z => c (keyD_inj (keyD_same.mp z)).symm, if_neg c]
      exact .cons_ h1 (dkSet_val hw h2)
theorem dkPut_val {K : PySem.W.Frag} {Z : Hp} {k : Key} {x : D} {w : V} (hw : Rep fa K Z x w) {kvs : List (Key × V)} {vs : List D} (h : RepL fa K Z vs (kvs.map (·.2))) :
    (dkPut (kvs.map fun p => keyD p.1) vs (keyD k) x).1 = (putK kvs k w).map (fun p => keyD p.1) ∧ RepL fa K Z (dkPut (kvs.map fun p => keyD p.1) vs (keyD k) x).2 ((putK kvs k w).map (·.2)) := by
  unfold dkPut putK
  rw [any_key]
  cases q : (kvs.any fun kv => decide (kv.1 = k)) with
  | true =>
    simp only [if_true]
    refine ⟨?_, dkSet_val hw h⟩
    rw [List.map_map]
    apply List.map_congr_left
    intro p _
    show keyD p.1 = keyD (if p.1 = k then (p.1, w) else p).1
    split <;> rfl
  | false =>
    refine ⟨by simp, ?_⟩
    simp only [Bool.false_eq_true, if_false, List.map_append, List.map_cons, List.map_nil]
    exact h.append (.one hw)
theorem sndS_put {kk : Nat} (hr : Room kk X.A) {i : Nat} {y : Str} {p1 p2 : Pos} (hN : X.N[i]? = some y) (hv : Vis X.env.scope y) (hd : (y == ("__debug__" : Str)) = false) (hcd : (y == ("__classdict__" : Str)) = false) (hk : Snd fa ca X b db) (he : Snd fa ca X e da) (hb : notSlice b = true) (hp : plainV e = true) :
    SndS fa ca X (.Assign [.Subscript (.Name y p1) b p2] e pos) (sPut i db da) := fun W tk H0 U N H σ E D x p => by
  refine of_ps (ps_asg (peE (e := e)) (pg_sub (t := fun o i v H Q => rSetL o i v H Q ∨ ∃ a H', o = .ref a ∧ DPut H a i v H' ∧ Q H') (pe_var (i := i) hN hv hd hcd) (peE (e := b)) (fun pins s σ H o i v ov iv u Q I ro ri rv h => h.elim (set_list pins s σ H o i v ov iv u Q I ro ri rv) (set_dict (by have := hr.units; omega) pins s σ H o i v ov iv u Q I ro ri rv)) (sub_assign hb)) (sole_plain hp) swst_sub rfl) ?_
  show tE X e σ H _
  unfold sPut at p
  split at p
  case h_3 => exact p.elim
  case h_1 =>
    rename_i xs0 hsl
    obtain ⟨ap, z1, z2, vs0, z3, z4⟩ := x.sr.ow i _ hsl
    have p' : PostS fa ca X.K W H0 U D (hide H N) ((da E).to E fun r => (db E).to E fun s => Rt.frzO r.kp E fun σ' => match s.d, σ'[i]? with
      | .int j, some (some (.lst xs, true)) => (match place xs.length j with
        | some n => .nx (σ'.set i (some (.lst (xs.set n r.d), true)))
        | none => .bad)
      | _, _ => .bad) := p
    refine he W tk N H σ E _ x.sr ?_
    refine (p'.to x.fs.sub).imp fun r _ q v H1 g1 rr => ?_
    have x1 := x.grow g1
    refine ⟨_, z1, ?_⟩
    show tE X b σ H1 _
    refine hk W tk N H1 σ E _ x1.sr ?_
    refine (q.to x1.fs.sub).imp fun s _ q u H2 g2 rr2 => ?_
    have g12 := g1.trans g2
    have k2 := rr2.kid x1.sr g2
    obtain ⟨fine, q⟩ := q.frzO
    have x2 := (x1.frz fine).grow g2
    cases hd : s.d <;> simp only [hd] at q k2 <;> try exact q.elim
    rename_i j
    cases qe : (frz r.kp E)[i]? with
    | none => simp only [qe] at q; exact q.elim
    | some o =>
      cases o with
      | none => simp only [qe] at q; exact q.elim
      | some dk =>
        obtain ⟨d, k⟩ := dk
        cases d <;> cases k <;> simp only [qe] at q <;> try exact q.elim
        rename_i xs
        obtain ⟨p, vs, w1, w2, w3, w4⟩ := own_at (H := H1) x2 qe
        have e1 : p = ap := by rw [z1] at w1; cases w1; rfl
        subst e1
        cases qp : place xs.length j with
        | none => simp only [qp] at q; exact q.elim
        | some n =>
          simp only [qp] at q
          have rv : Rep fa X.K (hide H2 (del N σ r.kp)) r.d v := Rep.sub (hide_grow g2) _ _ (rr.all x.sr g1)
          obtain ⟨x3, sb⟩ := x2.write (o := .lst (vs.set n v)) (d' := .lst (xs.set n r.d)) qe w1 ⟨_, upd_same, w3.set n rv⟩
          have ei := k2.int
          exact .inl ⟨p, vs, j, n, rfl, ei, w2, place_ix (by rw [← w3.length]; exact qp), q _ _ _ ((hide_mono g12 fun b o _ n => n.1).trans sb) x3⟩
  case h_2 =>
    rename_i ks0 ds0 hsl
    obtain ⟨ap, z1, z2, vs0, z3, z4⟩ := x.sr.ow i _ hsl
    have p' : PostS fa ca X.K W H0 U D (hide H N) ((da E).to E fun r => (db E).to E fun s => Rt.frzO r.kp E fun σ' => match σ'[i]? with
      | some (some (.dct ks vs, true)) => if isKey s.d && decide (ks.length < line) then .nx (σ'.set i (some (.dct (dkPut ks vs s.d r.d).1 (dkPut ks vs s.d r.d).2, true))) else .bad
      | _ => .bad) := p
    refine he W tk N H σ E _ x.sr ?_
    refine (p'.to x.fs.sub).imp fun r _ q v H1 g1 rr => ?_
    have x1 := x.grow g1
    refine ⟨_, z1, ?_⟩
    show tE X b σ H1 _
    refine hk W tk N H1 σ E _ x1.sr ?_
    refine (q.to x1.fs.sub).imp fun s _ q u H2 g2 rr2 => ?_
    have g12 := g1.trans g2
    have k2 := rr2.kid x1.sr g2
    obtain ⟨fine, q⟩ := q.frzO
    have x2 := (x1.frz fine).grow g2
    cases qe : (frz r.kp E)[i]? with
    | none => simp only [qe] at q; exact q.elim
    | some o =>
      cases o with
      | none => simp only [qe] at q; exact q.elim
      | some dk =>
        obtain ⟨d, k⟩ := dk
        cases d <;> cases k <;> simp only [qe] at q <;> try exact q.elim
        rename_i ks ds
        split at q
        case isFalse => exact q.elim
        rename_i hc
        simp only [Bool.and_eq_true, decide_eq_true_eq] at hc
        obtain ⟨key, ek⟩ := isKey_is hc.1
        rw [ek] at q k2
        obtain ⟨p, kvs, w1, w2, w5, w3, w4⟩ := own_atD (H := H1) x2 qe
        subst w5
        have e1 : p = ap := by rw [z1] at w1; cases w1; rfl
        subst e1
        have rv : Rep fa X.K (hide H2 (del N σ r.kp)) r.d v := Rep.sub (hide_grow g2) _ _ (rr.all x.sr g1)
        have dv := dkPut_val (k := key) rv w3
        obtain ⟨x3, sb⟩ := x2.write (o := .dK (putK kvs key v)) (d' := .dct (dkPut (kvs.map fun p => keyD p.1) ds (keyD key) r.d).1 (dkPut (kvs.map fun p => keyD p.1) ds (keyD key) r.d).2) qe w1 ⟨_, upd_same, dv.1, dv.2⟩
        have ey := k2.key
        subst ey
        exact .inr ⟨p, _, rfl, DPut.k w2 (by rw [← line_eq]; have := hc.2; simpa using this), q _ _ _ ((hide_mono g12 fun b o _ n => n.1).trans sb) x3⟩
end
end Rt
end
section
set_option linter.all false
set_option autoImplicit false
set_option Elab.async false
set_option maxRecDepth 100000
set_option maxHeartbeats 2000000
namespace Rt
open PySem PySem.Spec PyProof.Rows L2
section
variable {fa ca : Nat → Addr} {X : Cx} {a b c e tg : Expr} {da db dc : Ex} {pos : Pos}
/-! ### list(x), tuple(x), sorted(x) -/
theorem Kid.tupK {K : PySem.W.Frag} {Z H : Hp} {v : V} {xs : List D} (sz : Sub Z H) (k : Kid fa K Z H v (.tup xs)) : ∃ a vs, v = .ref a ∧ SqT K H a vs ∧ RepL fa K Z xs vs := by
  have k2 : Rep fa K Z (.tup xs) v := k
  simp only [Rep] at k2
  obtain ⟨a, vs, rfl, h1, h2⟩ := k2
  exact ⟨a, vs, rfl, SqT.sub h1 sz, h2⟩
theorem bi_list : BiS fa X (.type "list") bList := fun Z H vs ds r fr Q sz kd q k pins s σ us I rv => by
  unfold bList at q
  split at q <;> cases q
  · obtain ⟨v, rfl, a, xs, rfl, h1, h2⟩ := kid1 kd
    exact call_list_of pins s σ H _ us Q I rv ⟨a, xs, rfl, .inl (SqL.of h1), fun l hl => k _ _ (NewR.list hl sz h2)⟩
  · obtain ⟨v, rfl, k1⟩ := kid1 kd
    obtain ⟨a, xs, rfl, h1, h2⟩ := k1.tupK sz
    exact call_list_of pins s σ H _ us Q I rv ⟨a, xs, rfl, .inr h1, fun l hl => k _ _ (NewR.list hl sz h2)⟩
theorem bi_tuple : BiS fa X (.type "tuple") bTuple := fun Z H vs ds r fr Q sz kd q k pins s σ us I rv => by
  unfold bTuple at q
  split at q <;> cases q
  · obtain ⟨v, rfl, a, xs, rfl, h1, h2⟩ := kid1 kd
    exact call_tuple_of pins s σ H _ us Q I rv ⟨a, xs, rfl, .inl ⟨SqL.of h1, fun l hl => k _ _ (NewR.tuple hl sz h2)⟩⟩
  · obtain ⟨v, rfl, k1⟩ := kid1 kd
    have k2 : Rep fa X.K Z (.tup _) v := k1
    obtain ⟨a, xs, rfl, h1, h2⟩ := k1.tupK sz
    exact call_tuple_of pins s σ H _ us Q I rv ⟨a, xs, rfl, .inr ⟨h1, k _ _ (NewR.old k2 sz)⟩⟩
theorem insI_perm (i : Int) : ∀ l : List Int, (insI i l).Perm (i :: l)
  | [] => .refl _
  | j :: js => by
    unfold insI
    split
    · exact .refl _
    · exact ((insI_perm i js).cons j).trans (List.Perm.swap i j js)
theorem isort_perm : ∀ l : List Int, (isort l).Perm l
  | [] => .refl _
  | i :: is => (insI_perm i (isort is)).trans ((isort_perm is).cons i)
theorem insI_srt (i : Int) : ∀ l : List Int, l.Pairwise (· ≤ ·) → (insI i l).Pairwise (· ≤ ·)
  | [], _ => List.pairwise_singleton _ _
  | j :: js, h => by
    have h1 := List.pairwise_cons.mp h
    unfold insI
    split
    · rename_i le
      refine List.pairwise_cons.mpr ⟨fun x hx => ?_, h⟩
      rcases List.mem_cons.mp hx with rfl | hx
      · exact le
      · have := h1.1 x hx; omega
    · rename_i le
      refine List.pairwise_cons.mpr ⟨fun x hx => ?_, insI_srt i js h1.2⟩
      rcases List.mem_cons.mp ((insI_perm i js).mem_iff.mp hx) with rfl | hx
      · omega
      · exact h1.1 x hx
theorem isort_srt : ∀ l : List Int, (isort l).Pairwise (· ≤ ·)
  | [] => .nil
  | i :: is => insI_srt i _ (isort_srt is)
theorem srt_uniq {l m : List Int} (p : l.Perm m) (hl : l.Pairwise (· ≤ ·)) (hm : m.Pairwise (· ≤ ·)) : l = m :=
  p.eq_of_pairwise (fun a b _ _ h1 h2 => Int.le_antisymm h1 h2) hl hm
theorem pyL_map : ∀ xs : List D, D.pyL xs = xs.map D.py
  | [] => rfl
  | x :: xs => by simp [D.pyL, pyL_map xs]
theorem each_vals : ∀ {ws : List V} {us : List Value} {xs : List D}, Vals ws us → ws.length = xs.length → PySem.W.EachIs (fun u (b : V × D) => RelV b.1 u) us (ws.zip xs)
  | [], _, xs, .nil, _ => .nil
  | w :: ws, _, [], _, h => by simp at h
  | w :: ws, _, x :: xs, .cons r t, h => .cons r (each_vals t (by simpa using h))
theorem vals_each : ∀ {bs : List (V × D)} {us : List Value}, PySem.W.EachIs (fun u (b : V × D) => RelV b.1 u) us bs → Vals (bs.map (·.1)) us
  | [], _, .nil => .nil
  | b :: bs, _, .cons r t => .cons r (vals_each t)
theorem zip_snd : ∀ {ws : List V} {xs : List D}, ws.length = xs.length → (ws.zip xs).map (·.2) = xs
  | [], [], _ => rfl
  | w :: ws, x :: xs, h => by simp [zip_snd (ws := ws) (xs := xs) (by simpa using h)]
  | [], _ :: _, h => by simp at h
  | _ :: _, [], h => by simp at h
theorem zip_rep {K : PySem.W.Frag} {Z : Hp} : ∀ {ws : List V} {xs : List D}, RepL fa K Z xs ws → ∀ b ∈ ws.zip xs, Rep fa K Z b.2 b.1
  | ws, [], h, b, hb => by simp at hb
  | ws, x :: xs, h, b, hb => by
    simp only [RepL] at h
    obtain ⟨v, r, rfl, h1, h2⟩ := h
    rcases List.mem_cons.mp (by simpa using hb) with rfl | hb
    · exact h1
    · exact zip_rep h2 b hb
theorem rep_list {K : PySem.W.Frag} {Z : Hp} : ∀ (bs : List (V × D)), (∀ b ∈ bs, Rep fa K Z b.2 b.1) → RepL fa K Z (bs.map (·.2)) (bs.map (·.1))
  | [], _ => by simp [RepL]
  | b :: bs, h => .cons_ (h b List.mem_cons_self) (rep_list bs fun c hc => h c (List.mem_cons_of_mem _ hc))
theorem bi_sorted {kk : Nat} (hr : Room kk X.A) : BiS fa X (.builtin "sorted") bSorted := fun Z H vs ds r fr Q sz kd q k pins s σ us I rv => by
  unfold bSorted at q
  split at q
  case h_2 => cases q
  rename_i xs
  obtain ⟨v, rfl, a, ws, rfl, h1, h2⟩ := kid1 kd
  cases e1 : asInts xs with
  | some is =>
    simp only [e1] at q
    cases q
    obtain ⟨_, e3⟩ := h2.asInts e1
    subst e3
    refine cr_sortedI pins s σ H _ us Q I rv ⟨a, is, rfl, SqL.of h1, fun ns' p hp hs hn => ?_⟩
    have e : ns' = isort is := srt_uniq (hp.trans (isort_perm is).symm) hs (isort_srt is)
    subst e
    exact k _ _ (NewR.list hn sz (RepL.of_ints _))
  | none =>
    simp only [e1] at q
    split at q
    case isFalse => cases q
    rename_i ok
    cases q
    simp only [okSort, Bool.and_eq_true, Bool.or_eq_true, decide_eq_true_eq] at ok
    obtain ⟨o1, o2, o3, o4⟩ := ok
    have hH : RepL fa X.K H xs ws := RepL.sub sz _ _ h2
    have dp := RepL.dp xs ws hH o1
    obtain ⟨its, vv, hl, hz⟩ := I.list (SqL.of h1)
    have lw : ws.length = xs.length := (h2.length).symm
    obtain ⟨u, rfl, ru⟩ := rv.one
    obtain rfl : u = Value.ref a := ru
    obtain ⟨as, ra⟩ := Dp.readsAll I _ _ _ dp vv
    have e0 : (ws.zip xs).map (fun b => b.2.py) = D.pyL xs := by
      rw [pyL_map, ← zip_snd lw, List.map_map, zip_snd lw]
      rfl
    have er := PySem.W.readsAll_each (h := s.heap) (fun b : V × D => b.2.py) (vs := its) (bs := ws.zip xs) (by rw [e0]; exact ra)
    have hu := hr.units
    have dpt : ∀ b ∈ ws.zip xs, b.2.py.depth ≤ 50 := fun b hb => by
      have m : b.2.py ∈ D.pyL xs := by rw [← e0]; exact List.mem_map.mpr ⟨b, hb, rfl⟩
      have : ∀ (l : List PyData) (d : PyData), d ∈ l → d.depth ≤ PyData.depthAll l := by
        intro l
        induction l with
        | nil => intro d h; cases h
        | cons y l ih =>
          intro d h
          simp only [PyData.depthAll]
          rcases List.mem_cons.mp h with rfl | h
          · omega
          · have := ih d h; omega
      have := this _ _ m
      omega
    have mem_x : ∀ b ∈ ws.zip xs, b.2 ∈ xs := fun b hb => by
      rw [← zip_snd lw]
      exact List.mem_map.mpr ⟨b, hb, rfl⟩
    refine PySem.W.sorted_data (R := fun u (b : V × D) => RelV b.1 u) (enc := fun b : V × D => b.2.py) (bs := ws.zip xs) hl.isList (each_vals vv lw) er (fun d hd d' hd' => ?_) ?_ ?_ (fun b hb => ?_) fun out lo eo => ?_
    · obtain ⟨b, hb, rfl⟩ := List.mem_map.mp hd
      obtain ⟨b', hb', rfl⟩ := List.mem_map.mp hd'
      exact List.all_eq_true.mp (List.all_eq_true.mp o3 _ (mem_x b hb)) _ (mem_x b' hb')
    · rcases o4 with o4 | o4
      · refine .inl fun d hd => ?_
        obtain ⟨b, hb, rfl⟩ := List.mem_map.mp hd
        have t := List.all_eq_true.mp o4 _ (mem_x b hb)
        revert t
        unfold tupC
        split
        · rename_i y ys e; intro _; exact ⟨y, ys, e⟩
        · intro t; cases t
      · refine .inr fun d hd => ?_
        obtain ⟨b, hb, rfl⟩ := List.mem_map.mp hd
        have t := List.all_eq_true.mp o4 _ (mem_x b hb)
        revert t
        unfold noTN
        split
        · intro t; cases t
        · intro t; cases t
        · rename_i n1 n2
          intro _
          exact ⟨fun e => n1 e, fun ys e => n2 ys e⟩
    · rw [List.length_zip, lw]
      have := hz
      omega
    · have := dpt b hb
      show X.A.units + 2 + b.2.py.depth < cLine
      omega
    · have ev := vals_each eo
      have pm : ((ws.zip xs).mergeSort (PySem.W.dataLe false fun b : V × D => b.2.py)).Perm (ws.zip xs) := List.mergeSort_perm _ _
      have rl : RepL fa X.K Z (((ws.zip xs).mergeSort (PySem.W.dataLe false fun b : V × D => b.2.py)).map (·.2)) (((ws.zip xs).mergeSort (PySem.W.dataLe false fun b : V × D => b.2.py)).map (·.1)) := rep_list _ fun b hb => zip_rep h2 b (pm.mem_iff.mp hb)
      have em : ((ws.zip xs).mergeSort (PySem.W.dataLe false fun b : V × D => b.2.py)).map (·.2) = xs.mergeSort leD := by
        refine (List.map_mergeSort (r := PySem.W.dataLe false fun b : V × D => b.2.py) (s := leD) (f := fun b : V × D => b.2) (l := ws.zip xs) (fun a _ b _ => rfl)).trans ?_
        rw [zip_snd lw]
      rw [em] at rl
      have hl2 : (((ws.zip xs).mergeSort (PySem.W.dataLe false fun b : V × D => b.2.py)).map (·.1)).length ≤ sizeLine := by
        rw [List.length_map, pm.length_eq, List.length_zip, lw]
        omega
      have fr1 : H (s.heap.objs.size + 1) = none := I.hok.fresh (Nat.le_succ _)
      obtain ⟨c, hc⟩ := PyProof.Rows.sortedAll_at s.heap its out.toArray
      exact ⟨.ref (s.heap.objs.size + 1), _, I.laid (t' := s.toks) (fun b o e => PyProof.Rows.sortedAll_old e) (Nat.le_succ _) (show ObjOk X.prog X.w _ _ _ (.lst (((ws.zip xs).mergeSort (PySem.W.dataLe false fun b : V × D => b.2.py)).map (·.1))) from ⟨hl2, out, c, ev, hc⟩), rfl, k _ _ (NewR.list fr1 sz rl)⟩
/-! ### x.index(k), x.count(k) -/
def MtS (fa : Nat → Addr) (X : Cx) (id : String) (f : List D → List D → Option (D × Bool)) : Prop :=
  ∀ (Z H : Hp) (a : Addr) (ws : List V) (xs : List D) (vs : List V) (ds : List D) (r : D) (fr : Bool) (Q : VK), Sub Z H → H a = some (.lst ws) → RepL fa X.K Z xs ws → KidL fa X.K Z H vs ds → f xs ds = some (r, fr) → (∀ z H2, NewR fa X.K Z H H2 fr r z → Q z H2) →
    ∀ (pins : List (Addr × Obj)) (s : Shared) (σ : L2.St) (u : Value) (us : List Value), Inv X pins σ H s → RelV (.ref a) u → Vals vs us → wpAny (model X.prog X.w) X.A (call (.builtin id) (u :: us)) (EP X pins σ Q) X.xe s
theorem snd_mt {id : String} {f : List D → List D → Option (D × Bool)} {o e : Expr} {es : List Expr} {fs : List Ex} {name : Str} {apos cpos : Pos} {dO : Ex} (hm : MtS fa X id f) (slot : PySem.Slot "list" name id) (hty : typeOf (.builtin id) = pure (.type "method_descriptor"))
    (ho : Snd fa ca X o dO) (ha : SndA fa ca X (e :: es) fs) (hst : (e :: es).all notStar = true) (hfew : decide ((e :: es).length + 0 + 0 < 30) = true) (hline : (apos.endLine == cpos.line) = true) (hbase : attributeBase o name X.env (eval o X.env) = eval o X.env) :
    Snd fa ca X (.Call (.Attribute o name apos) (e :: es) [] cpos) (xMt f dO fs) := fun W tk N H σ E Q s p => by
  simp only [List.all_cons, Bool.and_eq_true] at hst
  have hs := star_cons (env := X.env) (es := es) hst.1
  have hpl : (backTo cpos (starEach es X.env)).any (·.1) = false := noStar_any hst.2
  refine of_pe (pe_bm (r := fun x xs H' Q' => ∀ (pins : List (Addr × Obj)) (s : Shared) (σ : L2.St) (u : Value) (us : List Value), Inv X pins σ H' s → RelV x u → Vals xs us → wpAny (model X.prog X.w) X.A (call (.builtin id) (u :: us)) (EP X pins σ Q') X.xe s)
    PySem.F.plainAttrs_list slot hty (fun pins s σ H x xs v us Q I rx rxs h => h pins s σ v us I rx rxs) (peE (e := o)) (paA (es := e :: es)) hbase ?_ hline hs hpl) ?_
  · rw [hs]
    show ((!false && (backTo cpos (starEach es X.env)).all (fun x => !x.1)) && true && _) = true
    have h2 : (backTo cpos (starEach es X.env)).all (fun x => !x.1) = true := by
      rw [List.any_eq_false] at hpl
      exact List.all_eq_true.mpr fun x hx => by
        have := hpl x hx
        simpa using this
    rw [h2]
    simpa using hfew
  · show tE X o σ H _
    unfold xMt at p
    refine ho.bd tk s (Sub.refl _) p fun r x H1 e1 g1 r1 p1 => ?_
    have k1 := r1.kid s g1
    cases hd : r.d <;> simp only [hd] at p1 k1 <;> try exact p1.elim
    rename_i xs
    obtain ⟨ap, ws, rfl, h1, h2⟩ := k1
    refine ⟨.inl ⟨rfl, ws, SqL.of h1⟩, ?_⟩
    refine ha.bd tk (s.grow g1) g1 p1 fun rs vs H2 e2 g2 r2 p2 => ?_
    have g12 := g1.trans g2
    cases q : f xs (dL rs) with
    | none => simp only [q] at p2; exact p2.elim
    | some z =>
      obtain ⟨d, fr⟩ := z
      simp only [q] at p2
      refine hm (hide H2 (del N σ (r.kc ++ kcL rs))) H2 ap ws xs vs (dL rs) d fr _ hide_sub (g2 _ _ h1) (RepL.sub (Sub.trans (hide_mono g2 fun b o _ n => n) (hide_dep mem_app_l)) _ _ h2) (rrl_kid (s.grow g1) g2 _ r2 fun i h => mem_app_r i h) q fun z H3 nr => p2 z H3 (g12.trans nr.1) (nr.rr s g12)
theorem firstAt_spec {k : Int} : ∀ {l : List Int} {j : Nat}, firstAt k l = some j → l[j]? = some k ∧ ∀ m, m < j → ∀ z, l[m]? = some z → z ≠ k
  | [], j, h => by cases h
  | x :: l, j, h => by
    unfold firstAt at h
    by_cases c : x = k
    · rw [if_pos c] at h
      cases h
      exact ⟨by simp [c], fun m hm => absurd hm (Nat.not_lt_zero _)⟩
    · rw [if_neg c] at h
      obtain ⟨i, h1, rfl⟩ := Option.map_eq_some_iff.mp h
      obtain ⟨q1, q2⟩ := firstAt_spec h1
      refine ⟨by simpa using q1, fun m hm z hz => ?_⟩
      cases m with
      | zero => simp at hz; rw [← hz]; exact c
      | succ m => exact q2 m (by omega) z (by simpa using hz)
theorem kidInt {K : PySem.W.Frag} {Z H : Hp} {vs : List V} {i : Int} (h : KidL fa K Z H vs [.int i]) : vs = [.int i] := by
  obtain ⟨v, rfl, k1⟩ := kid1 h
  rw [k1.int]
theorem mt_idx : MtS fa X "list.index" mIndex := fun Z H a ws xs vs ds r fr Q sz ha rl kd q k pins s σ u us I ru rv => by
  unfold mIndex at q
  split at q
  · obtain ⟨is, e1, q⟩ := Option.bind_eq_some_iff.mp q
    obtain ⟨j, e2, q⟩ := Option.map_eq_some_iff.mp q
    cases q
    obtain ⟨_, e3⟩ := rl.asInts e1
    subst e3
    have ev := kidInt kd
    subst ev
    obtain ⟨f1, f2⟩ := firstAt_spec e2
    refine mt_index pins s σ H _ _ u us Q I ru rv ⟨a, is.map V.int, .int _, j, .int _, rfl, rfl, SqL.of ha, rfl, ?_, by rw [List.getElem?_map, f1]; rfl, ?_, fun m z' hm hz => ?_, k _ _ newR_int⟩
    · simp [List.all_eq_true, flatV]
    · simp [eqV]
    · rw [List.getElem?_map] at hz
      obtain ⟨w, hw, rfl⟩ := Option.map_eq_some_iff.mp hz
      have := f2 m hm w hw
      simp [eqV, this]
  · cases q
theorem mt_cnt : MtS fa X "list.count" mCount := fun Z H a ws xs vs ds r fr Q sz ha rl kd q k pins s σ u us I ru rv => by
  unfold mCount at q
  split at q
  · obtain ⟨is, e1, q⟩ := Option.map_eq_some_iff.mp q
    cases q
    obtain ⟨_, e3⟩ := rl.asInts e1
    subst e3
    have ev := kidInt kd
    subst ev
    exact mt_lcount pins s σ H _ _ u us Q I ru rv ⟨a, is, _, rfl, rfl, SqL.of ha, k _ _ newR_int⟩
  · cases q
/-! ### xs.extend(ys) -/
theorem sndS_ext {i : Nat} {y : Str} {p1 p2 p3 : Pos} (hN : X.N[i]? = some y) (hv : Vis X.env.scope y) (hd : (y == ("__debug__" : Str)) = false) (hcd : (y == ("__classdict__" : Str)) = false) (hst : notStar e = true) (hline : (p2.endLine == p3.line) = true) (he : Snd fa ca X e da) :
    SndS fa ca X (.Expr (.Call (.Attribute (.Name y p1) "extend" p2) [e] [] p3) pos) (sExt i da) := fun W tk H0 U N H σ E D x p => by
  refine of_ps (ps_expr (pe_bm PySem.F.plainAttrs_list PySem.F.slot_list_extend PySem.F.type_list_extend mt_extend (pe_var (i := i) hN hv hd hcd) (pa_cons (peE (e := e)) pa_nil (star_cons hst)) rfl (by rw [star_cons hst]; rfl) hline (star_cons hst) rfl) rfl) ?_
  unfold sExt at p
  split at p
  case h_2 => exact p.elim
  · rename_i xs0 hsl
    have p' : PostS fa ca X.K W H0 U D (hide H N) ((da E).to E fun r => (match r.d with
      | .lst ys => Rt.frzO r.kc E fun σ' => (match σ'[i]? with
        | some (some (.lst xs, true)) => if xs.length + ys.length ≤ line then .nx (σ'.set i (some (.lst (xs ++ ys), true))) else .bad
        | _ => .bad)
      | _ => .bad)) := p
    obtain ⟨ap, z1, z2, vs0, z3, z4⟩ := x.sr.ow i _ hsl
    refine ⟨_, z1, .inl ⟨rfl, _, SqL.of z3⟩, ?_⟩
    show tE X e σ H _
    refine he W tk N H σ E _ x.sr ?_
    refine (p'.to x.fs.sub).imp fun r _ q v H1 g rr => ?_
    have kd := rr.kid x.sr g
    cases hrd : r.d <;> simp only [hrd] at q kd <;> try exact q.elim
    rename_i ys
    obtain ⟨bp, ws, rfl, k1, k2⟩ := kd
    obtain ⟨fine, q⟩ := q.frzO
    have x1 := (x.frz fine).grow g
    cases qe : (frz r.kc E)[i]? with
    | none => simp only [qe] at q; exact q.elim
    | some o =>
      cases o with
      | none => simp only [qe] at q; exact q.elim
      | some dk =>
        obtain ⟨d, k⟩ := dk
        cases d <;> cases k <;> simp only [qe] at q <;> try exact q.elim
        rename_i xs
        split at q
        case isFalse => exact q.elim
        rename_i hl
        obtain ⟨p, vs, w1, w2, w3, w4⟩ := own_at (H := H) x1 qe
        have e1 : p = ap := by rw [z1] at w1; cases w1; rfl
        subst e1
        obtain ⟨x2, sb⟩ := x1.write (o := .lst (vs ++ ws)) (d' := .lst (xs ++ ys)) qe w1 ⟨_, upd_same, w3.append k2⟩
        exact ⟨p, bp, vs, ws, rfl, rfl, w2, k1, by rw [← line_eq, ← w3.length, ← k2.length]; exact hl, q _ _ _ ((hide_mono g fun b o _ n => n.1).trans sb) x2⟩
/-! ### range(i, j, k) -/
theorem wk_rangeC {K : PySem.W.Frag} {Zt Zi : Hp} {lo c : Int} {n : Nat} : Wk fa K Zt Zi (L2.Itc lo c n) (((List.range n).map fun (k : Nat) => lo + (k : Int) * c).map .int) where
  go := fun i H d st si e => by
    simp only [List.map_map, List.getElem?_map, Option.map_eq_some_iff] at e
    obtain ⟨k, e1, e2⟩ := e
    have lt : i < n := by
      have := (List.getElem?_eq_some_iff.mp e1).1
      simpa using this
    rw [List.getElem?_range lt] at e1
    cases e1
    refine ⟨lt, fun x H' y => ?_⟩
    obtain ⟨rfl, rfl⟩ := y
    rw [← e2]
    exact newR_int
  stop := fun i H st si le => by
    have : n ≤ i := by simpa using le
    exact this
theorem snd_range3 {p0 : Pos} (hg : Gl X "range") (hm : X.mg "range" = none) (hs : notStar a = true) (hs2 : notStar b = true) (hs3 : notStar c = true) (ha : Snd fa ca X a da) (hb : Snd fa ca X b db) (hc : Snd fa ca X c dc) : SndI fa ca X tg (.Call (.Name "range" p0) [a, b, c] [] pos) (Rt.iRng3 da db dc) := fun W tk N H σ E R s p => by
  refine of_pi (pi_range3 hg hm (pa_cons (peE (e := a)) (pa_cons (peE (e := b)) (pa_cons (peE (e := c)) pa_nil (star_cons hs3)) (star_cons hs2)) (star_cons hs)) (by rw [star_cons hs, star_cons hs2, star_cons hs3]) (noStar_any (by simp [hs2, hs3]))) ?_
  unfold Rt.iRng3 at p
  show tE X a σ H _
  refine ha.bd tk s (Sub.refl _) p fun r x H1 e1 g1 r1 p1 => ?_
  refine hb.bd tk (s.grow g1) g1 p1 fun r' y H2 e2 g2 r2 p2 => ?_
  refine hc.bd tk (s.grow (g1.trans g2)) (g1.trans g2) p2 fun r'' z H3 e3 g3 r3 p3 => ?_
  have g23 := g2.trans g3
  have g13 := g1.trans g23
  have k1 := (r1.grow g23).kid s g13
  have k2 := (r2.grow g3).kid (s.grow g1) g23
  have k3 := r3.kid (s.grow (g1.trans g2)) g3
  cases hd : r.d <;> simp only [hd] at p3 k1 <;> try exact p3.elim
  cases hd2 : r'.d <;> simp only [hd2] at p3 k2 <;> try exact p3.elim
  cases hd3 : r''.d <;> simp only [hd3] at p3 k3 <;> try exact p3.elim
  rename_i i j kk
  cases q : stepI i j kk with
  | none => simp only [q] at p3; exact p3.elim
  | some l =>
    simp only [q] at p3
    unfold stepI at q
    split at q
    case isFalse => cases q
    rename_i ok
    simp only [Bool.and_eq_true, decide_eq_true_eq] at ok
    cases q
    have e := k1.int; subst e
    have e := k2.int; subst e
    have e := k3.int; subst e
    exact ⟨i, j, kk, _, rfl, ⟨ok.1.1, ok.1.2, ok.2, rangeSize_toNat i j kk⟩, p3 _ H3 g13 wk_rangeC⟩
/-! ### {} -/
theorem snd_dct0 : Snd fa ca X (.Dict [] [] pos) xDct0 := fun W tk N H σ E Q s p => by
  refine of_pe pe_dnewK ?_
  intro ap hn
  exact p _ _ (sub_upd hn) (NewR.rr (fr := true) (p := []) s (Sub.refl _) ⟨sub_upd hn, ap, rfl, hn, [], upd_same, rfl, by simp [RepL]⟩)
/-! ### list(range(..)) -/
theorem snd_lrg1 {p0 p1 p2 : Pos} (hcalm : X.calm = true) (hg : Gl X "range") (hm : X.mg "range" = none) (hg' : Gl X "list") (hm' : X.mg "list" = none) (hs : notStar a = true) (ha : Snd fa ca X a da) :
    Snd fa ca X (.Call (.Name "list" p1) [.Call (.Name "range" p0) [a] [] p2] [] pos) (xLRg1 da) := fun W tk N H σ E Q s p => by
  refine of_pe (pe_listRg hcalm hg' hm' (prg_1 hg hm (peE (e := a)) (star_cons hs)) rfl) ?_
  unfold xLRg1 at p
  show tE X a σ H _
  refine ha.bd tk s (Sub.refl _) p fun r x H1 e1 g1 r1 p1 => ?_
  have k1 := r1.kid s g1
  cases hd : r.d <;> simp only [hd] at p1 k1 <;> try exact p1.elim
  rename_i n
  split at p1
  case isFalse => exact p1.elim
  rename_i ok
  simp only [okRl, Bool.and_eq_true, decide_eq_true_eq, below_iff] at ok
  have e := k1.int; subst e
  refine ⟨n, rfl, RgOk.of_le (by decide) (by omega) (by decide) (by omega), fun q hq => p1 _ _ (g1.trans (sub_upd hq)) ?_⟩
  have en : rgV 0 n = ((upto 0 n.toNat).map V.int) := by
    unfold rgV upto
    rw [List.map_map]
    rw [show n - 0 = n by omega]
    rfl
  rw [en]
  exact NewR.rr (fr := true) (p := []) s g1 (NewR.list hq hide_sub (RepL.of_ints _))
end
end Rt
end
section
set_option linter.all false
set_option autoImplicit false
set_option Elab.async false
set_option maxRecDepth 100000
set_option maxHeartbeats 3200000
namespace Rt
open PySem PySem.Spec PyProof.Rows L2
/-! ## sorted(set(x)), x a list of few ints -/
section
variable {P : Program} {w : World} {A : Around} {E : Value → Shared → Prop} {s : Shared}
abbrev SO_ (w : World) : Obj := { cls := .type "set", dict := none, data := .set #[] 0 (.fresh 0 0 (!w.params.followText "set-order")) }
/-- a set made of a list: its members are the list's, its walk is known -/
theorem call_set_lst {l : Addr} {its : Array Value} (ns : List Int) {Q : Value → Shared → Prop} (nh : A.handled = none) (il : s.heap.IsList l its) (ia : IntsAre its.toList ns) (fw : ns.length + 1 < scanBound)
    (k : ∀ (g : Heap) (tk c : Nat), SetR w g s.heap.objs.size (fun j => decide (j ∈ ns)) c → c ≤ ns.length → (∀ b o, s.heap.get? b = some o → g.get? b = some o) → Q (.ref s.heap.objs.size) { s with heap := g, toks := tk }) :
    wpAny (model P w) A (call (.type "set") [.ref l]) Q E s := by
  have zs : its.size = ns.length := by rw [← IntsAre.length ia, Array.length_toList]
  obtain ⟨_, _, mro_⟩ := F.called_set.mro
  have made_ := F.called_set.made
  have sub_ := F.called_set.sub
  refine wpAny_call (codeAny_of_tree (wpAny_pure ⟨Code.quiet_builtin _ (by decide +kernel), codeAny_builtin F.entry_type_call ?_⟩))
  rw [Around.under_plain (weight_type_call_type "set" [.ref l] []) rfl]
  have t1_ := F.called_set.notType
  have t2_ := F.called_set.canCreate
  have t3_ := F.typeCall_set_1 (.ref l)
  repeat (any_goals (first | assumption | wp_step))
  refine codeAny_mono (code_set_led1 (.ref l) (E := E) (Q₁ := fun v z => v = .ref s.heap.objs.size ∧ z = { s with heap := s.heap.push (SO_ w) }) ⟨rfl, rfl⟩) fun r z hr => ?_
  cases r with
  | error e => exact hr
  | ok fl =>
    cases fl with
    | ret v =>
      obtain ⟨rfl, rfl⟩ := hr
      have at0 : (s.heap.push (SO_ w)).get? s.heap.objs.size = some (SO_ w) := Heap.get?_push_size _ rfl
      have ty0 : Shared.TypeIs { s with heap := s.heap.push (SO_ w) } (.ref s.heap.objs.size) "set" := ⟨_, at0, rfl⟩
      have li_ := F.called_set.init.lookup
      have bi_ := F.called_set.init.bind (.ref s.heap.objs.size)
      repeat (any_goals (first | assumption | wp_step))
      refine codeAny_mono (codeAny_call_builtin (R := wants (fun r z => r = .none ∧ ∃ g tk c, z = { s with heap := g, toks := tk } ∧ SetR w g s.heap.objs.size (fun j => decide (j ∈ ns)) c ∧ c ≤ ns.length ∧
        ∀ b o, s.heap.get? b = some o → g.get? b = some o) E) F.called_set.init.plain F.entry_set_init (check_set_init_1 ty0 ?_)) fun r2 z2 hr2 => ?_
      · obtain ⟨⟨oc, od, odt, osl⟩, ho, hc, n0, hd⟩ := il
        simp only at hc hd
        subst hc
        subst hd
        have ho1 : (s.heap.push (SO_ w)).get? l = some { cls := .type "list", dict := od, data := .seq its n0, slots := osl } := Heap.get?_push_of_some _ ho
        have il1 : (s.heap.push (SO_ w)).IsList l its := ⟨_, ho1, rfl, n0, rfl⟩
        have b1_ := F.sub_list_set
        have b2_ := F.sub_list_frozenset
        have b3_ : (Value.type "list" == Value.type "dict") = false := by decide
        unfold Builtin.«set.__init__» noKeywords Builtin.Frozenset.updateFrom
        generalize hPI : pyIter = PI
        wp_walk
        subst hPI
        refine wpAny_pyIter_list il1 (wpAny_bind (wpAny_runValue ?_))
        have lt0 : l < s.heap.objs.size := Heap.lt_size ho
        have zp : (s.heap.push (SO_ w)).objs.size = s.heap.objs.size + 1 := Heap.size_push ..
        have ne1 : l ≠ (s.heap.push (SO_ w)).objs.size := by rw [zp]; exact Nat.ne_of_lt (Nat.lt_succ_of_lt lt0)
        have nin : s.heap.objs.size ∉ [(s.heap.push (SO_ w)).objs.size, l] := by
          rw [zp]
          simp only [List.mem_cons, List.not_mem_nil, or_false]
          exact not_or.mpr ⟨Nat.ne_of_lt (Nat.lt_succ_self _), Nat.ne_of_gt lt0⟩
        have vals : ∀ (i : Nat) (v : Value), its[i]? = some v → ∃ k t, ns[i]? = some k ∧ v = .int k t := fun i v hv => by
          have lt : i < ns.length := by rw [← zs]; exact (Array.getElem?_eq_some_iff.mp hv).1
          obtain ⟨t, e⟩ := IntsAre.int_at ia i v (by rw [Array.getElem?_toList]; exact hv)
          refine ⟨ns[i], t, List.getElem?_eq_getElem lt, ?_⟩
          rw [e, List.getD_eq_getElem?_getD, List.getElem?_eq_getElem lt]; rfl
        have nh3 : A.in1.in1.in1.handled = none := by simp [nh]
        refine set_update_ints ((Walks.list nh3 _ l ne1 its).toS) s.heap.objs.size nin ns zs fw vals (its.size - 0) 0 _ (by omega) (Nat.zero_le _) ⟨⟨_, Heap.get?_push_size _ rfl, rfl, rfl⟩, (il1.push _)⟩ ?S0 ?S1
        case S0 => exact ⟨0, Nat.le_refl 0, setR_new_at (Heap.get?_push_of_some _ at0)⟩
        case S1 =>
          intro z c mv hc hS
          obtain ⟨g, gs, dr, tk, os⟩ := z
          obtain rfl : gs = s.gens := mv.gens
          obtain rfl : dr = s.drawn := mv.drawn
          obtain rfl : os = s.os := mv.os
          rw [zs] at hc
          refine wpAny_pure (wpAny_pure ⟨rfl, g, tk, c, rfl, hS, hc, fun b o e => ?_⟩)
          have lb : b < s.heap.objs.size := Heap.lt_size e
          refine mv.heap b o ?_ (Heap.get?_push_of_some _ (Heap.get?_push_of_some _ e))
          rw [zp]
          simp only [List.mem_cons, List.not_mem_nil, or_false]
          exact not_or.mpr ⟨Nat.ne_of_lt lb, Nat.ne_of_lt (Nat.lt_succ_of_lt lb)⟩
      · cases r2 with
        | error e => exact hr2
        | ok fl2 =>
          cases fl2 with
          | ret u =>
            obtain ⟨rfl, g, tk, c, rfl, a1, a2, a3⟩ := hr2
            repeat (any_goals (first | assumption | wp_step))
            exact k _ _ _ a1 a2 a3
          | _ => exact hr2.elim
    | _ => exact hr.elim
end
end Rt
end
section
set_option linter.all false
set_option autoImplicit false
set_option Elab.async false
set_option maxRecDepth 100000
set_option maxHeartbeats 2000000
namespace Rt
open PySem PySem.Spec PyProof.Rows L2
/-- put into a list of ints that rises, unless it is there -/
def insU (i : Int) : List Int → List Int
  | [] => [i]
  | j :: js => if i < j then i :: j :: js else if i = j then j :: js else j :: insU i js
def usetI : List Int → List Int
  | [] => []
  | i :: is => insU i (usetI is)
theorem insU_mem (i k : Int) : ∀ l : List Int, k ∈ insU i l ↔ k = i ∨ k ∈ l
  | [] => by simp [insU]
  | j :: js => by
    unfold insU
    split
    · simp
    · split
      · rename_i e; subst e; simp
      · rw [List.mem_cons, List.mem_cons, insU_mem i k js]
        constructor
        · rintro (h | h | h)
          · exact .inr (.inl h)
          · exact .inl h
          · exact .inr (.inr h)
        · rintro (h | h | h)
          · exact .inr (.inl h)
          · exact .inl h
          · exact .inr (.inr h)
theorem insU_rise (i : Int) : ∀ l : List Int, l.Pairwise (· < ·) → (insU i l).Pairwise (· < ·)
  | [], _ => List.pairwise_singleton _ _
  | j :: js, h => by
    obtain ⟨h1, h2⟩ := List.pairwise_cons.mp h
    unfold insU
    split
    · rename_i lt
      refine List.pairwise_cons.mpr ⟨fun x hx => ?_, h⟩
      rcases List.mem_cons.mp hx with rfl | hx
      · exact lt
      · have := h1 x hx; omega
    · split
      · exact h
      · rename_i a b
        refine List.pairwise_cons.mpr ⟨fun x hx => ?_, insU_rise i js h2⟩
        rcases (insU_mem i x js).mp hx with rfl | hx
        · omega
        · exact h1 x hx
theorem uset_mem (k : Int) : ∀ l : List Int, k ∈ usetI l ↔ k ∈ l
  | [] => by simp [usetI]
  | i :: is => by rw [usetI, insU_mem, uset_mem k is, List.mem_cons]
theorem uset_rise : ∀ l : List Int, (usetI l).Pairwise (· < ·)
  | [] => .nil
  | i :: is => insU_rise i _ (uset_rise is)
theorem rise_uniq : ∀ {l m : List Int}, l.Pairwise (· < ·) → m.Pairwise (· < ·) → (∀ k, k ∈ l ↔ k ∈ m) → l = m
  | [], [], _, _, _ => rfl
  | [], y :: m, _, _, h => by have := (h y).mpr List.mem_cons_self; cases this
  | x :: l, [], _, _, h => by have := (h x).mp List.mem_cons_self; cases this
  | x :: l, y :: m, hl, hm, h => by
    obtain ⟨a1, a2⟩ := List.pairwise_cons.mp hl
    obtain ⟨b1, b2⟩ := List.pairwise_cons.mp hm
    have e : x = y := by
      rcases List.mem_cons.mp ((h x).mp List.mem_cons_self) with e | e
      · exact e
      · rcases List.mem_cons.mp ((h y).mpr List.mem_cons_self) with f | f
        · exact f.symm
        · have := b1 x e; have := a1 y f; omega
    subst e
    congr 1
    refine rise_uniq a2 b2 fun k => ⟨fun z => ?_, fun z => ?_⟩
    · rcases List.mem_cons.mp ((h k).mp (List.mem_cons_of_mem _ z)) with e | e
      · have := a1 k z; omega
      · exact e
    · rcases List.mem_cons.mp ((h k).mpr (List.mem_cons_of_mem _ z)) with e | e
      · have := b1 k z; omega
      · exact e
/-- sorted(set(x)) -/
def bSSet : List D → Option (D × Bool)
  | [.lst xs] => (match asInts xs with
    | some is => if is.length < 64 then some (.lst ((usetI is).map .int), true) else none
    | none => none)
  | _ => none
section
variable {fa ca : Nat → Addr} {X : Cx} {e : Expr} {da : Ex}
def isSet (w : World) (p : Addr) (ns : List Int) : Heap → Prop := fun h => ∃ c, c ≤ ns.length ∧ SetR w h p (fun j => decide (j ∈ ns)) c
def rMadeS (X : Cx) : List V → Hp → VK → Prop := fun vs H Q => ∃ (l : Addr) (ns : List Int), vs = [.ref l] ∧ SqL X.K H l (ns.map V.int) ∧ ns.length < 64 ∧ ∀ p, H p = none → Q (.ref p) (upd H p (.ext (isSet X.w p ns)))
theorem cr_made (hc : X.calm = true) : CallR X (.type "set") (rMadeS X) := by
  intro pins s σ H vs us Q I r h
  obtain ⟨l, ns, rfl, hs, few, q⟩ := h
  obtain ⟨its, rv, hl, _⟩ := I.list hs
  rw [Vals.ref1 r]
  refine call_set_lst ns (I.ok.hd hc) hl.isList rv.ints (by unfold scanBound; omega) fun g tk c R hcn kk => ?_
  have ob : ∃ o, g.get? s.heap.objs.size = some o := by
    obtain ⟨o, es, ep, t, ho, _⟩ := R
    exact ⟨o, ho⟩
  refine ⟨.ref _, upd H s.heap.objs.size (.ext (isSet X.w s.heap.objs.size ns)), I.laid (t' := tk) kk (Nat.le_refl _) ⟨⟨c, hcn, R⟩, ob, fun h1 h2 ⟨c, hc, R⟩ k => ⟨c, hc, R.at k⟩⟩, rfl, q _ (I.hok.fresh (Nat.le_refl _))⟩
def rSortS (X : Cx) : List V → Hp → VK → Prop := fun vs H Q => ∃ (p : Addr) (ns : List Int), vs = [.ref p] ∧ H p = some (.ext (isSet X.w p ns)) ∧ ns.length < 64 ∧ ∀ q, H q = none → Q (.ref q) (upd H q (.lst ((usetI ns).map V.int)))
theorem cr_sortS (hc : X.calm = true) : CallR X (.builtin "sorted") (rSortS X) := by
  intro pins s σ H vs us Q I r h
  obtain ⟨p, ns, rfl, hp, few, q⟩ := h
  rw [Vals.ref1 r]
  obtain ⟨⟨c, hcn, R⟩, _, _⟩ := I.hok p _ hp
  refine sorted_set R (I.ok.hd hc) (by omega) fun z b out n ms kk g1 o1 hz hb hi hr hm hn => ?_
  have em : ms = usetI ns := rise_uniq hr (uset_rise ns) fun k => by rw [hm k, uset_mem, decide_eq_true_eq]
  subst em
  have ll : ((usetI ns).map V.int).length ≤ sizeLine := by rw [List.length_map, hn, sizeLine_eq]; omega
  exact ⟨.ref b, upd H b (.lst ((usetI ns).map V.int)), I.call' (ch := []) o1 (Un.laid kk hz (I.hok.fresh hz)) (I.hok.laid kk hz ⟨ll, out.toList, n, vals_of_ints hi, hb⟩) (by rw [g1]; exact I.bare) (fun _ z => nomatch z), rfl, q b (I.hok.fresh hz)⟩
theorem snd_sset {p0 p1 p2 pos : Pos} (hc : X.calm = true) (g1 : Gl X "sorted") (m1 : X.mg "sorted" = none) (g2 : Gl X "set") (m2 : X.mg "set" = none) (hst : notStar e = true) (ha : Snd fa ca X e da) :
    Snd fa ca X (.Call (.Name "sorted" p0) [.Call (.Name "set" p1) [e] [] p2] [] pos) (xBi bSSet [da]) := fun W tk N H σ E Q s p => by
  have s1 : notStar (.Call (.Name "set" p1) [e] [] p2) = true := rfl
  refine of_pe (pe_callB (cr_sortS hc) g1 m1 (by first | boot_by_name | decide +kernel) (pa_cons (pe_callTy (cr_made hc) g2 m2 PyProof.Rows.boot_set (paA (es := [e])) (by decide) (by decide) (star_cons hst) (noStar_any (es := []) rfl)) pa_nil (star_cons s1)) (by decide) (by decide) (star_cons s1) (noStar_any (es := []) rfl)) ?_
  unfold xBi at p
  refine (sndA_cons hst ha sndA_nil).bd tk s (Sub.refl _) p fun rs vs H1 e1 g1 r1 p1 => ?_
  cases q : bSSet (dL rs) with
  | none => simp only [q] at p1; exact p1.elim
  | some z =>
    obtain ⟨d, fr⟩ := z
    simp only [q] at p1
    have kd := rrl_kid s g1 _ r1 fun i h => h
    generalize dL rs = ds at *
    unfold bSSet at q
    split at q
    case h_2 => cases q
    rename_i xs
    split at q
    case h_2 => cases q
    rename_i is ei
    split at q
    case isFalse => cases q
    rename_i few
    cases q
    obtain ⟨v, rfl, a, ws, rfl, h1, h2⟩ := kid1 kd
    obtain ⟨_, e3⟩ := h2.asInts ei
    subst e3
    refine ⟨a, is, rfl, SqL.of h1, few, fun b hb => ?_⟩
    show rSortS X [.ref b] _ _
    refine ⟨b, is, rfl, upd_same, few, fun c hcn => ?_⟩
    have ne : c ≠ b := fun z => by rw [z, upd_same] at hcn; cases hcn
    have h1c : H1 c = none := by rw [upd_ne ne] at hcn; exact hcn
    refine p1 _ _ (g1.trans ((sub_upd hb).trans (sub_upd hcn))) (NewR.rr s g1 ⟨(sub_upd hb).trans (sub_upd hcn), c, rfl, h1c, _, upd_same, RepL.of_ints _⟩)
end
end Rt
end
section
set_option linter.all false
set_option autoImplicit false
set_option Elab.async false
set_option maxRecDepth 100000
set_option maxHeartbeats 3200000
namespace Rt
open PySem PySem.Spec PyProof.Rows L2
/-! ## min(x), max(x), x a list of data that are alike -/
/-- what was there stays -/
def Kept (h0 h : Heap) : Prop := ∀ b o, h0.get? b = some o → h.get? b = some o
/-- two items compared, in any heap that keeps the first one -/
def CmpK (pg : Program) (w : World) (A : Around) (h0 : Heap) (op : CmpOp) (Fi : Nat → Value → Prop) (bt : Nat → Nat → Bool) : Prop :=
  ∀ i j u v (st : Shared) (Q : Value → Shared → Prop) (E : Value → Shared → Prop), Kept h0 st.heap → Fi i u → Fi j v → Q (.bool (bt i j)) st → wpAny (model pg w) A (richCompare op u v) Q E st
section
variable {pg : Program} {w : World} {A : Around} {h0 : Heap} {R : Result → Shared → Prop} {it : Addr} {fp wr : List Addr} {n : Nat} {Fi : Nat → Value → Prop} {St : Nat → Heap → Prop}
theorem min_go (V : Walks pg w A.in1 it fp wr n Fi St) (bt : Nat → Nat → Bool) (cmp : CmpK pg w A.in1 h0 .Lt Fi bt) (best : Addr) (nf : best ∉ fp) (nb : h0.get? best = none) (nw : ∀ b ∈ wr, h0.get? b = none) :
    ∀ (k j : Nat) (st : Shared) (u : Value) (c : Nat), n - (j + 1) = k → j + 1 ≤ n → St (j + 1) st.heap → Kept h0 st.heap → Fi (argBest bt j) u →
    st.heap.get? best = some { cls := .type "list", dict := none, data := .seq #[u, u] c, slots := #[] } →
    (∀ v g tk, Fi (argBest bt (n - 1)) v → (∀ b o, b ∉ wr → b ≠ best → st.heap.get? b = some o → g.get? b = some o) → R (.ok (.ret v)) { st with heap := g, toks := tk }) →
    codeAny (model pg w) A (.builtin "min.loop" ⟨[.ref it, .none, .ref best], []⟩) R st := by
  have nbw : best ∉ wr := fun q => nf (V.sub _ q)
  have nm : (toString "min" ++ toString ".loop" : String) = "min.loop" := by decide
  have grow : ∀ {g g' : Heap}, Kept h0 g → (∀ b o, b ∉ wr → b ≠ best → g.get? b = some o → g'.get? b = some o) → Kept h0 g' := fun kg k b o e =>
    k b o (fun m => by rw [nw b m] at e; cases e) (fun z => by rw [z, nb] at e; cases e) (kg b o e)
  intro k
  induction k with
  | zero =>
    intro j st u c hk hj at_ kp fu hb fin
    have en : j + 1 = n := by omega
    refine codeAny_builtin F.entry_min_loop ?_
    rw [Around.under_plainId F.plain_min_loop _]
    show wpAny _ A.in1 (seqItems? (.ref best) >>= _) _ _ st
    refine wpAny_bind (wpAny_seqItems hb rfl ?_)
    show wpAny _ A.in1 (tryCatch (pyNext (.ref it)) _ >>= _) _ _ st
    refine wpAny_bind (wpAny_tryCatch (V.done st _ _ (en ▸ at_) fun g tk kg => ?_))
    have hb' := kg best _ nbw hb
    show wpAny _ A.in1 (updateSeq best (fun _ => #[]) >>= _) _ _ _
    refine wpAny_bind (wpAny_updateSeq hb' rfl (wpAny_bind (wpAny_letGo (wpAny_pure (fin u _ tk (by rw [← en]; exact fu) fun b o b1 b2 e => ?_)))))
    exact (Heap.get?_update_other _ _ (Ne.symm b2)).trans (kg b o b1 e)
  | succ k ih =>
    intro j st u c hk hj at_ kp fu hb fin
    have lt : j + 1 < n := by omega
    refine codeAny_builtin F.entry_min_loop ?_
    rw [Around.under_plainId F.plain_min_loop _]
    show wpAny _ A.in1 (seqItems? (.ref best) >>= _) _ _ st
    refine wpAny_bind (wpAny_seqItems hb rfl ?_)
    show wpAny _ A.in1 (tryCatch (pyNext (.ref it)) _ >>= _) _ _ st
    refine wpAny_bind (wpAny_tryCatch (V.item (j + 1) st _ _ lt at_ fun v g tk fv at2 kg => ?_))
    have hb' := kg best _ nbw hb
    have kp2 : Kept h0 g := grow kp fun b o b1 _ e => kg b o b1 e
    show wpAny _ A.in1 (tryCatch (holding [v, v] (richCompare .Lt v u >>= _)) _ >>= _) _ _ _
    refine wpAny_bind (wpAny_tryCatch (wpAny_holding (wpAny_bind (cmp (j + 1) (argBest bt j) v u _ _ _ kp2 fv fu ?_))))
    refine wpAny_bind (wpAny_holding (wpAny_truthy_bool (wpAny_bind (wpAny_letGo (wpAny_pure ?_)))))
    cases cb : bt (j + 1) (argBest bt j) with
    | true =>
      simp only [if_true]
      refine wpAny_bind (wpAny_updateSeq hb' rfl (wpAny_bind (wpAny_letGo ?_)))
      rw [nm]
      refine wpAny_pure ⟨plainId_quiet F.plain_min_loop _, ih (j + 1) _ v _ (by omega) lt (V.frame _ _ _ at2 fun b bf o e => ?_) (grow kp2 fun b o _ b2 e => (Heap.get?_update_other _ _ (Ne.symm b2)).trans e) (by simp only [argBest, cb, if_true]; exact fv) (Heap.get?_update_self _ hb' rfl) fun v' g' tk' fv' kg' => ?_⟩
      · exact (Heap.get?_update_other _ _ (fun z : best = b => nf (by rw [z]; exact bf))).trans e
      · exact fin v' g' tk' fv' fun b o b1 b2 e => kg' b o b1 b2 ((Heap.get?_update_other _ _ (Ne.symm b2)).trans (kg b o b1 e))
    | false =>
      simp only [Bool.false_eq_true, if_false]
      refine wpAny_bind (wpAny_letGo ?_)
      rw [nm]
      refine wpAny_pure ⟨plainId_quiet F.plain_min_loop _, ih (j + 1) _ u c (by omega) lt at2 kp2 (by simp only [argBest, cb, Bool.false_eq_true, if_false]; exact fu) hb' fun v' g' tk' fv' kg' => ?_⟩
      exact fin v' g' tk' fv' fun b o b1 b2 e => kg' b o b1 b2 (kg b o b1 e)
theorem min_first (V : Walks pg w A.in1 it fp wr n Fi St) (bt : Nat → Nat → Bool) (cmp : CmpK pg w A.in1 h0 .Lt Fi bt) (best : Addr) (nf : best ∉ fp) (nb : h0.get? best = none) (nw : ∀ b ∈ wr, h0.get? b = none) (n0 : 0 < n) {st : Shared} {c : Nat} (at_ : St 0 st.heap) (kp : Kept h0 st.heap)
    (hb : st.heap.get? best = some { cls := .type "list", dict := none, data := .seq #[] c, slots := #[] })
    (fin : ∀ v g tk, Fi (argBest bt (n - 1)) v → (∀ b o, b ∉ wr → b ≠ best → st.heap.get? b = some o → g.get? b = some o) → R (.ok (.ret v)) { st with heap := g, toks := tk }) :
    codeAny (model pg w) A (.builtin "min.loop" ⟨[.ref it, .none, .ref best], []⟩) R st := by
  have nbw : best ∉ wr := fun q => nf (V.sub _ q)
  have nm : (toString "min" ++ toString ".loop" : String) = "min.loop" := by decide
  refine codeAny_builtin F.entry_min_loop ?_
  rw [Around.under_plainId F.plain_min_loop _]
  show wpAny _ A.in1 (seqItems? (.ref best) >>= _) _ _ st
  refine wpAny_bind (wpAny_seqItems hb rfl ?_)
  show wpAny _ A.in1 (tryCatch (pyNext (.ref it)) _ >>= _) _ _ st
  refine wpAny_bind (wpAny_tryCatch (V.item 0 st _ _ n0 at_ fun v g tk fv at2 kg => ?_))
  have hb' := kg best _ nbw hb
  show wpAny _ A.in1 (updateSeq best (fun _ => #[v, v]) >>= _) _ _ _
  refine wpAny_bind (wpAny_updateSeq hb' rfl ?_)
  rw [nm]
  refine wpAny_pure ⟨plainId_quiet F.plain_min_loop _, min_go V bt cmp best nf nb nw _ 0 _ v _ rfl n0 (V.frame _ _ _ at2 fun b bf o e => ?_) (fun b o e => (Heap.get?_update_other _ _ (fun z : best = b => by rw [← z, nb] at e; cases e)).trans (kg b o (fun m => by rw [nw b m] at e; cases e) (kp b o e))) fv (Heap.get?_update_self _ hb' rfl) fun v' g' tk' fv' kg' => ?_⟩
  · exact (Heap.get?_update_other _ _ (fun z : best = b => nf (by rw [z]; exact bf))).trans e
  · exact fin v' g' tk' fv' fun b o b1 b2 e => kg' b o b1 b2 ((Heap.get?_update_other _ _ (Ne.symm b2)).trans (kg b o b1 e))
end
section
variable {pg : Program} {w : World} {A : Around} {E : Value → Shared → Prop} {st : Shared}
theorem call_min_data {l : Addr} {its : Array Value} {bt : Nat → Nat → Bool} {Q : Value → Shared → Prop} (nh : A.handled = none) (il : st.heap.IsList l its) (n0 : 0 < its.size) (cmp : CmpK pg w A.in1 st.heap .Lt (fun i v => its[i]? = some v) bt)
    (fin : ∀ v g tk, its[argBest bt (its.size - 1)]? = some v → Kept st.heap g → Q v { st with heap := g, toks := tk }) : wpAny (model pg w) A (call (.builtin "min") [.ref l]) Q E st := by
  have nm : (toString "min" ++ toString ".loop" : String) = "min.loop" := by decide
  refine call_function_tree F.kind_min F.plain_min F.entry_min (F.args_min1 _) ?_
  show wpAny _ A.in1 (Builtin.Builtins.bindParams "min" ["key", "default"] 0 ⟨[], []⟩ >>= _) _ _ st
  refine wpAny_bind (wpAny_of_eq (show Builtin.Builtins.bindParams "min" ["key", "default"] 0 ⟨[], []⟩ = pure [none, none] from rfl) (wpAny_bind (wpAny_pure ?_)))
  have lt0 : l < st.heap.objs.size := by
    obtain ⟨o, ho, _⟩ := il
    exact Heap.lt_size ho
  refine wpAny_bind (wpAny_pyIter_list il ?_)
  refine wpAny_bind (wpAny_newObj_type ?_)
  rw [nm]
  have zp : ∀ o : Obj, (st.heap.push o).objs.size = st.heap.objs.size + 1 := fun o => Heap.size_push ..
  have newer : ∀ b, st.heap.objs.size ≤ b → st.heap.get? b = none := fun b le => by
    cases q : st.heap.get? b with
    | none => rfl
    | some o => exact absurd (Heap.lt_size q) (Nat.not_lt.mpr le)
  have nl : l ≠ st.heap.objs.size := Nat.ne_of_lt lt0
  refine wpAny_pure ⟨plainId_quiet F.plain_min_loop _, min_first (h0 := st.heap) (Walks.list (A := A.in1) nh st.heap.objs.size l nl its) bt cmp _ (fun m => ?_) (newer _ (by rw [zp]; exact Nat.le_succ _)) (fun b m => newer b (by rw [List.mem_singleton.mp m]; exact Nat.le_refl _)) n0 ⟨⟨_, Heap.get?_push_of_some _ (Heap.get?_push_size _ rfl), rfl, rfl⟩, (il.push _).push _⟩ (fun b o e => Heap.get?_push_of_some _ (Heap.get?_push_of_some _ e)) (Heap.get?_push_size _ rfl) fun v g tk fv kg => ?_⟩
  · rw [zp] at m
    rcases List.mem_cons.mp m with z | m
    · exact absurd z (Nat.succ_ne_self _)
    · rw [← List.mem_singleton.mp m] at lt0
      exact absurd lt0 (Nat.not_lt.mpr (Nat.le_succ _))
  · refine fin v g tk fv fun b o e => kg b o (fun m => ?_) (fun z => ?_) (Heap.get?_push_of_some _ (Heap.get?_push_of_some _ e))
    · rw [List.mem_singleton.mp m] at e
      rw [newer _ (Nat.le_refl _)] at e; cases e
    · rw [z, newer _ (by rw [zp]; exact Nat.le_succ _)] at e; cases e
end
section
variable {pg : Program} {w : World} {A : Around} {h0 : Heap} {R : Result → Shared → Prop} {it : Addr} {fp wr : List Addr} {n : Nat} {Fi : Nat → Value → Prop} {St : Nat → Heap → Prop}
theorem max_go (V : Walks pg w A.in1 it fp wr n Fi St) (bt : Nat → Nat → Bool) (cmp : CmpK pg w A.in1 h0 .Gt Fi bt) (best : Addr) (nf : best ∉ fp) (nb : h0.get? best = none) (nw : ∀ b ∈ wr, h0.get? b = none) :
    ∀ (k j : Nat) (st : Shared) (u : Value) (c : Nat), n - (j + 1) = k → j + 1 ≤ n → St (j + 1) st.heap → Kept h0 st.heap → Fi (argBest bt j) u →
    st.heap.get? best = some { cls := .type "list", dict := none, data := .seq #[u, u] c, slots := #[] } →
    (∀ v g tk, Fi (argBest bt (n - 1)) v → (∀ b o, b ∉ wr → b ≠ best → st.heap.get? b = some o → g.get? b = some o) → R (.ok (.ret v)) { st with heap := g, toks := tk }) →
    codeAny (model pg w) A (.builtin "max.loop" ⟨[.ref it, .none, .ref best], []⟩) R st := by
  have nbw : best ∉ wr := fun q => nf (V.sub _ q)
  have nm : (toString "max" ++ toString ".loop" : String) = "max.loop" := by decide
  have grow : ∀ {g g' : Heap}, Kept h0 g → (∀ b o, b ∉ wr → b ≠ best → g.get? b = some o → g'.get? b = some o) → Kept h0 g' := fun kg k b o e =>
    k b o (fun m => by rw [nw b m] at e; cases e) (fun z => by rw [z, nb] at e; cases e) (kg b o e)
  intro k
  induction k with
  | zero =>
    intro j st u c hk hj at_ kp fu hb fin
    have en : j + 1 = n := by omega
    refine codeAny_builtin F.entry_max_loop ?_
    rw [Around.under_plainId F.plain_max_loop _]
    show wpAny _ A.in1 (seqItems? (.ref best) >>= _) _ _ st
    refine wpAny_bind (wpAny_seqItems hb rfl ?_)
    show wpAny _ A.in1 (tryCatch (pyNext (.ref it)) _ >>= _) _ _ st
    refine wpAny_bind (wpAny_tryCatch (V.done st _ _ (en ▸ at_) fun g tk kg => ?_))
    have hb' := kg best _ nbw hb
    show wpAny _ A.in1 (updateSeq best (fun _ => #[]) >>= _) _ _ _
    refine wpAny_bind (wpAny_updateSeq hb' rfl (wpAny_bind (wpAny_letGo (wpAny_pure (fin u _ tk (by rw [← en]; exact fu) fun b o b1 b2 e => ?_)))))
    exact (Heap.get?_update_other _ _ (Ne.symm b2)).trans (kg b o b1 e)
  | succ k ih =>
    intro j st u c hk hj at_ kp fu hb fin
    have lt : j + 1 < n := by omega
    refine codeAny_builtin F.entry_max_loop ?_
    rw [Around.under_plainId F.plain_max_loop _]
    show wpAny _ A.in1 (seqItems? (.ref best) >>= _) _ _ st
    refine wpAny_bind (wpAny_seqItems hb rfl ?_)
    show wpAny _ A.in1 (tryCatch (pyNext (.ref it)) _ >>= _) _ _ st
    refine wpAny_bind (wpAny_tryCatch (V.item (j + 1) st _ _ lt at_ fun v g tk fv at2 kg => ?_))
    have hb' := kg best _ nbw hb
    have kp2 : Kept h0 g := grow kp fun b o b1 _ e => kg b o b1 e
    show wpAny _ A.in1 (tryCatch (holding [v, v] (richCompare .Gt v u >>= _)) _ >>= _) _ _ _
    refine wpAny_bind (wpAny_tryCatch (wpAny_holding (wpAny_bind (cmp (j + 1) (argBest bt j) v u _ _ _ kp2 fv fu ?_))))
    refine wpAny_bind (wpAny_holding (wpAny_truthy_bool (wpAny_bind (wpAny_letGo (wpAny_pure ?_)))))
    cases cb : bt (j + 1) (argBest bt j) with
    | true =>
      simp only [if_true]
      refine wpAny_bind (wpAny_updateSeq hb' rfl (wpAny_bind (wpAny_letGo ?_)))
      rw [nm]
      refine wpAny_pure ⟨plainId_quiet F.plain_max_loop _, ih (j + 1) _ v _ (by omega) lt (V.frame _ _ _ at2 fun b bf o e => ?_) (grow kp2 fun b o _ b2 e => (Heap.get?_update_other _ _ (Ne.symm b2)).trans e) (by simp only [argBest, cb, if_true]; exact fv) (Heap.get?_update_self _ hb' rfl) fun v' g' tk' fv' kg' => ?_⟩
      · exact (Heap.get?_update_other _ _ (fun z : best = b => nf (by rw [z]; exact bf))).trans e
      · exact fin v' g' tk' fv' fun b o b1 b2 e => kg' b o b1 b2 ((Heap.get?_update_other _ _ (Ne.symm b2)).trans (kg b o b1 e))
    | false =>
      simp only [Bool.false_eq_true, if_false]
      refine wpAny_bind (wpAny_letGo ?_)
      rw [nm]
      refine wpAny_pure ⟨plainId_quiet F.plain_max_loop _, ih (j + 1) _ u c (by omega) lt at2 kp2 (by simp only [argBest, cb, Bool.false_eq_true, if_false]; exact fu) hb' fun v' g' tk' fv' kg' => ?_⟩
      exact fin v' g' tk' fv' fun b o b1 b2 e => kg' b o b1 b2 (kg b o b1 e)
theorem max_first (V : Walks pg w A.in1 it fp wr n Fi St) (bt : Nat → Nat → Bool) (cmp : CmpK pg w A.in1 h0 .Gt Fi bt) (best : Addr) (nf : best ∉ fp) (nb : h0.get? best = none) (nw : ∀ b ∈ wr, h0.get? b = none) (n0 : 0 < n) {st : Shared} {c : Nat} (at_ : St 0 st.heap) (kp : Kept h0 st.heap)
    (hb : st.heap.get? best = some { cls := .type "list", dict := none, data := .seq #[] c, slots := #[] })
    (fin : ∀ v g tk, Fi (argBest bt (n - 1)) v → (∀ b o, b ∉ wr → b ≠ best → st.heap.get? b = some o → g.get? b = some o) → R (.ok (.ret v)) { st with heap := g, toks := tk }) :
    codeAny (model pg w) A (.builtin "max.loop" ⟨[.ref it, .none, .ref best], []⟩) R st := by
  have nbw : best ∉ wr := fun q => nf (V.sub _ q)
  have nm : (toString "max" ++ toString ".loop" : String) = "max.loop" := by decide
  refine codeAny_builtin F.entry_max_loop ?_
  rw [Around.under_plainId F.plain_max_loop _]
  show wpAny _ A.in1 (seqItems? (.ref best) >>= _) _ _ st
  refine wpAny_bind (wpAny_seqItems hb rfl ?_)
  show wpAny _ A.in1 (tryCatch (pyNext (.ref it)) _ >>= _) _ _ st
  refine wpAny_bind (wpAny_tryCatch (V.item 0 st _ _ n0 at_ fun v g tk fv at2 kg => ?_))
  have hb' := kg best _ nbw hb
  show wpAny _ A.in1 (updateSeq best (fun _ => #[v, v]) >>= _) _ _ _
  refine wpAny_bind (wpAny_updateSeq hb' rfl ?_)
  rw [nm]
  refine wpAny_pure ⟨plainId_quiet F.plain_max_loop _, max_go V bt cmp best nf nb nw _ 0 _ v _ rfl n0 (V.frame _ _ _ at2 fun b bf o e => ?_) (fun b o e => (Heap.get?_update_other _ _ (fun z : best = b => by rw [← z, nb] at e; cases e)).trans (kg b o (fun m => by rw [nw b m] at e; cases e) (kp b o e))) fv (Heap.get?_update_self _ hb' rfl) fun v' g' tk' fv' kg' => ?_⟩
  · exact (Heap.get?_update_other _ _ (fun z : best = b => nf (by rw [z]; exact bf))).trans e
  · exact fin v' g' tk' fv' fun b o b1 b2 e => kg' b o b1 b2 ((Heap.get?_update_other _ _ (Ne.symm b2)).trans (kg b o b1 e))
end
section
variable {pg : Program} {w : World} {A : Around} {E : Value → Shared → Prop} {st : Shared}
theorem call_max_data {l : Addr} {its : Array Value} {bt : Nat → Nat → Bool} {Q : Value → Shared → Prop} (nh : A.handled = none) (il : st.heap.IsList l its) (n0 : 0 < its.size) (cmp : CmpK pg w A.in1 st.heap .Gt (fun i v => its[i]? = some v) bt)
    (fin : ∀ v g tk, its[argBest bt (its.size - 1)]? = some v → Kept st.heap g → Q v { st with heap := g, toks := tk }) : wpAny (model pg w) A (call (.builtin "max") [.ref l]) Q E st := by
  have nm : (toString "max" ++ toString ".loop" : String) = "max.loop" := by decide
  refine call_function_tree F.kind_max F.plain_max F.entry_max (F.args_max1 _) ?_
  show wpAny _ A.in1 (Builtin.Builtins.bindParams "max" ["key", "default"] 0 ⟨[], []⟩ >>= _) _ _ st
  refine wpAny_bind (wpAny_of_eq (show Builtin.Builtins.bindParams "max" ["key", "default"] 0 ⟨[], []⟩ = pure [none, none] from rfl) (wpAny_bind (wpAny_pure ?_)))
  have lt0 : l < st.heap.objs.size := by
    obtain ⟨o, ho, _⟩ := il
    exact Heap.lt_size ho
  refine wpAny_bind (wpAny_pyIter_list il ?_)
  refine wpAny_bind (wpAny_newObj_type ?_)
  rw [nm]
  have zp : ∀ o : Obj, (st.heap.push o).objs.size = st.heap.objs.size + 1 := fun o => Heap.size_push ..
  have newer : ∀ b, st.heap.objs.size ≤ b → st.heap.get? b = none := fun b le => by
    cases q : st.heap.get? b with
    | none => rfl
    | some o => exact absurd (Heap.lt_size q) (Nat.not_lt.mpr le)
  have nl : l ≠ st.heap.objs.size := Nat.ne_of_lt lt0
  refine wpAny_pure ⟨plainId_quiet F.plain_max_loop _, max_first (h0 := st.heap) (Walks.list (A := A.in1) nh st.heap.objs.size l nl its) bt cmp _ (fun m => ?_) (newer _ (by rw [zp]; exact Nat.le_succ _)) (fun b m => newer b (by rw [List.mem_singleton.mp m]; exact Nat.le_refl _)) n0 ⟨⟨_, Heap.get?_push_of_some _ (Heap.get?_push_size _ rfl), rfl, rfl⟩, (il.push _).push _⟩ (fun b o e => Heap.get?_push_of_some _ (Heap.get?_push_of_some _ e)) (Heap.get?_push_size _ rfl) fun v g tk fv kg => ?_⟩
  · rw [zp] at m
    rcases List.mem_cons.mp m with z | m
    · exact absurd z (Nat.succ_ne_self _)
    · rw [← List.mem_singleton.mp m] at lt0
      exact absurd lt0 (Nat.not_lt.mpr (Nat.le_succ _))
  · refine fin v g tk fv fun b o e => kg b o (fun m => ?_) (fun z => ?_) (Heap.get?_push_of_some _ (Heap.get?_push_of_some _ e))
    · rw [List.mem_singleton.mp m] at e
      rw [newer _ (Nat.le_refl _)] at e; cases e
    · rw [z, newer _ (by rw [zp]; exact Nat.le_succ _)] at e; cases e
end
section
variable {fa : Nat → Addr} {X : Cx}
theorem each_at {β : Type} {R : Value → β → Prop} : ∀ {vs : List Value} {bs : List β}, PySem.W.EachIs R vs bs → ∀ {i : Nat} {v : Value}, vs[i]? = some v → ∃ b, bs[i]? = some b ∧ R v b
  | _, _, .nil, _, _, h => by simp at h
  | _, _, .cons h1 t, 0, v, h => by
    simp only [List.getElem?_cons_zero, Option.some.injEq] at h
    subst h
    exact ⟨_, rfl, h1⟩
  | _, _, .cons h1 t, i + 1, v, h => each_at t (by simpa using h)
theorem vals_back : ∀ {ws : List V} {us : List Value}, Vals ws us → ∀ {i : Nat} {u : Value}, us[i]? = some u → ∃ w, ws[i]? = some w ∧ RelV w u
  | _, _, .nil, _, _, h => by simp at h
  | _, _, .cons h1 t, 0, v, h => by
    simp only [List.getElem?_cons_zero, Option.some.injEq] at h
    subst h
    exact ⟨_, rfl, h1⟩
  | _, _, .cons h1 t, i + 1, v, h => vals_back t (by simpa using h)
theorem RepL.back {K : PySem.W.Frag} {Z : Hp} {xs : List D} {ws : List V} (h : RepL fa K Z xs ws) {i : Nat} {w : V} (e : ws[i]? = some w) : ∃ d, xs[i]? = some d ∧ Rep fa K Z d w := by
  have lt : i < xs.length := by rw [h.length]; exact (List.getElem?_eq_some_iff.mp e).1
  obtain ⟨v, q1, q2⟩ := h.get (List.getElem?_eq_getElem lt)
  rw [e] at q1
  cases q1
  exact ⟨_, List.getElem?_eq_getElem lt, q2⟩
theorem depth_le : ∀ (l : List PyData) (d : PyData), d ∈ l → d.depth ≤ PyData.depthAll l
  | [], _, h => by cases h
  | y :: l, d, h => by
    simp only [PyData.depthAll]
    rcases List.mem_cons.mp h with rfl | h
    · omega
    · have := depth_le l d h; omega
theorem data_reads {Z H : Hp} {a : Addr} {xs : List D} {ws : List V} {its : List Value} {pins : List (Addr × Obj)} {σ : L2.St} {s : Shared} (I : Inv X pins σ H s) (sz : Sub Z H) (h1 : H a = some (.lst ws)) (h2 : RepL fa X.K Z xs ws) (ok : okSort xs = true) (vv : Vals ws its) :
    (∀ i v, its[i]? = some v → ∃ as, Reads s.heap v (xs.getD i .non).py as) ∧ (∀ i j, i < xs.length → j < xs.length → PySem.W.alike (xs.getD i .non).py (xs.getD j .non).py = true) ∧ (∀ i, i < xs.length → (xs.getD i .non).py ≠ .none) ∧ ∀ i, i < xs.length → (xs.getD i .non).py.depth ≤ 50 := by
  simp only [okSort, Bool.and_eq_true, Bool.or_eq_true, decide_eq_true_eq] at ok
  obtain ⟨o1, o2, o3, o4⟩ := ok
  have hH : RepL fa X.K H xs ws := RepL.sub sz _ _ h2
  have dp := RepL.dp xs ws hH o1
  have lw : ws.length = xs.length := (h2.length).symm
  obtain ⟨as, ra⟩ := Dp.readsAll I _ _ _ dp vv
  have e0 : (ws.zip xs).map (fun b => b.2.py) = D.pyL xs := by
    rw [pyL_map, ← zip_snd lw, List.map_map, zip_snd lw]
    rfl
  have er := PySem.W.readsAll_each (h := s.heap) (fun b : V × D => b.2.py) (vs := its) (bs := ws.zip xs) (by rw [e0]; exact ra)
  have gd : ∀ i (h : i < xs.length), xs.getD i .non = xs[i] := fun i h => by rw [List.getD_eq_getElem?_getD, List.getElem?_eq_getElem h]; rfl
  refine ⟨fun i v e => ?_, fun i j hi hj => ?_, fun i hi => ?_, fun i hi => ?_⟩
  · obtain ⟨b, hb, as, r⟩ := each_at er e
    have e2 : ((ws.zip xs).map (·.2))[i]? = some b.2 := by rw [List.getElem?_map, hb]; rfl
    rw [zip_snd lw] at e2
    rw [List.getD_eq_getElem?_getD, e2]
    exact ⟨as, r⟩
  · rw [gd i hi, gd j hj]
    exact List.all_eq_true.mp (List.all_eq_true.mp o3 _ (List.getElem_mem hi)) _ (List.getElem_mem hj)
  · rw [gd i hi]
    rcases o4 with o4 | o4
    · have t := List.all_eq_true.mp o4 _ (List.getElem_mem hi)
      intro e
      rw [e] at t
      cases t
    · have t := List.all_eq_true.mp o4 _ (List.getElem_mem hi)
      intro e
      rw [e] at t
      cases t
  · rw [gd i hi]
    have m : (xs[i]).py ∈ D.pyL xs := by rw [pyL_map]; exact List.mem_map.mpr ⟨_, List.getElem_mem hi, rfl⟩
    have := depth_le _ _ m
    omega
theorem bi_min {kk : Nat} (hr : Room kk X.A) (hc : X.calm = true) : BiS fa X (.builtin "min") bMin := fun Z H vs ds r fr Q sz kd q k pins s σ us I rv => by
  unfold bMin at q
  split at q
  · cases q
    obtain ⟨v, v', rfl, k1, k2⟩ := kid2 kd
    have e := k1.int; subst e
    have e := k2.int; subst e
    refine call_min2 hc pins s σ H _ us Q I rv ⟨_, _, rfl, ?_⟩
    rename_i i j
    have e : (if j < i then j else i) = min i j := by split <;> omega
    rw [e]; exact k _ _ newR_int
  · rename_i xs
    obtain ⟨v, rfl, a, ws, rfl, h1, h2⟩ := kid1 kd
    cases e1 : asInts xs with
    | some is =>
      simp only [e1] at q
      obtain ⟨i, e2, q⟩ := Option.map_eq_some_iff.mp q
      cases q
      obtain ⟨_, e3⟩ := h2.asInts e1
      subst e3
      obtain ⟨m1, m2⟩ := least_spec e2
      refine cr_min hc pins s σ H _ us Q I rv ⟨a, is, rfl, SqL.of h1, List.length_pos_of_mem m1, fun m hm hle => ?_⟩
      have e : m = i := by
        have := m2 m hm
        have := hle i m1
        omega
      rw [e]; exact k _ _ newR_int
    | none =>
      simp only [e1] at q
      split at q
      case isFalse => cases q
      rename_i ok
      obtain ⟨d, e2, q⟩ := Option.map_eq_some_iff.mp q
      cases q
      obtain ⟨its, vv, hl, hz⟩ := I.list (SqL.of h1)
      have lw : ws.length = xs.length := (h2.length).symm
      have lv := vv.length
      obtain ⟨u, rfl, ru⟩ := rv.one
      obtain rfl : u = Value.ref a := ru
      obtain ⟨rd, al, nn, dp⟩ := data_reads I sz h1 h2 ok vv
      have n0 : 0 < xs.length := by
        unfold bestAt at e2
        have := (List.getElem?_eq_some_iff.mp e2).1
        omega
      have hu := hr.units
      refine call_min_data (I.ok.hd hc) hl.isList (by simp; omega) (bt := fun i j => ltD (xs.getD i .non) (xs.getD j .non)) (fun i j u v st Q E kp fu fv hq => ?_) fun v g tk hv kp => ?_
      · have fu' : its[i]? = some u := by simpa using fu
        have fv' : its[j]? = some v := by simpa using fv
        obtain ⟨as, r1⟩ := rd i u fu'
        obtain ⟨bs, r2⟩ := rd j v fv'
        have li : i < xs.length := by have := (List.getElem?_eq_some_iff.mp fu').1; omega
        have lj : j < xs.length := by have := (List.getElem?_eq_some_iff.mp fv').1; omega
        exact PySem.W.rcLt_alike _ _ _ _ _ _ _ _ (PyProof.Rows.Reads.keeps kp r1) (PyProof.Rows.Reads.keeps kp r2) (al i j li lj) (nn i li) (by
          have := dp i li
          show X.A.units + 1 + _ < cLine
          omega) _ _ _ _ hq
      · have hv' : its[argBest (fun i j => ltD (xs.getD i .non) (xs.getD j .non)) (xs.length - 1)]? = some v := by
          have e : its.toArray.size = xs.length := by simp; omega
          rw [e] at hv
          simpa using hv
        obtain ⟨w, hw, rw_⟩ := vals_back vv hv'
        obtain ⟨d', e3, rp⟩ := h2.back hw
        have ed : d' = r := by
          have e4 : xs[argBest (fun i j => ltD (xs.getD i .non) (xs.getD j .non)) (xs.length - 1)]? = some r := e2
          rw [e3] at e4
          exact Option.some.inj e4
        subst ed
        exact ⟨w, H, I.kept kp, rw_, k _ _ (NewR.old rp sz)⟩
  · cases q
theorem bi_max {kk : Nat} (hr : Room kk X.A) (hc : X.calm = true) : BiS fa X (.builtin "max") bMax := fun Z H vs ds r fr Q sz kd q k pins s σ us I rv => by
  unfold bMax at q
  split at q
  · cases q
    obtain ⟨v, v', rfl, k1, k2⟩ := kid2 kd
    have e := k1.int; subst e
    have e := k2.int; subst e
    refine call_max2 hc pins s σ H _ us Q I rv ⟨_, _, rfl, ?_⟩
    rename_i i j
    have e : (if j > i then j else i) = max i j := by split <;> omega
    rw [e]; exact k _ _ newR_int
  · rename_i xs
    obtain ⟨v, rfl, a, ws, rfl, h1, h2⟩ := kid1 kd
    cases e1 : asInts xs with
    | some is =>
      simp only [e1] at q
      obtain ⟨i, e2, q⟩ := Option.map_eq_some_iff.mp q
      cases q
      obtain ⟨_, e3⟩ := h2.asInts e1
      subst e3
      obtain ⟨m1, m2⟩ := great_spec e2
      refine cr_max hc pins s σ H _ us Q I rv ⟨a, is, rfl, SqL.of h1, List.length_pos_of_mem m1, fun m hm hle => ?_⟩
      have e : m = i := by
        have := m2 m hm
        have := hle i m1
        omega
      rw [e]; exact k _ _ newR_int
    | none =>
      simp only [e1] at q
      split at q
      case isFalse => cases q
      rename_i ok
      obtain ⟨d, e2, q⟩ := Option.map_eq_some_iff.mp q
      cases q
      obtain ⟨its, vv, hl, hz⟩ := I.list (SqL.of h1)
      have lw : ws.length = xs.length := (h2.length).symm
      have lv := vv.length
      obtain ⟨u, rfl, ru⟩ := rv.one
      obtain rfl : u = Value.ref a := ru
      obtain ⟨rd, al, nn, dp⟩ := data_reads I sz h1 h2 ok vv
      have n0 : 0 < xs.length := by
        unfold bestAt at e2
        have := (List.getElem?_eq_some_iff.mp e2).1
        omega
      have hu := hr.units
      refine call_max_data (I.ok.hd hc) hl.isList (by simp; omega) (bt := fun i j => ltD (xs.getD j .non) (xs.getD i .non)) (fun i j u v st Q E kp fu fv hq => ?_) fun v g tk hv kp => ?_
      · have fu' : its[i]? = some u := by simpa using fu
        have fv' : its[j]? = some v := by simpa using fv
        obtain ⟨as, r1⟩ := rd i u fu'
        obtain ⟨bs, r2⟩ := rd j v fv'
        have li : i < xs.length := by have := (List.getElem?_eq_some_iff.mp fu').1; omega
        have lj : j < xs.length := by have := (List.getElem?_eq_some_iff.mp fv').1; omega
        exact PySem.W.rcGt_alike _ _ _ _ _ _ _ _ (PyProof.Rows.Reads.keeps kp r1) (PyProof.Rows.Reads.keeps kp r2) (al i j li lj) (nn i li) (by
          have := dp i li
          show X.A.units + 1 + _ < cLine
          omega) _ _ _ _ hq
      · have hv' : its[argBest (fun i j => ltD (xs.getD j .non) (xs.getD i .non)) (xs.length - 1)]? = some v := by
          have e : its.toArray.size = xs.length := by simp; omega
          rw [e] at hv
          simpa using hv
        obtain ⟨w, hw, rw_⟩ := vals_back vv hv'
        obtain ⟨d', e3, rp⟩ := h2.back hw
        have ed : d' = r := by
          have e4 : xs[argBest (fun i j => ltD (xs.getD j .non) (xs.getD i .non)) (xs.length - 1)]? = some r := e2
          rw [e3] at e4
          exact Option.some.inj e4
        subst ed
        exact ⟨w, H, I.kept kp, rw_, k _ _ (NewR.old rp sz)⟩
  · cases q
end
end Rt
end
section
set_option linter.all false
set_option autoImplicit false
set_option Elab.async false
set_option maxRecDepth 100000
set_option maxHeartbeats 3200000
namespace Rt
open PySem PySem.Spec PyProof.Rows L2
section
variable {fa ca : Nat → Addr} {X : Cx} {e a b c : Expr} {da db dc : Ex} {pos : Pos}
/-! ## xs.remove(k) -/
theorem asInts_reps {K : PySem.W.Frag} {Z : Hp} {xs : List D} {vs : List V} {is : List Int} (h : RepL fa K Z xs vs) (e : asInts xs = some is) : vs = is.map V.int := (h.asInts e).2
theorem sndS_rem {i : Nat} {y : Str} {p1 p2 p3 : Pos} (hN : X.N[i]? = some y) (hv : Vis X.env.scope y) (hd : (y == ("__debug__" : Str)) = false) (hcd : (y == ("__classdict__" : Str)) = false) (hst : notStar e = true) (hline : (p2.endLine == p3.line) = true) (he : Snd fa ca X e da) :
    SndS fa ca X (.Expr (.Call (.Attribute (.Name y p1) "remove" p2) [e] [] p3) pos) (sRem i da) := fun W tk H0 U N H σ E D x p => by
  refine of_ps (ps_expr (pe_bm PySem.F.plainAttrs_list PySem.F.slot_list_remove PySem.F.type_list_remove mt_remove (pe_var (i := i) hN hv hd hcd) (pa_cons (peE (e := e)) pa_nil (star_cons hst)) rfl (by rw [star_cons hst]; rfl) hline (star_cons hst) rfl) rfl) ?_
  unfold sRem at p
  split at p
  case h_2 => exact p.elim
  · rename_i xs0 hsl
    have p' : PostS fa ca X.K W H0 U D (hide H N) ((da E).to E fun r => (match r.d with
      | .int k => Rt.frzO r.kp E fun σ' => (match σ'[i]? with
        | some (some (.lst xs, true)) => (match asInts xs with
          | some is => (match firstAt k is with
            | some j => .nx (σ'.set i (some (.lst ((is.eraseIdx j).map .int), true)))
            | none => .bad)
          | none => .bad)
        | _ => .bad)
      | _ => .bad)) := p
    obtain ⟨ap, z1, z2, vs0, z3, z4⟩ := x.sr.ow i _ hsl
    refine ⟨_, z1, .inl ⟨rfl, _, SqL.of z3⟩, ?_⟩
    show tE X e σ H _
    refine he W tk N H σ E _ x.sr ?_
    refine (p'.to x.fs.sub).imp fun r _ q v H1 g rr => ?_
    have kd := rr.kid x.sr g
    cases hrd : r.d <;> simp only [hrd] at q kd <;> try exact q.elim
    rename_i k
    have ek := kd.int
    subst ek
    obtain ⟨fine, q⟩ := q.frzO
    have x1 := (x.frz fine).grow g
    cases qe : (frz r.kp E)[i]? with
    | none => simp only [qe] at q; exact q.elim
    | some o =>
      cases o with
      | none => simp only [qe] at q; exact q.elim
      | some dk =>
        obtain ⟨d, fl⟩ := dk
        cases d <;> cases fl <;> simp only [qe] at q <;> try exact q.elim
        rename_i xs
        cases ei : asInts xs with
        | none => simp only [ei] at q; exact q.elim
        | some is =>
          simp only [ei] at q
          cases ef : firstAt k is with
          | none => simp only [ef] at q; exact q.elim
          | some j =>
            simp only [ef] at q
            obtain ⟨p, vs, w1, w2, w3, w4⟩ := own_at (H := H) x1 qe
            have e1 : p = ap := by rw [z1] at w1; cases w1; rfl
            subst e1
            have ev := asInts_reps w3 ei
            subst ev
            obtain ⟨f1, f2⟩ := firstAt_spec ef
            obtain ⟨x2, sb⟩ := x1.write (o := .lst ((is.eraseIdx j).map V.int)) (d' := .lst ((is.eraseIdx j).map .int)) qe w1 ⟨_, upd_same, RepL.of_ints _⟩
            exact ⟨p, is, k, j, rfl, rfl, w2, f1, fun m hm em => f2 m hm k em rfl, q _ _ _ ((hide_mono g fun b o _ n => n.1).trans sb) x2⟩
/-! ## a, b, c = d, e, f, plain local names: stored from the right -/
def tPar3 (i j k : Nat) (ta : TA) : TS := fun D σ H => ta σ H fun vs H1 => ∃ v w u, vs = [v, w, u] ∧ D.nx (((σ.set i (some v)).set j (some w)).set k (some u)) H1
theorem ps_par3 {i j k : Nat} {x y z : Str} {ta : TA} {px py pz pt : Pos} {kt k2 : Nat} {pt2 : Pos} (calm : X.calm = true) (nd : X.N.Nodup) (hi : X.N[i]? = some x) (hj : X.N[j]? = some y) (hk : X.N[k]? = some z) (ij : i ≠ j) (ik : i ≠ k) (jk : j ≠ k)
    (lx : X.env.scope.names.lookup x = some .local) (ly : X.env.scope.names.lookup y = some .local) (lz : X.env.scope.names.lookup z = some .local) (va : PA X [a, b, c] ta)
    (sw : swappedStores [.Tuple [.Name x px, .Name y py, .Name z pz] kt pt] (.Tuple [a, b, c] k2 pt2) X.env = pure (some [x, y, z]))
    (so : swapsWithSole [.Tuple [.Name x px, .Name y py, .Name z pz] kt pt] (.Tuple [a, b, c] k2 pt2) pos.line X.env = pure false := by rfl) :
    PS X (.Assign [.Tuple [.Name x px, .Name y py, .Name z pz] kt pt] (.Tuple [a, b, c] k2 pt2) pos) (tPar3 i j k ta) := by
  refine ⟨fun pins st σ H D I h => ?_⟩
  rw [exec_Assign_arm]; refine wpAny_bind (wpAny_standAt ?_)
  rw [so]; refine wpAny_bind (wpAny_pure ?_)
  rw [if_neg (by decide)]
  refine wpAny_bind (Tuple_ (thn (va.run _ pins st σ H _ I h) fun us s1 ⟨vs, H1, I1, r1, q1⟩ => ?_))
  obtain ⟨v, w, u, e1, q1⟩ := q1
  subst e1
  obtain ⟨u1, u2, u3, rfl, rv, rw', ru⟩ : ∃ u1 u2 u3, us = [u1, u2, u3] ∧ RelV v u1 ∧ RelV w u2 ∧ RelV u u3 := by
    cases r1 with
    | cons p q =>
      cases q with
      | cons p' q' =>
        cases q' with
        | cons p'' q'' =>
          cases q''
          exact ⟨_, _, _, rfl, p, p', p''⟩
  refine wpAny_newObj_type ?_ (by show 3 ≤ sizeLine; decide)
  have I2 : Inv X pins σ H1 { s1 with heap := s1.heap.push { cls := .type "tuple", data := .seq [u1, u2, u3].toArray } } := I1.kept (t' := s1.toks) fun b o e => Heap.get?_push_of_some _ e
  rw [sw]; refine wpAny_bind (wpAny_pure ?_)
  show wpAny (model X.prog X.w) X.A (do rule "assign.swapped-stores"; let items ← unpackItems (.ref s1.heap.objs.size) 3 none; assignInOrder [fun v => bindName X.env z v, fun v => bindName X.env y v, fun v => bindName X.env x v] items.reverse; pure Flow.next) _ _ _
  refine wpAny_bind (wpAny_rule (wpAny_bind (unpackItems_tuple (items := #[u1, u2, u3]) (I.ok.hd calm) (IsTup.new s1.heap _) fun h' hx' => ?_)))
  have I3 := I2.kept (h' := h') (t' := s1.toks) fun b o e => hx' b o (Nat.ne_of_lt (Heap.lt_size e)) e
  show wpAny _ _ (assignInOrder [fun v => bindName X.env z v, fun v => bindName X.env y v, fun v => bindName X.env x v] [u3, u2, u1] >>= fun _ => pure Flow.next) _ _ _
  refine wpAny_bind (assignInOrder_cons (wpAny_bindName (store_ok I3 nd hk (.inl lz) ru (fun s2 I4 => ?_) (.inr lz))))
  refine assignInOrder_cons (wpAny_bindName (store_ok I4 nd hj (.inl ly) rw' (fun s3 I5 => ?_) (.inr ly)))
  refine assignInOrder_cons (wpAny_bindName (store_ok I5 nd hi (.inl lx) rv (fun s4 I6 => assignInOrder_nil (wpAny_pure ?_)) (.inr lx)))
  have es : ((σ.set k (some u)).set j (some w)).set i (some v) = ((σ.set i (some v)).set j (some w)).set k (some u) := by
    rw [List.set_comm _ _ (Ne.symm jk), List.set_comm _ _ (Ne.symm ik), List.set_comm _ _ (Ne.symm ij)]
  rw [es] at I6
  exact ⟨_, H1, I6, q1⟩
/-- a value that is plain goes into a slot -/
theorem Fx.take {H0 H H1 H' : Hp} {U N N' : Addr → Prop} {σ σ' : L2.St} {E E' : Env} {i : Nat} {r : Rv} {v : V} (x : Fx fa X.K H0 U N H σ E) (g : Sub H H1) (lt : i < E.length) (rr : RR fa X.K N' H H1 σ' E' v r) (pl : plainR r = true) :
    ∃ N2, Fx fa X.K H0 U N2 H1 (σ.set i (some v)) (E.set i (some (r.d, r.isNw))) ∧ ∀ b o, H b = some o → N2 b → N b := by
  obtain ⟨d, t, p⟩ := r
  unfold plainR at pl
  dsimp only at pl
  split at pl
  · rename_i n _ _
    unfold RR at rr
    dsimp only at rr
    simp only [Rep] at rr
    subst rr
    exact ⟨N, (x.grow g).put lt (by simp [Rep]), fun b o _ n => n⟩
  · rename_i xs _ _
    unfold RR at rr
    dsimp only at rr
    obtain ⟨ad, rfl, np, tp⟩ := rr
    refine ⟨fun b => N b ∨ b = ad, x.own g lt np ?_, fun b o eb n => n.elim id fun z => by rw [z, np] at eb; cases eb⟩
    refine Top.unhide (fun b n => ?_) pl tp
    rcases n with n | n
    · obtain ⟨o, ho, mb⟩ := x.sr.sub b n
      exact ⟨o, g _ _ ho, mb⟩
    · subst n
      exact tp.mb
  · cases pl
theorem sndS_par3 {i j k : Nat} {x y z : Str} {px py pz pt : Pos} {kt k2 : Nat} {pt2 : Pos} (calm : X.calm = true) (nd : X.N.Nodup) (hi : X.N[i]? = some x) (hj : X.N[j]? = some y) (hk : X.N[k]? = some z) (ij : i ≠ j) (ik : i ≠ k) (jk : j ≠ k)
    (lx : X.env.scope.names.lookup x = some .local) (ly : X.env.scope.names.lookup y = some .local) (lz : X.env.scope.names.lookup z = some .local) (s1 : notStar a = true) (s2 : notStar b = true) (s3 : notStar c = true)
    (sw : swappedStores [.Tuple [.Name x px, .Name y py, .Name z pz] kt pt] (.Tuple [a, b, c] k2 pt2) X.env = pure (some [x, y, z])) (ha : Snd fa ca X a da) (hb : Snd fa ca X b db) (hc : Snd fa ca X c dc) :
    SndS fa ca X (.Assign [.Tuple [.Name x px, .Name y py, .Name z pz] kt pt] (.Tuple [a, b, c] k2 pt2) pos) (sPar3 i j k da db dc) := fun W tk H0 U N H σ E D f p => by
  refine of_ps (ps_par3 calm nd hi hj hk ij ik jk lx ly lz (pa_cons (peE (e := a)) (pa_cons (peE (e := b)) (pa_cons (peE (e := c)) pa_nil (star_cons s3)) (star_cons s2)) (star_cons s1)) sw rfl) ?_
  show tE X a σ H _
  refine ha W tk N H σ E _ f.sr ?_
  have p' : PostS fa ca X.K W H0 U D (hide H N) ((da E).to E fun r => (db E).to E fun s => (dc E).to E fun t => if (plainR r && (plainR s && plainR t)) && decide (i < E.length ∧ j < E.length ∧ k < E.length) then .nx (((E.set i (some (r.d, r.isNw))).set j (some (s.d, s.isNw))).set k (some (t.d, t.isNw))) else .bad) := p
  refine (p'.to f.fs.sub).imp fun r _ q v H1 g1 r1 => ?_
  show tE X b σ H1 _
  have f1 := f.grow g1
  refine hb W tk N H1 σ E _ f1.sr ?_
  refine (q.to f1.fs.sub).imp fun r' _ q' w H2 g2 r2 => ?_
  show tE X c σ H2 _
  have f2 := f1.grow g2
  refine hc W tk N H2 σ E _ f2.sr ?_
  refine (q'.to f2.fs.sub).imp fun r'' _ q'' u H3 g3 r3 => ?_
  refine ⟨v, w, u, rfl, ?_⟩
  split at q''
  case isFalse => exact q''.elim
  rename_i ok
  simp only [Bool.and_eq_true, decide_eq_true_eq] at ok
  obtain ⟨⟨o1, o2, o3⟩, l1, l2, l3⟩ := ok
  obtain ⟨N1, x1, n1⟩ := f.take (H' := H1) g1 l1 r1 o1
  obtain ⟨N2, x2, n2⟩ := x1.take (H' := H2) g2 (by rw [List.length_set]; exact l2) r2 o2
  obtain ⟨N3, x3, n3⟩ := x2.take (H' := H3) g3 (by rw [List.length_set, List.length_set]; exact l3) r3 o3
  refine q'' _ H3 _ (hide_mono ((g1.trans g2).trans g3) fun b o eb m => ?_) x3
  exact n1 b o eb (n2 b o (g1 _ _ eb) (n3 b o (g2 _ _ (g1 _ _ eb)) m))
/-! ## a, b = c, d of plain local names, both values plain: both are owned if new -/
def sPar2 (i j : Nat) (a b : Ex) : Sm := fun σ => (a σ).to σ fun r => (b σ).to σ fun s =>
  if (plainR r && plainR s) && decide (i < σ.length ∧ j < σ.length) then .nx ((σ.set i (some (r.d, r.isNw))).set j (some (s.d, s.isNw))) else .bad
def sParU (i j : Nat) (a b : Ex) : Sm := fun σ => match sPar2 i j a b σ with
  | .bad => sPar i j a b σ
  | o => o
theorem sndS_par2 {i j : Nat} {y z : Str} {py pz pt : Pos} {kt k2 : Nat} {pt2 : Pos} (hc : X.calm = true) (hN : X.N.Nodup) (hi : X.N[i]? = some y) (hj : X.N[j]? = some z) (hij : i ≠ j) (hy : X.env.scope.names.lookup y = some .local) (hz : X.env.scope.names.lookup z = some .local)
    (hs1 : notStar a = true) (hs2 : notStar b = true) (hw : swappedStores [.Tuple [.Name y py, .Name z pz] kt pt] (.Tuple [a, b] k2 pt2) X.env = pure (some [y, z])) (ha : Snd fa ca X a da) (hb : Snd fa ca X b db) :
    SndS fa ca X (.Assign [.Tuple [.Name y py, .Name z pz] kt pt] (.Tuple [a, b] k2 pt2) pos) (sPar2 i j da db) := fun W tk H0 U N H σ E D f p => by
  refine of_ps (ps_par hc hN hi hj hij hy hz (pa_cons (peE (e := a)) (pa_cons (peE (e := b)) pa_nil (star_cons hs2)) (star_cons hs1)) hw rfl) ?_
  show tE X a σ H _
  refine ha W tk N H σ E _ f.sr ?_
  have p' : PostS fa ca X.K W H0 U D (hide H N) ((da E).to E fun r => (db E).to E fun s => if (plainR r && plainR s) && decide (i < E.length ∧ j < E.length) then .nx ((E.set i (some (r.d, r.isNw))).set j (some (s.d, s.isNw))) else .bad) := p
  refine (p'.to f.fs.sub).imp fun r _ q v H1 g1 r1 => ?_
  show tE X b σ H1 _
  have f1 := f.grow g1
  refine hb W tk N H1 σ E _ f1.sr ?_
  refine (q.to f1.fs.sub).imp fun r' _ q'' w H2 g2 r2 => ?_
  refine ⟨v, w, rfl, ?_⟩
  split at q''
  case isFalse => exact q''.elim
  rename_i ok
  simp only [Bool.and_eq_true, decide_eq_true_eq] at ok
  obtain ⟨⟨o1, o2⟩, l1, l2⟩ := ok
  obtain ⟨N1, x1, n1⟩ := f.take (H' := H1) g1 l1 r1 o1
  obtain ⟨N2, x2, n2⟩ := x1.take (H' := H2) g2 (by rw [List.length_set]; exact l2) r2 o2
  refine q'' _ H2 _ (hide_mono (g1.trans g2) fun b o eb m => ?_) x2
  exact n1 b o eb (n2 b o (g1 _ _ eb) m)
theorem sndS_parU {i j : Nat} {y z : Str} {py pz pt : Pos} {kt k2 : Nat} {pt2 : Pos} (hc : X.calm = true) (hN : X.N.Nodup) (hi : X.N[i]? = some y) (hj : X.N[j]? = some z) (hij : i ≠ j) (hy : X.env.scope.names.lookup y = some .local) (hz : X.env.scope.names.lookup z = some .local)
    (hs1 : notStar a = true) (hs2 : notStar b = true) (hw : swappedStores [.Tuple [.Name y py, .Name z pz] kt pt] (.Tuple [a, b] k2 pt2) X.env = pure (some [y, z])) (ha : Snd fa ca X a da) (hb : Snd fa ca X b db) :
    SndS fa ca X (.Assign [.Tuple [.Name y py, .Name z pz] kt pt] (.Tuple [a, b] k2 pt2) pos) (sParU i j da db) := fun W tk H0 U N H σ E D f p => by
  unfold sParU at p
  split at p
  · exact sndS_par hc hN hi hj hij hy hz hs1 hs2 hw ha hb W tk H0 U N H σ E D f p
  · exact sndS_par2 hc hN hi hj hij hy hz hs1 hs2 hw ha hb W tk H0 U N H σ E D f p
end
end Rt
end
section
set_option linter.all false
set_option autoImplicit false
set_option Elab.async false
set_option maxRecDepth 100000
set_option maxHeartbeats 3200000
namespace Rt
open PySem PySem.Spec PyProof.Rows L2
/-! ## dict(x), x a list of pairs -/
def asPairs : List D → Option (List (D × D))
  | [] => some []
  | .tup [k, v] :: xs => if isKey k then (asPairs xs).map fun r => (k, v) :: r else none
  | _ :: _ => none
def putAll : List D → List D → List (D × D) → List D × List D
  | ks, vs, [] => (ks, vs)
  | ks, vs, (k, v) :: r => putAll (dkPut ks vs k v).1 (dkPut ks vs k v).2 r
/-- dict(x) -/
def bDict : List D → Option (D × Bool)
  | [.lst xs] => (asPairs xs).map fun ps => (.dct (putAll [] [] ps).1 (putAll [] [] ps).2, true)
  | _ => none
section
variable {fa ca : Nat → Addr} {X : Cx}
theorem Rep.key {K : PySem.W.Frag} {Z : Hp} {x : V} {k : Key} (h : Rep fa K Z (keyD k) x) : x = kV k := by
  cases k with
  | inl i => exact Kid.key (k := .inl i) (Z := Z) (H := Z) (K := K) (fa := fa) h
  | inr s => exact Kid.key (k := .inr s) (Z := Z) (H := Z) (K := K) (fa := fa) h
theorem pairs_rep {K : PySem.W.Frag} {Z H : Hp} (sz : Sub Z H) : ∀ {xs : List D} {ws : List V} {ps : List (D × D)}, RepL fa K Z xs ws → asPairs xs = some ps →
    ∃ (as : List Addr) (kvs : List (Key × V)), ws = as.map V.ref ∧ Paired (fun p kv => SqT K H p [kV kv.1, kv.2]) as kvs ∧ ps.map (·.1) = kvs.map (fun p => keyD p.1) ∧ RepL fa K Z (ps.map (·.2)) (kvs.map (·.2))
  | [], ws, ps, h, q => by
    cases q
    have : ws = [] := h
    subst this
    exact ⟨[], [], rfl, .nil, rfl, rfl⟩
  | x :: xs, ws, ps, h, q => by
    unfold asPairs at q
    split at q
    · rename_i e; cases e
    · rename_i k v xs' e
      cases e
      split at q
      case isFalse => cases q
      rename_i hk
      obtain ⟨r, q1, rfl⟩ := Option.map_eq_some_iff.mp q
      obtain ⟨key, rfl⟩ := isKey_is hk
      obtain ⟨w, us, rfl, h1, h2⟩ := h
      obtain ⟨as, kvs, rfl, p1, p2, p3⟩ := pairs_rep sz h2 q1
      have h1' := h1
      simp only [Rep] at h1'
      obtain ⟨a, vs, rfl, s1, s2⟩ := h1'
      obtain ⟨w1, u1, rfl, r1, t1⟩ := s2
      obtain ⟨w2, u2, rfl, r2, t2⟩ := t1
      have : u2 = [] := t2
      subst this
      have ek := r1.key
      subst ek
      refine ⟨a :: as, (key, w2) :: kvs, rfl, .cons (SqT.sub s1 sz) p1, by simp [p2], ?_⟩
      exact ⟨w2, _, rfl, r2, p3⟩
    · cases q
theorem putAll_rep {K : PySem.W.Frag} {Z : Hp} : ∀ {ps : List (D × D)} {kvs kvs0 : List (Key × V)} {vs : List D}, ps.map (·.1) = kvs.map (fun p => keyD p.1) → RepL fa K Z (ps.map (·.2)) (kvs.map (·.2)) → RepL fa K Z vs (kvs0.map (·.2)) →
    (putAll (kvs0.map fun p => keyD p.1) vs ps).1 = (mergeK kvs0 kvs).map (fun p => keyD p.1) ∧ RepL fa K Z (putAll (kvs0.map fun p => keyD p.1) vs ps).2 ((mergeK kvs0 kvs).map (·.2))
  | [], [], kvs0, vs, _, _, h => ⟨rfl, h⟩
  | [], kv :: kvs, kvs0, vs, e, _, _ => by cases e
  | p :: ps, [], kvs0, vs, e, _, _ => by cases e
  | (k, d) :: ps, (key, v) :: kvs, kvs0, vs, e, h1, h => by
    simp only [List.map_cons, List.cons.injEq] at e
    obtain ⟨rfl, e2⟩ := e
    obtain ⟨w, us, ee, r1, r2⟩ := h1
    cases ee
    obtain ⟨a, b⟩ := dkPut_val (k := key) r1 h
    unfold putAll
    rw [a]
    exact putAll_rep e2 r2 b
theorem NewR.dict {K : PySem.W.Frag} {Z H : Hp} {a : Addr} {ks vs : List D} {kvs : List (Key × V)} (n : H a = none) (sz : Sub Z H) (e : ks = kvs.map fun p => keyD p.1) (h : RepL fa K Z vs (kvs.map (·.2))) : NewR fa K Z H (upd H a (.dK kvs)) true (.dct ks vs) (.ref a) := by
  refine ⟨sub_upd n, a, rfl, n, kvs, upd_same, e, RepL.sub (fun b o e => ?_) _ _ h⟩
  have q := sz b o e
  have ne : b ≠ a := ne_of_none q n
  simp only [if_neg ne, q]
  exact e
theorem bi_dict (hc : X.calm = true) : BiS fa X (.type "dict") bDict := fun Z H vs ds r fr Q sz kd q k pins s σ us I rv => by
  unfold bDict at q
  split at q
  case h_2 => cases q
  obtain ⟨ps, q1, e⟩ := Option.map_eq_some_iff.mp q
  cases e
  obtain ⟨v, rfl, a, ws, rfl, h1, h2⟩ := kid1 kd
  obtain ⟨as, kvs, rfl, p1, p2, p3⟩ := pairs_rep sz h2 q1
  have pr := putAll_rep (kvs0 := []) (vs := []) p2 p3 rfl
  exact call_dictP hc pins s σ H _ us Q I rv ⟨a, as, kvs, rfl, SqL.of h1, p1, fun p hp => k _ _ (NewR.dict hp sz pr.1 pr.2)⟩
end
end Rt
end
section
set_option linter.all false
set_option autoImplicit false
set_option Elab.async false
set_option maxRecDepth 100000
set_option maxHeartbeats 3200000
namespace Rt
open PySem PySem.Spec PyProof.Rows L2
section
variable {fa ca : Nat → Addr} {X : Cx} {a b c e o tg iter tg1 iter1 elt kx : Expr} {da db dc dO dk : Ex} {pos : Pos} {it it1 : Itr}
/-! ## d.get -/
theorem dkGet_none {k : Key} : ∀ {kvs : List (Key × V)} {vs : List D}, vs.length = kvs.length → dkGet (kvs.map fun p => keyD p.1) vs (keyD k) = none → valV kvs k = none
  | [], vs, _, q => rfl
  | p :: kvs, [], h, q => by simp at h
  | p :: kvs, d :: vs, h, q => by
    simp only [List.map_cons, dkGet] at q
    by_cases c : p.1 = k
    · rw [if_pos (keyD_same.mpr (by rw [c]))] at q
      cases q
    · rw [if_neg fun z => c (keyD_inj (keyD_same.mp z)).symm] at q
      rw [valV_neg c]
      exact dkGet_none (by simpa using h) q
theorem kv_get {K : PySem.W.Frag} {Z : Hp} {k : Key} {kvs : List (Key × V)} {vs : List D} {x : D} {w : V} (h : RepL fa K Z vs (kvs.map (·.2))) (hx : Rep fa K Z x w) :
    Rep fa K Z ((dkGet (kvs.map fun p => keyD p.1) vs (keyD k)).getD x) ((valV kvs k).getD w) := by
  cases q : dkGet (kvs.map fun p => keyD p.1) vs (keyD k) with
  | none =>
    rw [dkGet_none (by rw [h.length, List.length_map]) q]
    exact hx
  | some d =>
    obtain ⟨v, q1, q2⟩ := dkGet_val h q
    rw [q1]
    exact q2
theorem m1_of {m : Str} {apos cpos : Pos} (hb : attributeBase o m X.env (eval o X.env) = eval o X.env) (hst : notStar e = true) (hline : (apos.endLine == cpos.line) = true) : M1 X o m apos e cpos :=
  ⟨hb, by rw [star_cons hst]; rfl, hline, by rw [star_cons hst]; rfl⟩
theorem m2_of {m : Str} {apos cpos : Pos} (hb : attributeBase o m X.env (eval o X.env) = eval o X.env) (hst : notStar e = true) (hs2 : notStar b = true) (hline : (apos.endLine == cpos.line) = true) : M2 X o m apos e b cpos :=
  ⟨hb, by rw [star_cons hst, star_cons hs2]; rfl, hline, by rw [star_cons hst, star_cons hs2]; rfl⟩
theorem dct_top {K : PySem.W.Frag} {N : Addr → Prop} {H H' : Hp} {σ : L2.St} {E : Env} {v : V} {r : Rv} {ks vs : List D} (h : RR fa K N H H' σ E v r) (s : SR fa K N H σ E) (g : Sub H H') (e : r.d = .dct ks vs) :
    ∃ ap kvs, v = .ref ap ∧ H' ap = some (.dK kvs) ∧ ks = kvs.map (fun p => keyD p.1) ∧ RepL fa K (hide H' (del N σ r.kp)) vs (kvs.map (·.2)) := by
  have al := h.all s g
  rw [e] at al
  simp only [Rep] at al
  obtain ⟨ap, kvs, h1, h2, h3, h4⟩ := al
  exact ⟨ap, kvs, h1, hide_sub _ _ h2, h3, h4⟩
theorem snd_get1 {kk : Nat} {apos cpos : Pos} {f : Ex} (hr : Room kk X.A) (ho : Snd fa ca X o dO) (he : Snd fa ca X e f) (m : M1 X o "get" apos e cpos) : Snd fa ca X (.Call (.Attribute o "get" apos) [e] [] cpos) (xGet dO [f]) := fun W tk N H σ E Q s p => by
  refine of_pe (pe_dget1 (by have := hr.units; omega) (peE (e := o)) (peE (e := e)) m) ?_
  show tE X o σ H _
  unfold xGet at p
  refine ho.bd tk s (Sub.refl _) p fun r x H1 e1 g1 r1 p1 => ?_
  cases hd : r.d <;> simp only [hd] at p1 <;> try exact p1.elim
  rename_i ks vs
  have p1' : Post ca W H σ (fun r => ∀ v H', Sub H H' → RR fa X.K N H H' σ E v r → Q v H') ((f E).bd fun r' => match dGet ks vs [r'.d] with | some d => .ok (mkF d (r.kp ++ kpL [r'])) | none => .bad) := by
    have z := p1
    unfold evs evs at z
    rw [R.bd_assoc] at z
    exact z
  obtain ⟨ap, kvs, rfl, h1, rfl, h2⟩ := dct_top r1 s g1 hd
  refine ⟨ap, rfl, .inl ⟨kvs, .of h1⟩, ?_⟩
  show tE X e σ H1 _
  refine he.bd tk (s.grow g1) g1 p1' fun r' y H2 e2 g2 r2 p2 => ?_
  have g12 := g1.trans g2
  have k2 := r2.kid (s.grow g1) g2
  cases q : dGet (kvs.map fun p => keyD p.1) vs [r'.d] with
  | none => simp only [q] at p2; exact p2.elim
  | some d =>
    simp only [q] at p2
    simp only [dGet] at q
    split at q
    · rename_i hk
      cases q
      obtain ⟨key, ek⟩ := isKey_is hk
      rw [ek] at p2 k2
      have ey := k2.key
      subst ey
      have z := RepL.sub (hide_mono g2 fun b o _ n => n) _ _ h2
      refine ⟨_, DGet.k (g2 _ _ h1), p2 _ H2 g12 (rr_mkF s g12 (Rep.sub (hide_dep mem_app_l) _ _ (kv_get z (by simp [Rep]))))⟩
    · cases q
theorem snd_get2 {kk : Nat} {apos cpos : Pos} {f g : Ex} (hr : Room kk X.A) (ho : Snd fa ca X o dO) (he : Snd fa ca X e f) (hb : Snd fa ca X b g) (m : M2 X o "get" apos e b cpos) : Snd fa ca X (.Call (.Attribute o "get" apos) [e, b] [] cpos) (xGet dO [f, g]) := fun W tk N H σ E Q s p => by
  refine of_pe (pe_dget2 (by have := hr.units; omega) (peE (e := o)) (peE (e := e)) (peE (e := b)) m) ?_
  show tE X o σ H _
  unfold xGet at p
  refine ho.bd tk s (Sub.refl _) p fun r x H1 e1 g1 r1 p1 => ?_
  cases hd : r.d <;> simp only [hd] at p1 <;> try exact p1.elim
  rename_i ks vs
  have p1' : Post ca W H σ (fun r => ∀ v H', Sub H H' → RR fa X.K N H H' σ E v r → Q v H') ((f E).bd fun r' => (g E).bd fun r'' => match dGet ks vs [r'.d, r''.d] with | some d => .ok (mkF d (r.kp ++ kpL [r', r''])) | none => .bad) := by
    have z := p1
    unfold evs evs evs at z
    simp only [R.bd_assoc] at z
    exact z
  obtain ⟨ap, kvs, rfl, h1, rfl, h2⟩ := dct_top r1 s g1 hd
  refine ⟨ap, rfl, .inl ⟨kvs, .of h1⟩, ?_⟩
  show tE X e σ H1 _
  refine he.bd tk (s.grow g1) g1 p1' fun r' y H2 e2 g2 r2 p2 => ?_
  have g12 := g1.trans g2
  show tE X b σ H2 _
  refine hb.bd tk (s.grow g12) g12 p2 fun r'' w H3 e3 g3 r3 p3 => ?_
  have g23 := g2.trans g3
  have g13 := g1.trans g23
  have k2 := (r2.kid (s.grow g1) g2).sub (hide_mono g3 fun b o _ n => n) g3
  cases q : dGet (kvs.map fun p => keyD p.1) vs [r'.d, r''.d] with
  | none => simp only [q] at p3; exact p3.elim
  | some d =>
    simp only [q] at p3
    simp only [dGet] at q
    split at q
    · rename_i hk
      cases q
      obtain ⟨key, ek⟩ := isKey_is hk
      rw [ek] at p3 k2
      have ey := k2.key
      subst ey
      have z := RepL.sub (hide_mono g23 fun b o _ n => n) _ _ h2
      have al := r3.all (s.grow g12) g3
      refine ⟨_, DGet.k (g23 _ _ h1), p3 _ H3 g13 (rr_mkF s g13 (kv_get (RepL.sub (hide_dep mem_app_l) _ _ z) (Rep.sub (hide_dep fun i h => ?_) _ _ al)))⟩
      simp only [kpL, List.map_cons, List.map_nil, List.flatten_cons, List.flatten_nil, List.append_nil, List.mem_append]
      exact .inr (.inr h)
    · cases q
/-! ## x[::-1] -/
theorem rev_range (n : Nat) : sliceRange ((n : Int) - 1) (-1) (-1) = (List.range n).map fun (k : Nat) => n - 1 - k := by
  unfold sliceRange
  rw [if_neg (by decide)]
  cases n with
  | zero => rfl
  | succ m =>
    rw [if_pos (by omega)]
    dsimp only
    have e : ((((m + 1 : Nat) : Int) - 1 - -1 - -1 - 1) / - -1).toNat = m + 1 := by
      have : (((m + 1 : Nat) : Int) - 1 - -1 - -1 - 1) / - -1 = ((m + 1 : Nat) : Int) := by
        rw [show (- -1 : Int) = 1 by decide, Int.ediv_one]; omega
      rw [this]; rfl
    rw [e]
    apply List.map_congr_left
    intro k hk
    have := List.mem_range.mp hk
    omega
theorem rev_pick {α : Type} (l : List α) : ∀ n, n = l.length → ((List.range n).map fun (k : Nat) => n - 1 - k).filterMap (l[·]?) = l.reverse := by
  intro n hn
  subst hn
  apply List.ext_getElem?
  intro i
  rw [List.filterMap_map]
  have e : ∀ (m : Nat), m ≤ l.length → (List.range m).filterMap ((fun x => l[x]?) ∘ fun k => l.length - 1 - k) = (l.reverse).take m := by
    intro m
    induction m with
    | zero => intro _; rfl
    | succ m ih =>
      intro h
      rw [List.range_succ, List.filterMap_append, ih (by omega), List.take_add_one]
      congr 1
      simp only [List.filterMap_cons, List.filterMap_nil, Function.comp]
      rw [List.getElem?_reverse (by omega)]
      cases q : l[l.length - 1 - m]? with
      | none => rfl
      | some x => rfl
  rw [e _ (Nat.le_refl _), List.take_of_length_le (by simp)]
theorem slicePick_rev (items : Array Value) : slicePick items none none (some (-1)) = items.toList.reverse.toArray := by
  have e : sliceBounds none none (some (-1)) items.size = ((items.size : Int) - 1, -1, -1) := by
    simp [sliceBounds]
  unfold slicePick
  rw [e]
  simp only [rev_range]
  have h := rev_pick items.toList items.size (by simp)
  rw [← h]
  congr 1
  simp
theorem Vals.rev {xs : List V} {us : List Value} (h : Vals xs us) : Vals xs.reverse us.reverse := L2.Vals.reverse h
theorem RepL.rev {K : PySem.W.Frag} {Z : Hp} : ∀ {ds : List D} {vs : List V}, RepL fa K Z ds vs → RepL fa K Z ds.reverse vs.reverse
  | [], vs, h => by
    have : vs = [] := h
    subst this
    exact RepL.nil_
  | d :: ds, vs, h => by
    obtain ⟨v, r, rfl, h1, h2⟩ := h
    rw [List.reverse_cons, List.reverse_cons]
    exact (RepL.rev h2).append (.one h1)
theorem pe_rev {te : TE} {p2 : Pos} {st : Expr} (he : PE X e te) (hst : PE X st (fun σ H Q => Q (.int (-1)) H)) : PE X (.Subscript e (.Slice none none (some st) p2) pos) (fun σ H Q => te σ H fun x H1 => ∃ a xs, x = .ref a ∧ H1 a = some (.lst xs) ∧ ∀ p, H1 p = none → Q (.ref p) (upd H1 p (.lst xs.reverse))) := by
  refine ⟨fun pins s σ H Q I h => ?_⟩
  refine Subscript_ (thn (he.run pins s σ H _ I h) fun v s1 ⟨x, H1, I1, r1, a, xs, ex, ha, q1⟩ => ?_)
  subst ex
  cases r1
  refine wpAny_Slice ?_
  rw [evalPart_none]
  refine wpAny_pure ?_
  refine wpAny_pure ?_
  rw [evalPart_some]
  refine thn (hst.run pins s1 σ H1 (fun x H2 => x = .int (-1) ∧ H2 = H1) I1 ⟨rfl, rfl⟩) fun u s2 ⟨x2, H2, I2, r2, e2, e3⟩ => ?_
  subst e2 e3
  obtain ⟨t, rfl⟩ := r2
  have I3 : Inv X pins σ H2 { s2 with heap := s2.heap.push { cls := .type "slice", data := .fields #[.none, .none, .int (-1) t] } } := I2.kept (t' := s2.toks) fun b ob q => Heap.get?_push_of_some _ q
  obtain ⟨its, r, ht, hz⟩ := I3.list (SqL.of ha)
  show wpAny (model X.prog X.w) X.A (subscriptTail e (.Slice none none (some st) p2) (.ref a) (.ref s2.heap.objs.size)) (EP X pins σ Q) X.xe { s2 with heap := s2.heap.push { cls := .type "slice", data := .fields #[.none, .none, .int (-1) t] } }
  refine tail_any (ops := [.ref a, .ref s2.heap.objs.size]) ht.isList.typeIs list_getitem_lookup ?_ (by with_unfolding_all rfl)
  refine wpAny_getItem_list_slice ht.isList (Heap.IsSliceOf.new ..) .none .none (.int (-1) t) (by decide) ?_ (by have := r.length; rw [List.size_toArray]; omega)
  rw [slicePick_rev]
  refine ⟨.ref _, _, I3.laid (t' := s2.toks) (o := .lst xs.reverse) (fun b ob q => Heap.get?_push_of_some _ q) (Nat.le_refl _) ?_, rfl, q1 _ (I3.hok.fresh (Nat.le_refl _))⟩
  exact ⟨by rw [List.length_reverse]; exact hz, _, 0, (L2.Vals.reverse r), Heap.get?_push_size _ rfl⟩
theorem snd_rev {p2 : Pos} {st : Expr} (hst : PE X st (fun σ H Q => Q (.int (-1)) H)) (ha : Snd fa ca X a da) : Snd fa ca X (.Subscript a (.Slice none none (some st) p2) pos) (xBi bRev [da]) := fun W tk N H σ E Q s p => by
  refine of_pe (pe_rev (peE (e := a)) hst) ?_
  show tE X a σ H _
  have p' : Post ca W H σ (fun r => ∀ v H', Sub H H' → RR fa X.K N H H' σ E v r → Q v H') ((da E).bd fun r => match bRev [r.d] with | some (d, fr) => .ok (mk fr d (kcL [r])) | none => .bad) := by
    have z := p
    unfold xBi evs evs at z
    simp only [R.bd_assoc] at z
    exact z
  refine ha.bd tk s (Sub.refl _) p' fun r x H1 e1 g1 r1 p1 => ?_
  have k1 := r1.kid s g1
  cases hd : r.d <;> simp only [hd, bRev] at p1 k1 <;> try exact p1.elim
  obtain ⟨ap, vs, rfl, h1, h2⟩ := k1
  refine ⟨ap, vs, rfl, h1, fun p np => p1 _ _ (g1.trans (sub_upd np)) ?_⟩
  refine (NewR.rr (fr := true) (p := kcL [r]) s g1 (NewR.list np hide_sub ?_))
  refine RepL.sub (hide_dep fun i h => ?_) _ _ h2.rev
  simpa [kcL] using h
end
end Rt
end
section
set_option linter.all false
set_option autoImplicit false
set_option Elab.async false
set_option maxRecDepth 100000
set_option maxHeartbeats 3200000
namespace Rt
open PySem PySem.Spec PyProof.Rows L2
section
variable {fa ca : Nat → Addr} {X : Cx} {a b c e o tg iter tg1 iter1 elt kx : Expr} {da db dc dO dk : Ex} {pos : Pos} {it it1 : Itr}
/-- a new object L of the block's own is written -/
theorem SR.wrL {K : PySem.W.Frag} {N : Addr → Prop} {H : Hp} {σ : L2.St} {E : Env} {L : Addr} {o' : HO} (s : SR fa K (fun b => N b ∨ b = L) H σ E) (ne : ∀ (i : Nat) (d : D), E[i]? = some (some (d, true)) → σ[i]? ≠ some (some (V.ref L))) (hm : Mb o') : SR fa K (fun b => N b ∨ b = L) (upd H L o') σ E := by
  have eh : hide (upd H L o') (fun b => N b ∨ b = L) = hide H (fun b => N b ∨ b = L) := hide_upd (.inr rfl)
  exact {
    len := s.len
    sub := fun b n => by
      by_cases e : b = L
      · subst e; exact ⟨o', upd_same, hm⟩
      · obtain ⟨o, q, m⟩ := s.sub b n
        exact ⟨o, by rw [upd_ne e]; exact q, m⟩
    fz := fun i d e => by rw [eh]; exact s.fz i d e
    ow := fun i d e => by
      obtain ⟨ad, q1, q2, q3⟩ := s.ow i d e
      refine ⟨ad, q1, q2, ?_⟩
      rw [eh]
      have hne : ad ≠ L := fun z => ne i d e (z ▸ q1)
      cases d <;> simp only [Top] at q3 ⊢ <;> try exact q3
      · rw [upd_ne hne]; exact q3
      · rw [upd_ne hne]; exact q3
    inj := s.inj }
def bI (X : Cx) (scope : Scope) (tg iter : Expr) : TI := fun σ H R => ∀ (s0 : Shared) (H0 : Hp) (C : Addr) (cl : List (Str × Addr)) (fp : List Addr), tI (blkN X scope s0 H0 C cl fp) tg iter σ H R
theorem pi_b {scope : Scope} : ∀ (s : Shared) (H : Hp) (C : Addr) (cl : List (Str × Addr)) (fp : List Addr), PI (blkN X scope s H C cl fp) tg iter (bI X scope tg iter) := fun s0 H0 C cl fp => ⟨fun pins st σ H R I h => h s0 H0 C cl fp pins st I⟩
theorem isEmpty_nil {α : Type} {l : List α} (h : l.isEmpty = true) : l = [] := by cases l <;> simp at h ⊢
/-! ## dict comprehensions -/
theorem dc_read {ifs : List Expr} {scope : Scope} {own is : List Nat} {g : Tg} {t : Tst} {W : WX} {N : Addr → Prop} {H : Hp} {σ : L2.St} {E : Env} {Q : VK} (hi : SndI fa ca X tg iter it) (his : ∀ i ∈ is, i ∈ own)
    (hg : ∀ (s : Shared) (H : Hp) (C : Addr) (cl : List (Str × Addr)) (fp : List Addr), SndG fa (blkN X scope s H C cl fp) tg is g)
    (ht : ∀ (s : Shared) (H : Hp) (C : Addr) (cl : List (Str × Addr)) (fp : List Addr), SndTs fa ca (blkN X scope s H C cl fp) ifs t)
    (hk : ∀ (s : Shared) (H : Hp) (C : Addr) (cl : List (Str × Addr)) (fp : List Addr), Snd fa ca (blkN X scope s H C cl fp) kx dk)
    (he : ∀ (s : Shared) (H : Hp) (C : Addr) (cl : List (Str × Addr)) (fp : List Addr), Snd fa ca (blkN X scope s H C cl fp) elt da)
    (tk : Takes X W) (s : SR fa X.K N H σ E) (p : Post ca W H σ (fun r => ∀ v H', Sub H H' → RR fa X.K N H H' σ E v r → Q v H') (xDC own it g t dk da E)) :
    tDc (tI X tg iter) (bG X scope tg) (bT X scope ifs) (bE X scope kx) (bE X scope elt) own σ H Q := by
  unfold xDC at p
  refine hi.bd tk s (Sub.refl _) p fun q J H1 e1 g1 wk p1 => ?_
  intro L nL
  cases ql : dcGo g t dk da (wipeE own E) q.1 [] [] with
  | ex c x => rw [ql] at p1; exact p1.elim
  | bad => rw [ql] at p1; exact p1.elim
  | ok w =>
    rw [ql] at p1
    dsimp only at p1
    refine ⟨fun i m H2 => m = q.1.length - i ∧ i ≤ q.1.length ∧ Sub H1 H2 ∧ ∃ (kvs : List (Key × V)) (vs : List D), H2 L = some (.dK kvs) ∧ RepL fa X.K (hide H2 fun b => N b ∨ b = L) vs (kvs.map (·.2)) ∧
      dcGo g t dk da (wipeE own E) (q.1.drop i) (kvs.map fun p => keyD p.1) vs = .ok w, ⟨_, rfl, Nat.zero_le _, sub_upd nL, [], [], upd_same, RepL.nil_, by simpa using ql⟩, ?_⟩
    rintro i m H2 ⟨rfl, hil, g2, kvs, vs, hL, hr, hl⟩
    have nL0 : H L = none := g1.none nL
    have zt : Sub (hide H1 (del N σ q.2)) H2 := fun b o e => g2 _ _ (hide_sub _ _ e)
    have zi : Sub (hide H1 N) H2 := fun b o e => g2 _ _ (hide_sub _ _ e)
    by_cases hlt : i < q.1.length
    · have hdr : q.1.drop i = q.1[i] :: q.1.drop (i + 1) := (List.getElem_cons_drop hlt).symm
      rw [hdr] at hl
      unfold dcGo at hl
      obtain ⟨jg, jy⟩ := wk.go i H2 q.1[i] zt zi (List.getElem?_eq_getElem hlt)
      refine .inr ⟨jg, fun H' => Sub H1 H' ∧ ∃ (kvs : List (Key × V)) (vs : List D), H' L = some (.dK kvs) ∧ RepL fa X.K (hide H' fun b => N b ∨ b = L) vs (kvs.map (·.2)) ∧
        dcGo g t dk da (wipeE own E) (q.1.drop (i + 1)) (kvs.map fun p => keyD p.1) vs = .ok w, fun H' ⟨k1, k2⟩ => ⟨q.1.length - (i + 1), by omega, rfl, hlt, k1, k2⟩, fun x H3 y3 => ?_⟩
      obtain ⟨g3, rx⟩ := jy x H3 y3
      have hL3 : H3 L = some (.dK kvs) := g3 _ _ hL
      have sB : SR fa X.K (fun b => N b ∨ b = L) H3 (L2.wipe σ own) (wipeE own E) := (s.wipe own).also ((g1.trans g2).trans g3) nL0 hL3 trivial
      have rx' : Rep fa X.K (hide H3 fun b => N b ∨ b = L) q.1[i] x := Rep.sub (fun b o e => by
        cases z : H2 b with
        | none =>
          simp only [z] at e
          rw [hide_at fun n => ?_]
          · exact e
          · rcases n with n | n
            · obtain ⟨u, q1, _⟩ := s.sub b n
              rw [g2 _ _ (g1 _ _ q1)] at z; cases z
            · rw [n, hL] at z; cases z
        | some u =>
          simp only [z] at e
          refine hide_mono (g2.trans g3) (fun b o e n => ?_) b o e
          rcases n with n | n
          · exact n
          · rw [n, nL] at e; cases e) _ _ rx
      cases qg : g q.1[i] (wipeE own E) with
      | none => rw [qg] at hl; cases hl
      | some E2 =>
        simp only [qg] at hl
        intro s0 H0 C cl fp
        refine (hg s0 H0 C cl fp).run _ H3 _ _ _ x E2 _ sB rx' qg fun σ2 s2 ⟨b2, c2, l2, _⟩ => ?_
        have bo : But own (L2.wipe σ own) σ2 := fun j nj => b2 j fun z => nj (his j z)
        refine ⟨wipe_but bo l2, ?_⟩
        intro s0 H0 C cl fp
        refine ht s0 H0 C cl fp _ takes_none5 _ H3 σ2 E2 _ s2 ?_
        cases qt : t E2 with
        | ex c x => rw [qt] at hl; cases hl
        | bad => rw [qt] at hl; cases hl
        | ok k =>
          intro H4 g4
          cases k with
          | false =>
            simp only [qt] at hl
            simp only [Bool.false_eq_true, if_false]
            exact ⟨(g2.trans g3).trans g4, kvs, vs, g4 _ _ hL3, RepL.sub (hide_mono (g3.trans g4) fun _ _ _ n => n) _ _ hr, hl⟩
          | true =>
            simp only [qt] at hl
            simp only [if_true]
            intro s0 H0 C cl fp
            refine hk s0 H0 C cl fp _ takes_none5 _ H4 σ2 E2 _ (s2.grow g4) ?_
            cases qk : dk E2 with
            | ex c x => rw [qk] at hl; cases hl
            | bad => rw [qk] at hl; cases hl
            | ok r =>
              simp only [qk] at hl
              split at hl
              case isFalse => cases hl
              rename_i ck
              simp only [Bool.and_eq_true, decide_eq_true_eq] at ck
              obtain ⟨key, ek⟩ := isKey_is ck.1
              intro y H5 g5 rr
              intro s0 H0 C cl fp
              refine he s0 H0 C cl fp _ takes_none5 _ H5 σ2 E2 _ (s2.grow (g4.trans g5)) ?_
              cases qe : da E2 with
              | ex c x => rw [qe] at hl; cases hl
              | bad => rw [qe] at hl; cases hl
              | ok r' =>
                simp only [qe] at hl
                split at hl
                case isFalse => cases hl
                rename_i ce
                have ekp := isEmpty_nil ce
                intro v H6 g6 rr'
                have hL6 : H6 L = some (.dK kvs) := g6 _ _ (g5 _ _ (g4 _ _ hL3))
                have al := rr'.all (s2.grow (g4.trans g5)) g6
                rw [ekp] at al
                have g26 : Sub H2 H6 := ((g3.trans g4).trans g5).trans g6
                have k2 := rr.kid (s2.grow g4) g5
                rw [ek] at k2 hl
                have ey := k2.key
                subst ey
                have sh : Sub (hide H6 fun b => N b ∨ b = L) (hide (upd H6 L (.dK (putK kvs key v))) fun b => N b ∨ b = L) := by
                  rw [hide_upd (p := L) (.inr rfl)]; exact Sub.refl _
                have hr6 : RepL fa X.K (hide (upd H6 L (.dK (putK kvs key v))) fun b => N b ∨ b = L) vs (kvs.map (·.2)) := RepL.sub (Sub.trans (hide_mono g26 fun _ _ _ n => n) sh) _ _ hr
                have al6 : Rep fa X.K (hide (upd H6 L (.dK (putK kvs key v))) fun b => N b ∨ b = L) r'.d v := Rep.sub (Sub.trans (hide_mono (Sub.refl _) fun b o _ n => del_nil.mpr n) sh) _ _ al
                have dv := dkPut_val (k := key) al6 hr6
                refine ⟨kvs, key, rfl, hL6, ?_, ?_, putK kvs key v, _, upd_same, dv.2, ?_⟩
                · rw [← line_eq]
                  simpa using ck.2
                · exact fun b o e => by
                    have ne : b ≠ L := ne_of_none e nL
                    rw [upd_ne ne]
                    exact g26 _ _ (g2 _ _ e)
                · rw [← dv.1]; exact hl
    · have ei : i = q.1.length := by omega
      subst ei
      rw [List.drop_length] at hl
      have ew : w = (kvs.map (fun p => keyD p.1), vs) := by
        unfold dcGo at hl
        cases hl; rfl
      subst ew
      exact .inl ⟨wk.stop _ H2 zt zi (Nat.le_refl _), p1 _ H2 (g1.trans g2) (rr_mkN s (g1.trans g2) nL0 ⟨kvs, hL, rfl, RepL.sub (hide_mono (Sub.refl _) fun b o _ n => n.elim (fun n => .inl (del_nil.mp n)) .inr) _ _ hr⟩)⟩
theorem snd_dc {ifs : List Expr} {scope : Scope} {own : List (Str × Nat)} {is : List Nat} {g : Tg} {t : Tst} (hc : X.calm = true) (hN : X.N.Nodup) (hi : SndI fa ca X tg iter it) (ok : BlkOk X.N X.env.scope scope own) (his : ∀ i ∈ is, i ∈ own.map (·.2))
    (hg : ∀ (s : Shared) (H : Hp) (C : Addr) (cl : List (Str × Addr)) (fp : List Addr), SndG fa (blkN X scope s H C cl fp) tg is g)
    (ht : ∀ (s : Shared) (H : Hp) (C : Addr) (cl : List (Str × Addr)) (fp : List Addr), SndTs fa ca (blkN X scope s H C cl fp) ifs t)
    (hk : ∀ (s : Shared) (H : Hp) (C : Addr) (cl : List (Str × Addr)) (fp : List Addr), Snd fa ca (blkN X scope s H C cl fp) kx dk)
    (he : ∀ (s : Shared) (H : Hp) (C : Addr) (cl : List (Str × Addr)) (fp : List Addr), Snd fa ca (blkN X scope s H C cl fp) elt da) (hs : ∀ x, foldedSetIterable iter X.env x = pure x) :
    Snd fa ca X (.DictComp kx elt [⟨tg, iter, ifs, 0⟩] scope pos) (xDC (own.map (·.2)) it g t dk da) := fun W tk N H σ E Q s p =>
  of_pe (pe_dc (own := own) hc hN piI ok pg_b pt_b pe_b pe_b hs) (dc_read hi his hg ht hk he tk s p)
/-! ## list comprehensions of two fors -/
theorem lc2_read {ifs ifs1 : List Expr} {scope : Scope} {own is js : List Nat} {g g1 : Tg} {t t1 : Tst} {W : WX} {N : Addr → Prop} {H : Hp} {σ : L2.St} {E : Env} {Q : VK} (hi : SndI fa ca X tg iter it) (his : ∀ i ∈ is, i ∈ own)
    (hg : ∀ (s : Shared) (H : Hp) (C : Addr) (cl : List (Str × Addr)) (fp : List Addr), SndG fa (blkN X scope s H C cl fp) tg is g)
    (ht : ∀ (s : Shared) (H : Hp) (C : Addr) (cl : List (Str × Addr)) (fp : List Addr), SndTs fa ca (blkN X scope s H C cl fp) ifs t)
    (hi1 : ∀ (s : Shared) (H : Hp) (C : Addr) (cl : List (Str × Addr)) (fp : List Addr), SndI fa ca (blkN X scope s H C cl fp) tg1 iter1 it1)
    (hg1 : ∀ (s : Shared) (H : Hp) (C : Addr) (cl : List (Str × Addr)) (fp : List Addr), SndG fa (blkN X scope s H C cl fp) tg1 js g1)
    (ht1 : ∀ (s : Shared) (H : Hp) (C : Addr) (cl : List (Str × Addr)) (fp : List Addr), SndTs fa ca (blkN X scope s H C cl fp) ifs1 t1)
    (he : ∀ (s : Shared) (H : Hp) (C : Addr) (cl : List (Str × Addr)) (fp : List Addr), Snd fa ca (blkN X scope s H C cl fp) elt da)
    (tk : Takes X W) (s : SR fa X.K N H σ E) (p : Post ca W H σ (fun r => ∀ v H', Sub H H' → RR fa X.K N H H' σ E v r → Q v H') (xLC2 own js it g t it1 g1 t1 da E)) :
    tLc2 (tI X tg iter) (bG X scope tg) (bT X scope ifs) (bI X scope tg1 iter1) (bG X scope tg1) (bT X scope ifs1) (bE X scope elt) own js σ H Q := by
  unfold xLC2 at p
  refine hi.bd tk s (Sub.refl _) p fun q J H1 e1 gg1 wk p1 => ?_
  intro L nL
  cases ql : lc2Go js g t it1 g1 t1 da (wipeE own E) q.1 with
  | ex c x => rw [ql] at p1; exact p1.elim
  | bad => rw [ql] at p1; exact p1.elim
  | ok w =>
    rw [ql] at p1
    dsimp only at p1
    split at p1
    case isFalse => exact p1.elim
    rename_i wl
    refine ⟨fun i m H2 => m = q.1.length - i ∧ i ≤ q.1.length ∧ Sub H1 H2 ∧ ∃ acc ds w', H2 L = some (.lst acc) ∧ RepL fa X.K (hide H2 fun b => N b ∨ b = L) ds acc ∧
      lc2Go js g t it1 g1 t1 da (wipeE own E) (q.1.drop i) = .ok w' ∧ ds ++ w' = w, ⟨_, rfl, Nat.zero_le _, sub_upd nL, [], [], w, upd_same, RepL.nil_, by simpa using ql, rfl⟩, ?_⟩
    rintro i m H2 ⟨rfl, hil, g2, acc, ds, w', hL, hr, hl, hw⟩
    have nL0 : H L = none := gg1.none nL
    have zt : Sub (hide H1 (del N σ q.2)) H2 := fun b o e => g2 _ _ (hide_sub _ _ e)
    have zi : Sub (hide H1 N) H2 := fun b o e => g2 _ _ (hide_sub _ _ e)
    by_cases hlt : i < q.1.length
    · have hdr : q.1.drop i = q.1[i] :: q.1.drop (i + 1) := (List.getElem_cons_drop hlt).symm
      rw [hdr] at hl
      unfold lc2Go at hl
      obtain ⟨jg, jy⟩ := wk.go i H2 q.1[i] zt zi (List.getElem?_eq_getElem hlt)
      refine .inr ⟨jg, fun H' => Sub H1 H' ∧ ∃ acc ds w', H' L = some (.lst acc) ∧ RepL fa X.K (hide H' fun b => N b ∨ b = L) ds acc ∧
        lc2Go js g t it1 g1 t1 da (wipeE own E) (q.1.drop (i + 1)) = .ok w' ∧ ds ++ w' = w, fun H' ⟨k1, k2⟩ => ⟨q.1.length - (i + 1), by omega, rfl, hlt, k1, k2⟩, fun x H3 y3 => ?_⟩
      obtain ⟨g3, rx⟩ := jy x H3 y3
      have hL3 : H3 L = some (.lst acc) := g3 _ _ hL
      have sB : SR fa X.K (fun b => N b ∨ b = L) H3 (L2.wipe σ own) (wipeE own E) := (s.wipe own).also ((gg1.trans g2).trans g3) nL0 hL3 trivial
      have rx' : Rep fa X.K (hide H3 fun b => N b ∨ b = L) q.1[i] x := Rep.sub (fun b o e => by
        cases z : H2 b with
        | none =>
          simp only [z] at e
          rw [hide_at fun n => ?_]
          · exact e
          · rcases n with n | n
            · obtain ⟨u, q1, _⟩ := s.sub b n
              rw [g2 _ _ (gg1 _ _ q1)] at z; cases z
            · rw [n, hL] at z; cases z
        | some u =>
          simp only [z] at e
          refine hide_mono (g2.trans g3) (fun b o e n => ?_) b o e
          rcases n with n | n
          · exact n
          · rw [n, nL] at e; cases e) _ _ rx
      cases qg : g q.1[i] (wipeE own E) with
      | none => rw [qg] at hl; cases hl
      | some E2 =>
        simp only [qg] at hl
        intro s0 H0 C cl fp
        refine (hg s0 H0 C cl fp).run _ H3 _ _ _ x E2 _ sB rx' qg fun σ2 s2 m2 => ?_
        obtain ⟨b2, c2, l2, o2⟩ := m2
        have bo : But own (L2.wipe σ own) σ2 := fun j nj => b2 j fun z => nj (his j z)
        -- what is owned is no new list
        have ne2 : ∀ (i : Nat) (d : D), E2[i]? = some (some (d, true)) → σ2[i]? ≠ some (some (V.ref L)) := fun i d e z => by
          obtain ⟨q1, q2⟩ := o2 i d e
          obtain ⟨q3, q4⟩ := wipeE_some q1
          rw [wipe_get q3] at q2
          obtain ⟨ad, y1, y2, _⟩ := s.ow i d q4
          rw [← q2, z] at y1
          cases y1
          obtain ⟨u, z1, _⟩ := s.sub _ y2
          rw [nL0] at z1; cases z1
        refine ⟨wipe_but bo l2, ?_⟩
        intro s0 H0 C cl fp
        refine ht s0 H0 C cl fp _ takes_none5 _ H3 σ2 E2 _ s2 ?_
        cases qt : t E2 with
        | ex c x => rw [qt] at hl; cases hl
        | bad => rw [qt] at hl; cases hl
        | ok k =>
          intro H4 g4
          cases k with
          | false =>
            simp only [qt] at hl
            simp only [Bool.false_eq_true, if_false]
            exact ⟨(g2.trans g3).trans g4, acc, ds, w', g4 _ _ hL3, RepL.sub (hide_mono (g3.trans g4) fun _ _ _ n => n) _ _ hr, hl, hw⟩
          | true =>
            simp only [qt] at hl
            simp only [if_true]
            intro s0 H0 C cl fp
            refine hi1 s0 H0 C cl fp _ takes_none5 _ H4 σ2 E2 _ (s2.grow g4) ?_
            cases qi : it1 E2 with
            | ex c x => rw [qi] at hl; cases hl
            | bad => rw [qi] at hl; cases hl
            | ok q1 =>
              simp only [qi] at hl
              split at hl
              case isFalse => cases hl
              rename_i ci
              have eq2 := isEmpty_nil ci
              cases qc : lcGo js g1 t1 da (wipeE js E2) q1.1 with
              | ex c x => rw [qc] at hl; cases hl
              | bad => rw [qc] at hl; cases hl
              | ok w1 =>
                simp only [qc] at hl
                split at hl
                case isFalse => cases hl
                rename_i c1
                have ew1 := isEmpty_nil c1
                cases qr : lc2Go js g t it1 g1 t1 da (wipeE own E) (q.1.drop (i + 1)) with
                | ex c x => rw [qr] at hl; cases hl
                | bad => rw [qr] at hl; cases hl
                | ok w2 =>
                  rw [qr] at hl
                  have hl' : w' = w1.1 ++ w2 := by cases hl; rfl
                  subst hl'
                  intro J1 H5 g5 wk1
                  rw [eq2] at wk1
                  have hL5 : H5 L = some (.lst acc) := g5 _ _ (g4 _ _ hL3)
                  have g15 : Sub H1 H5 := ((g2.trans g3).trans g4).trans g5
                  refine ⟨fun j m H6 => m = q1.1.length - j ∧ j ≤ q1.1.length ∧ Sub H1 H6 ∧ Sub (hide H5 fun b => N b ∨ b = L) H6 ∧ SR fa X.K (fun b => N b ∨ b = L) H6 σ2 E2 ∧ ∃ acc ds w3, H6 L = some (.lst acc) ∧ RepL fa X.K (hide H6 fun b => N b ∨ b = L) ds acc ∧
                    lcGo js g1 t1 da (wipeE js E2) (q1.1.drop j) = .ok (w3, []) ∧ ds ++ (w3 ++ w2) = w, ⟨_, rfl, Nat.zero_le _, g15, hide_sub, s2.grow (g4.trans g5), acc, ds, w1.1, hL5, RepL.sub (hide_mono ((g3.trans g4).trans g5) fun _ _ _ n => n) _ _ hr, by
                      rw [List.drop_zero, qc]; obtain ⟨w11, w12⟩ := w1; dsimp only at ew1; rw [ew1], hw⟩, ?_⟩
                  rintro j m H6 ⟨rfl, hjl, g6, z6, s6, acc1, ds1, w3, hL6, hr6, hl6, hw6⟩
                  have zt1 : Sub (hide H5 (del (fun b => N b ∨ b = L) σ2 [])) H6 := Sub.trans (hide_mono (Sub.refl _) fun b o _ n => del_nil.mpr n) z6
                  by_cases hlt1 : j < q1.1.length
                  · have hdr1 : q1.1.drop j = q1.1[j] :: q1.1.drop (j + 1) := (List.getElem_cons_drop hlt1).symm
                    rw [hdr1] at hl6
                    unfold lcGo at hl6
                    obtain ⟨jg1, jy1⟩ := wk1.go j H6 q1.1[j] zt1 z6 (List.getElem?_eq_getElem hlt1)
                    refine .inr ⟨jg1, fun H6 => Sub H1 H6 ∧ Sub (hide H5 fun b => N b ∨ b = L) H6 ∧ SR fa X.K (fun b => N b ∨ b = L) H6 σ2 E2 ∧ ∃ acc ds w3, H6 L = some (.lst acc) ∧ RepL fa X.K (hide H6 fun b => N b ∨ b = L) ds acc ∧
                      lcGo js g1 t1 da (wipeE js E2) (q1.1.drop (j + 1)) = .ok (w3, []) ∧ ds ++ (w3 ++ w2) = w, fun H' k => ⟨q1.1.length - (j + 1), by omega, rfl, hlt1, k⟩, fun x1 H7 y7 => ?_⟩
                    obtain ⟨g7, rx1⟩ := jy1 x1 H7 y7
                    have hL7 := g7 _ _ hL6
                    have rx1' : Rep fa X.K (hide H7 fun b => N b ∨ b = L) q1.1[j] x1 := Rep.sub (fun b o e => by
                      cases z : H6 b with
                      | none =>
                        simp only [z] at e
                        rw [hide_at fun n => ?_]
                        · exact e
                        · obtain ⟨u, y1, _⟩ := s6.sub b n
                          rw [y1] at z; cases z
                      | some u =>
                        simp only [z] at e
                        have nb : ¬ (N b ∨ b = L) := fun n => by rw [hide_in n] at e; cases e
                        rw [hide_at nb]
                        exact g7 _ _ (z6 _ _ e)) _ _ rx1
                    cases qg1 : g1 q1.1[j] (wipeE js E2) with
                    | none => rw [qg1] at hl6; cases hl6
                    | some E3 =>
                      simp only [qg1] at hl6
                      intro s0 H0 C cl fp
                      refine (hg1 s0 H0 C cl fp).run _ H7 _ _ _ x1 E3 _ ((s6.grow g7).wipe js) rx1' qg1 fun σ3 s3 m3 => ?_
                      obtain ⟨b3, c3, l3, o3⟩ := m3
                      refine ⟨wipe_but b3 l3, ?_⟩
                      intro s0 H0 C cl fp
                      refine ht1 s0 H0 C cl fp _ takes_none5 _ H7 σ3 E3 _ s3 ?_
                      cases qt1 : t1 E3 with
                      | ex c x => rw [qt1] at hl6; cases hl6
                      | bad => rw [qt1] at hl6; cases hl6
                      | ok k1 =>
                        intro H8 g8
                        cases k1 with
                        | false =>
                          simp only [qt1] at hl6
                          simp only [Bool.false_eq_true, if_false]
                          exact ⟨(g6.trans g7).trans g8, (z6.trans g7).trans g8, s6.grow (g7.trans g8), acc1, ds1, w3, g8 _ _ hL7, RepL.sub (hide_mono (g7.trans g8) fun _ _ _ n => n) _ _ hr6, hl6, hw6⟩
                        | true =>
                          simp only [qt1] at hl6
                          simp only [if_true]
                          intro s0 H0 C cl fp
                          refine he s0 H0 C cl fp _ takes_none5 _ H8 σ3 E3 _ (s3.grow g8) ?_
                          cases qe : da E3 with
                          | ex c x => rw [qe] at hl6; cases hl6
                          | bad => rw [qe] at hl6; cases hl6
                          | ok r =>
                            simp only [qe] at hl6
                            split at hl6
                            case isFalse => cases hl6
                            cases qd : lcGo js g1 t1 da (wipeE js E2) (q1.1.drop (j + 1)) with
                            | ex c x => rw [qd] at hl6; cases hl6
                            | bad => rw [qd] at hl6; cases hl6
                            | ok w4 =>
                              rw [qd] at hl6
                              obtain ⟨w41, w42⟩ := w4
                              have hl7 : r.d :: w41 = w3 ∧ r.kp ++ w42 = [] := by
                                have z : (R.ok (r.d :: w41, r.kp ++ w42) : R (List D × List Nat)) = .ok (w3, []) := hl6
                                cases z' : r.kp ++ w42 with
                                | nil => rw [z'] at z; cases z; exact ⟨rfl, rfl⟩
                                | cons a b => rw [z'] at z; cases z
                              obtain ⟨rfl, hkk⟩ := hl7
                              obtain ⟨hk1, hk2⟩ := List.append_eq_nil_iff.mp hkk
                              subst hk2
                              intro v H9 g9 rr
                              have hL9 := g9 _ _ (g8 _ _ hL7)
                              have al := rr.all (s3.grow g8) g9
                              rw [hk1] at al
                              have g69 : Sub H6 H9 := (g7.trans g8).trans g9
                              have sh : Sub (hide H9 fun b => N b ∨ b = L) (hide (upd H9 L (.lst (acc1 ++ [v]))) fun b => N b ∨ b = L) := by
                                rw [hide_upd (p := L) (.inr rfl)]; exact Sub.refl _
                              refine ⟨acc1, hL9, ?_, ?_, ?_, (s6.grow g69).wrL ne2 trivial, acc1 ++ [v], ds1 ++ [r.d], w41, upd_same, ?_, rfl, by simpa using hw6⟩
                              · rw [← line_eq, ← hr6.length]
                                have : w.length = ds1.length + ((w41.length + 1) + w2.length) := by rw [← hw6]; simp; omega
                                omega
                              · exact fun b o e => by
                                  have ne : b ≠ L := ne_of_none e nL
                                  rw [upd_ne ne]
                                  exact g69 _ _ (g6 _ _ e)
                              · exact fun b o e => by
                                  have ne : b ≠ L := fun z => by rw [hide_in (.inr z)] at e; cases e
                                  rw [upd_ne ne]
                                  exact g69 _ _ (z6 _ _ e)
                              · exact RepL.append (RepL.sub (Sub.trans (hide_mono g69 fun _ _ _ n => n) sh) _ _ hr6) (.one (Rep.sub (Sub.trans (hide_mono (Sub.refl _) fun b o _ n => del_nil.mpr n) sh) _ _ al))
                  · have ei : j = q1.1.length := by omega
                    subst ei
                    rw [List.drop_length] at hl6
                    have ew : w3 = [] := by
                      unfold lcGo at hl6
                      cases hl6; rfl
                    subst ew
                    exact .inl ⟨wk1.stop _ H6 zt1 z6 (Nat.le_refl _), g6, acc1, ds1, w2, hL6, hr6, rfl, hw6⟩
    · have ei : i = q.1.length := by omega
      subst ei
      rw [List.drop_length] at hl
      have ew : w' = [] := by cases hl; rfl
      subst ew
      rw [List.append_nil] at hw
      subst hw
      exact .inl ⟨wk.stop _ H2 zt zi (Nat.le_refl _), p1 _ H2 (gg1.trans g2) (rr_mkN s (gg1.trans g2) nL0 ⟨acc, hL, RepL.sub (hide_mono (Sub.refl _) fun b o _ n => n.elim (fun n => .inl (del_nil.mp n)) .inr) _ _ hr⟩)⟩
theorem snd_lc2 {ifs ifs1 : List Expr} {scope : Scope} {own : List (Str × Nat)} {is js : List Nat} {g g1 : Tg} {t t1 : Tst} (hc : X.calm = true) (hN : X.N.Nodup) (hi : SndI fa ca X tg iter it) (ok : BlkOk X.N X.env.scope scope own) (his : ∀ i ∈ is, i ∈ own.map (·.2)) (hjs : ∀ i ∈ js, i ∈ own.map (·.2))
    (hg : ∀ (s : Shared) (H : Hp) (C : Addr) (cl : List (Str × Addr)) (fp : List Addr), SndG fa (blkN X scope s H C cl fp) tg is g)
    (ht : ∀ (s : Shared) (H : Hp) (C : Addr) (cl : List (Str × Addr)) (fp : List Addr), SndTs fa ca (blkN X scope s H C cl fp) ifs t)
    (hi1 : ∀ (s : Shared) (H : Hp) (C : Addr) (cl : List (Str × Addr)) (fp : List Addr), SndI fa ca (blkN X scope s H C cl fp) tg1 iter1 it1)
    (hg1 : ∀ (s : Shared) (H : Hp) (C : Addr) (cl : List (Str × Addr)) (fp : List Addr), SndG fa (blkN X scope s H C cl fp) tg1 js g1)
    (ht1 : ∀ (s : Shared) (H : Hp) (C : Addr) (cl : List (Str × Addr)) (fp : List Addr), SndTs fa ca (blkN X scope s H C cl fp) ifs1 t1)
    (he : ∀ (s : Shared) (H : Hp) (C : Addr) (cl : List (Str × Addr)) (fp : List Addr), Snd fa ca (blkN X scope s H C cl fp) elt da) (hs : ∀ x, foldedSetIterable iter X.env x = pure x) (hs1 : ∀ env x, foldedSetIterable iter1 env x = pure x) :
    Snd fa ca X (.ListComp elt [⟨tg, iter, ifs, 0⟩, ⟨tg1, iter1, ifs1, 0⟩] scope pos) (xLC2 (own.map (·.2)) js it g t it1 g1 t1 da) := fun W tk N H σ E Q s p =>
  of_pe (pe_lc2 (own := own) hc hN piI ok hjs pg_b pt_b pi_b pg_b pt_b pe_b hs hs1) (lc2_read hi his hg ht hi1 hg1 ht1 he tk s p)
theorem sndS_setLc2 {i : Nat} {y : Str} {p1 p2 : Pos} {ifs ifs1 : List Expr} {scope : Scope} {own : List (Str × Nat)} {is js : List Nat} {g g1 : Tg} {t t1 : Tst} (hc : X.calm = true) (hN : X.N.Nodup) (hy : X.N[i]? = some y) (hyl : X.env.scope.names.lookup y = some .local)
    (hsw : swapsWith (.ListComp elt [⟨tg, iter, ifs, 0⟩, ⟨tg1, iter1, ifs1, 0⟩] scope p2) (some (.Name y p1)) pos.line X.env = pure true) (hi : SndI fa ca X tg iter it) (ok : BlkOk X.N X.env.scope scope own) (his : ∀ i ∈ is, i ∈ own.map (·.2)) (hjs : ∀ i ∈ js, i ∈ own.map (·.2))
    (hg : ∀ (s : Shared) (H : Hp) (C : Addr) (cl : List (Str × Addr)) (fp : List Addr), SndG fa (blkN X scope s H C cl fp) tg is g)
    (ht : ∀ (s : Shared) (H : Hp) (C : Addr) (cl : List (Str × Addr)) (fp : List Addr), SndTs fa ca (blkN X scope s H C cl fp) ifs t)
    (hi1 : ∀ (s : Shared) (H : Hp) (C : Addr) (cl : List (Str × Addr)) (fp : List Addr), SndI fa ca (blkN X scope s H C cl fp) tg1 iter1 it1)
    (hg1 : ∀ (s : Shared) (H : Hp) (C : Addr) (cl : List (Str × Addr)) (fp : List Addr), SndG fa (blkN X scope s H C cl fp) tg1 js g1)
    (ht1 : ∀ (s : Shared) (H : Hp) (C : Addr) (cl : List (Str × Addr)) (fp : List Addr), SndTs fa ca (blkN X scope s H C cl fp) ifs1 t1)
    (he : ∀ (s : Shared) (H : Hp) (C : Addr) (cl : List (Str × Addr)) (fp : List Addr), Snd fa ca (blkN X scope s H C cl fp) elt da) (hs : ∀ x, foldedSetIterable iter X.env x = pure x) (hs1 : ∀ env x, foldedSetIterable iter1 env x = pure x) :
    SndS fa ca X (.Assign [.Name y p1] (.ListComp elt [⟨tg, iter, ifs, 0⟩, ⟨tg1, iter1, ifs1, 0⟩] scope p2) pos) (sSet i (xLC2 (own.map (·.2)) js it g t it1 g1 t1 da)) := fun W tk H0 U N H σ E D x p => by
  refine of_ps (ps_setLc2 (own := own) hc hN hy hyl hsw piI ok hjs pg_b pt_b pi_b pg_b pt_b pe_b hs hs1) ?_
  have p' : PostS fa ca X.K W H0 U D (hide H N) ((xLC2 (own.map (·.2)) js it g t it1 g1 t1 da E).to E fun r => Rt.frzO r.kp E fun σ' => if i < E.length then .nx (σ'.set i (some (r.d, r.isNw))) else .bad) := p
  exact lc2_read (Q := fun v H1 => D.nx (σ.set i (some v)) H1) hi his hg ht hi1 hg1 ht1 he tk x.sr ((p'.to x.fs.sub).imp fun r _ q v H1 g rr => set_nx x g rr q)
end
end Rt
end
section
set_option linter.all false
set_option autoImplicit false
set_option Elab.async false
set_option maxRecDepth 100000
set_option maxHeartbeats 2000000
namespace Rt
open PySem PySem.Calls PyProof.Rows
open PySem.W
/-! ### the errors: ScheduleError's __init__ says super().__init__(at) -/
def eA (p1 p2 : Pos) : Arguments := { posonlyargs := [], args := [{ arg := "self", annotation := none, pos := p1 }, { arg := "at", annotation := none, pos := p2 }], vararg := none, kwonlyargs := [], kw_defaults := [], kwarg := none, defaults := [] }
def eB (q1 q2 q3 q4 q5 q6 q7 q8 q9 q10 : Pos) : List Stmt := [.Expr (.Call (.Attribute (.Call (.Name "super" q1) [] [] q2) "__init__" q3) [.Name "at" q4] [] q5) q6, .Assign [.Attribute (.Name "self" q7) "at" q8] (.Name "at" q9) q10]
def eS : Scope := { kind := .function, names := [(PySem.Str.ofString "self", .local), (PySem.Str.ofString "at", .local), (PySem.Str.ofString "__class__", .free), (PySem.Str.ofString "super", .globalImplicit)], isGenerator := false, isCoroutine := false, more := [] }
/-- the base class, at D; its __init__, at fI -/
structure ErrB (P : Program) (K : Frag) (mg : Str → Option Value) (D fI : Addr) : Prop where
  fn : ∃ (oc : Value) (od : Option Addr) (q : Str) (doc pm : Value) (an : Option Addr) (cda : Addr) (ct : Value) (cc : Addr) (osl : Array (Option Value)) (p1 p2 q1 q2 q3 q4 q5 q6 q7 q8 q9 q10 : Pos),
    (q3.endLine == q5.line) = true ∧ K.lookup fI = some ⟨oc, od, .func (ksFn "__init__" q (eA p1 p2) (eB q1 q2 q3 q4 q5 q6 q7 q8 q9 q10) eS .none .none doc pm an (.ref cda) ct cc), osl⟩ ∧ codeIn K (.ref cda) q = true ∧
    (∃ (ccl : Value) (cdd : Option Addr) (vs : Array Value) (ccs : Array (Option Value)) (file : Str) (tf : Tok), K.lookup cda = some ⟨ccl, cdd, .fields vs, ccs⟩ ∧ vs[2]? = some (.str file tf) ∧ ((P.main.file : Str) == file) = true) ∧
    ∃ (cl : Value) (cld : Option Addr) (csl : Array (Option Value)), K.lookup cc = some ⟨cl, cld, .cell (some (.ref D)), csl⟩
  cls : ∃ cd, clsIn K D = some cd
  opq : nsIn K cStatics "thirdparty.any" = some none
  sup : mg "super" = none
  top : (P.main.scope.names.lookup ("super" : Str)).isSome = false
  tC : typeIn K (.ref fI) = some (.type "function")
/-- a class of it, at C -/
structure ErrC (K : Frag) (D fI C : Addr) : Prop where
  cls : ∃ nm q N bs bm sn sub ab col dd k0 k1 k2 k3 k5, K.lookup C = some (excClassObj nm q C N bs bm true sn sub ab col dd k0 k1 k2 k3 k5 "ValueError.__new__") ∧ HandSPX.refsVE bm = true
  sa : findIn K (.ref C) "__setattr__" = some (some (.builtin "object.__setattr__"))
  ga : findIn K (.ref C) "__getattribute__" = some (some (.builtin "BaseException.__getattribute__"))
  gg : findIn K (.ref C) "__getattr__" = some none
  noN : findIn K (.ref C) "at" = some none
  iC : findIn K (.ref C) "__init__" = some (some (.ref fI))
  kC : keepIn K (.ref C) = true
  exC : subIn K (.ref C) (.type "BaseException") = some true
  tyC : typeIn K (.ref C) = some (.type "type")
  hdC : hasDictIn K C = true
  sup : ks_superIn K C D "__init__" = some (some (.builtin "ValueError.__init__"))
  sub : mroIn K C (.ref D) = some true
  ve : subIn K (.ref C) (.type "ValueError") = some true
theorem eS_cell : ∀ x ∈ eS.names, x.2 ≠ .cell := by decide
theorem call_attr {o e : Expr} {name : Str} {apos pos : Pos} {env : PySem.Env} (hline : (apos.endLine == pos.line) = true) (hs : starEach [e] env = [(false, eval e env)]) : eval (.Call (.Attribute o name apos) [e] [] pos) env = (do
      let ov ← attributeBase o name env (eval o env)
      standAt apos.atName
      let (f, first) ← holding [ov] (getMethod ov name (do return (← importBound o env).getD true))
      callWith pos f first (backTo pos (starEach [e] env)) []) := by
  show (do
    let ov ← attributeBase o name env (eval o env)
    standAt apos.atName
    methodCall o name apos pos env ov ([e].length + ([] : List Keyword).length) (backTo pos (starEach [e] env)) (backToKw pos (keywordEach [] env))) = _
  have hform : methodCallForm ([e].length + ([] : List Keyword).length) (backTo pos (starEach [e] env)) (backToKw pos (keywordEach [] env)) = true := by rw [hs]; rfl
  unfold methodCall
  rw [hform]
  have hpos : methodCallPos true o env apos pos = pure pos := by unfold methodCallPos; simp [hline]
  rw [hpos]
  rfl
theorem sz1 (v : Value) : [v].length ≤ sizeLine := by
  rw [sizeLine_eq]
  exact (by decide : 1 ≤ 16777216)
theorem in_but {K : Frag} {h h' : Heap} {x : Addr} (X : K.In h) (hx : K.lookup x = none) (k : ∀ b o, b ≠ x → h.get? b = some o → h'.get? b = some o) : K.In h' := fun a o e =>
  k a o (fun z => by rw [z, hx] at e; cases e) (X a o e)
/-- what is left of an exception that was fresh -/
structure ErrEnd (h h' : Heap) (x C dx t1 : Addr) (v : Value) : Prop where
  keep : ∀ b o, b ≠ x → h.get? b = some o → h'.get? b = some o
  obj : h'.get? x = some { cls := .ref C, dict := some dx, data := .fields #[.ref t1, .none, .none, .none, .bool false, .none] }
  dbig : h.objs.size ≤ dx
  dne : dx ≠ x
  ns : h'.Ns1 dx (fun y => if y = "at" then some v else none)
structure ErrMade (h h' : Heap) (e C d : Addr) (v : Value) : Prop where
  keep : ∀ b o, h.get? b = some o → h'.get? b = some o
  new : h.objs.size ≤ e
  obj : ∃ oe vs, h'.get? e = some oe ∧ oe.cls = .ref C ∧ oe.dict = some d ∧ oe.data = .fields vs ∧ vs[1]? = some .none
  dbig : h.objs.size ≤ d
  dne : d ≠ e
  ns : h'.Ns1 d (fun y => if y = "at" then some v else none)
section
variable {prog : Program} {w : World} {A : Around} {E : Value → Shared → Prop} {R : Result → Shared → Prop} {s : Shared} {K : Frag} {mg mb : Str → Option Value} {D C fI : Addr}
theorem ld_loc {env : PySem.Env} {m : Str → Option Value} {x : Str} {pos : Pos} {v : Value} {Q : Value → Shared → Prop} (hn : s.heap.Ns env.locals m) (hv : m x = some v) (h : Q v s) (hk : env.scope.kind = .function) (hl : env.kindOf x = some .local) (hd : (x == ("__debug__" : Str)) = false) :
    wpAny (model prog w) A (eval (.Name x pos) env) Q E s := wpAny_Name (wpAny_loadName_local hk hl hn hv h) hd
theorem err_init (B : ErrB prog K mg D fI) (T : ErrC K D fI C) {x t0 : Addr} {v : Value} (X : K.In s.heap) (G : s.heap.Ns mainGlobals mg) (Bn : s.heap.Ns builtinsNs mb) (hb : mb "super" = bootBuiltins "super") (hlim : s.heap.NoLimit)
    (hx : s.heap.get? x = some (HandSPX.excO C t0)) (hnx : K.lookup x = none) (hgx : x ≠ mainGlobals) (hbx : x ≠ builtinsNs) (hroom : A.depth < recursionLimit) (hq : ∀ h' tk dx t1, ErrEnd s.heap h' x C dx t1 v → R (.ok (.ret .none)) { s with heap := h', toks := tk }) :
    codeAny (model prog w) A (.call (.ref fI) ⟨[.ref x, v], []⟩) R s := by
  obtain ⟨oc, od, q, doc, pm, an, cda, ct, cc, osl, p1, p2, q1, q2, q3, q4, q5, q6, q7, q8, q9, q10, hline, ho, hcd, ⟨ccl, cdd, vs, ccs, file, tf, hco, hvs, hfile⟩, cl, cld, csl, hce⟩ := B.fn
  obtain ⟨cdD, hD⟩ := B.cls
  obtain ⟨nm, qn, N, bs, bm, sn, sub, ab, col, dd, k0, k1, k2, k3, k5, hC, hbm⟩ := T.cls
  have hcl : clsIn K C = some { name := nm, bases := bs, mro := .ref C :: bm, ns := N, qualname := qn, hasDict := true, slotNames := sn, subclasses := sub, abstract := ab, collection := col, hasDel := false } := by unfold clsIn; rw [hC] <;> rfl
  refine ks_codeAny_call_defAt (fd := ksFn "__init__" q (eA p1 p2) (eB q1 q2 q3 q4 q5 q6 q7 q8 q9 q10) eS .none .none doc pm an (.ref cda) ct cc) (body := eB q1 q2 q3 q4 q5 q6 q7 q8 q9 q10) (binds := [("self", .ref x), ("at", v)]) hroom (X _ _ ho) rfl hlim (codeRec_of X hcd) rfl
    (BindsTo.of_eq (by first | rfl | with_unfolding_all rfl)) eS_cell (fun y hy => by rcases List.mem_cons.mp hy with rfl | hy; rfl; rw [List.mem_singleton.mp hy]; rfl) (fun h₁ hn k => ?_) rfl rfl rfl
  have X₁ : K.In h₁ := X.keeps k
  have hx₁ := k _ _ hx
  have hxL : s.heap.objs.size ≠ x := Nat.ne_of_gt (Heap.lt_size hx)
  have I₁ : InstAt h₁ x (HandSPX.excO C t0) C none := ⟨hx₁, rfl, rfl, trivial⟩
  obtain ⟨hh, g, d, t, os⟩ := s
  obtain ⟨oD, hD1, hD2⟩ : ∃ oD, h₁.get? D = some oD ∧ oD.data = .cls cdD := by
    unfold clsIn at hD
    split at hD
    · rename_i ho'
      cases hD
      exact ⟨_, X₁ _ _ ho', rfl⟩
    · cases hD
  refine ks_wpAt_execs_cons (ks_wpAt_Expr_any (ks_wpAt_MethodCall ?_ (call_attr hline rfl)))
  refine ks_wpAt_super_base (ar := { arg := "self", annotation := none, pos := p1 }) rfl rfl (by decide) rfl (X₁ _ _ ho) rfl rfl rfl (X₁ _ _ hco) rfl hvs hfile B.top ?_
  refine ks_loadName_global rfl rfl (loadGlobal_builtin (G.keeps k) B.sup (Bn.keeps k) (hb.trans (by first | boot_by_name | rfl | kernel_rfl)) ⟨rfl, ?_⟩)
  refine wpAny_loadName_free rfl rfl rfl ⟨_, X₁ _ _ hce, rfl⟩ ?_
  refine wpAny_loadName_local (v := .ref x) rfl rfl hn (by first | rfl | with_unfolding_all rfl | kernel_rfl) ?_
  refine ks_wpAny_isType_cls hD1 hD2 ⟨rfl, ?_⟩
  refine ks_wpAny_call_super hD1 hD2 I₁.at_ I₁.cls (fun c e => ?_) (looks_mroIn X₁ T.sub) (fun h₂ e₂ k₂ => ?_)
  · cases e
  have X₂ : K.In h₂ := X₁.keeps k₂
  have hx₂ := k₂ _ _ hx₁
  have I₂ : InstAt h₂ x (HandSPX.excO C t0) C none := ⟨hx₂, rfl, rfl, trivial⟩
  have hsup := T.sup
  unfold ks_superIn at hsup
  rw [hcl] at hsup
  refine kxs_getMethod kxs_ValueError e₂ (looks_opaque X₂ B.opq) (l₀ := .ref C :: bm) (fun A Q E s k q => wpAny_bind ((looks_clsIn X₂ hcl) A _ E s k (wpAny_pure q))) rfl X₂ hsup (I₂.type.andThen (looks_subIn X₂ T.ve)) (ks_ne X₂ I₂ hcl) (by decide) ?_
  have k₃ : ∀ b o, h₂.get? b = some o → (h₂.push (kxs_mw "ValueError.__init__" x)).get? b = some o := fun b o e => Heap.get?_push_of_some _ e
  have hu : (h₂.push (kxs_mw "ValueError.__init__" x)).get? h₂.objs.size = some (kxs_mw "ValueError.__init__" x) := Heap.get?_push_at rfl rfl
  generalize h₂.push (kxs_mw "ValueError.__init__" x) = h₃ at k₃ hu
  generalize h₂.objs.size = u at hu
  have kk : ∀ b o, h₁.get? b = some o → h₃.get? b = some o := fun b o e => k₃ _ _ (k₂ _ _ e)
  have hx₃ := k₃ _ _ hx₂
  have X₃ : K.In h₃ := X₂.keeps k₃
  have hn₃ := hn.keeps kk
  refine kxs_callWith (i := "ValueError.__init__") (x := x) rfl (evalArgs_plain (Calls.spliced_cons (ld_loc (v := v) hn₃ (by first | rfl | with_unfolding_all rfl | kernel_rfl) (Calls.spliced_nil ⟨hu, ?_⟩) rfl rfl (by decide))))
  refine wpAny_call (codeAny_of_tree ?_)
  show wpAny _ _ (callAny (.ref u) ⟨[v], []⟩) _ _ _
  simp only [callAny]
  refine wpAny_bind (wpAny_load hu ?_)
  simp only [kxs_mw, show (Value.type "method-wrapper" == Value.type "method" || Value.type "method-wrapper" == Value.type "builtin_function_or_method" || Value.type "method-wrapper" == Value.type "method-wrapper") = true by decide, if_true]
  refine KFB.if_so (by decide) ?_
  refine wpAny_bind (check_bound_init F.excBase_ValueError.toExcCallFacts (X₃ _ _ hC) hx₃ rfl ?_)
  refine wpAny_bind (wpAny_pure (wpAny_pure ?_))
  refine ⟨plainId_quiet F.excBase_ValueError.init.plain _, codeAny_builtin F.excBase_ValueError.initEntry ?_⟩
  refine exc_init_tree (cls := .ref C) (t0 := t0) (dv := none) (c2 := .none) (c3 := .none) (b4 := .bool false) hx₃ (sz1 v) fun h₄ k₄ hx₄ ht₄ => ?_
  have X₄ : K.In h₄ := in_but X₃ hnx k₄
  have keep4 : ∀ b o, b ≠ x → h₁.get? b = some o → h₄.get? b = some o := fun b o ne e => k₄ b o ne (kk b o e)
  have hn₄ : h₄.Ns hh.objs.size _ := Heap.Ns.at hn₃ (fun o e => k₄ _ o hxL e)
  have hL₁ : hh.objs.size < h₁.objs.size := hn.lt
  show PySem.wpAt _ _ _ (execs _ _) _ _ _
  refine PySem.wpAt_of_wpAny (wpAny_execs_cons (plainObj_wpAny_Assign_Attribute ?_))
  refine ld_loc (v := v) hn₄ (by first | rfl | with_unfolding_all rfl | kernel_rfl) ?_ rfl rfl (by decide)
  refine ld_loc (v := .ref x) hn₄ (by first | rfl | with_unfolding_all rfl | kernel_rfl) ?_ rfl rfl (by decide)
  refine set_plain X₄ (ox := excRec (.ref C) h₃.objs.size none .none .none (.bool false)) (od := none) ⟨hx₄, rfl, rfl, trivial⟩ T.sa ?_
  refine HandSPX.exc_osa X₄ hx₄ hcl (show HandSPX.refsVE (.ref C :: bm) = true from hbm) rfl T.noN (fun h₅ tk₅ dx k₅ dn dne hx₅ hn₅ => ?_)
  show wpAny _ _ (execs _ _) _ _ _
  refine wpAny_execs_nil (hq h₅ tk₅ dx h₃.objs.size ⟨fun b o hb e => k₅ b o hb (keep4 b o hb (k b o e)), hx₅, ?_, dne, hn₅⟩)
  exact Nat.le_of_lt (Nat.lt_of_lt_of_le hn₄.lt dn)
theorem err_made (B : ErrB prog K mg D fI) (T : ErrC K D fI C) {v : Value} (X : K.In s.heap) (G : s.heap.Ns mainGlobals mg) (Bn : s.heap.Ns builtinsNs mb) (hb : mb "super" = bootBuiltins "super") (hlim : s.heap.NoLimit) (hroom : A.depth + 1 < recursionLimit)
    (hq : ∀ h' tk e d, ErrMade s.heap h' e C d v → R (.ok (.ret (.ref e))) { s with heap := h', toks := tk }) : codeAny (model prog w) A (.call (.ref C) ⟨[v], []⟩) R s := by
  obtain ⟨nm, q, N, bs, bm, sn, sub, ab, col, dd, k0, k1, k2, k3, k5, hC, hbm⟩ := T.cls
  obtain ⟨hp, g, dr, tk, os⟩ := s
  have k : ∀ b o, hp.get? b = some o → ((hp.push (kdv_tup [v])).push (HandSPX.excO C hp.objs.size)).get? b = some o := fun b o e => Heap.get?_push_of_some _ (Heap.get?_push_of_some _ e)
  have hget : ((hp.push (kdv_tup [v])).push (HandSPX.excO C hp.objs.size)).get? (hp.objs.size + 1) = some (HandSPX.excO C hp.objs.size) := by heap_get
  have above : ∀ a, a < hp.objs.size → hp.objs.size + 1 ≠ a := fun a lt z => by
    rw [← z] at lt
    exact absurd (Nat.lt_of_succ_lt lt) (Nat.lt_irrefl _)
  have hnx : K.lookup (hp.objs.size + 1) = none := by
    cases e : K.lookup (hp.objs.size + 1) with
    | none => rfl
    | some o => exact (above _ (Heap.lt_size (show hp.get? (hp.objs.size + 1) = some o from X _ _ e)) rfl).elim
  refine HandSPX.call_own F.excBase_ValueError (fun Y => HandSPX.refsVE_contains Y bm hbm) (X _ _ hC) (looks_findIn X T.iC) (fun self => bind_fn X self B.tC) (sz1 v) ?_
  refine err_init (s := ⟨(hp.push (kdv_tup [v])).push (HandSPX.excO C hp.objs.size), g, dr, tk, os⟩) B T (X.keeps k) (G.keeps k) (Bn.keeps k) hb (hlim.keeps k) hget hnx (above _ G.lt) (above _ Bn.lt) ?_ fun h' tk' dx t1 ⟨k', hx, dn, dne, hns⟩ => ?_
  · show A.depth + 1 < recursionLimit
    exact hroom
  · have old : ∀ b o, hp.get? b = some o → h'.get? b = some o := fun b o e => k' b o (fun z => above _ (Heap.lt_size e) z.symm) (k b o e)
    have z : hp.objs.size + 1 + 1 ≤ dx := by
      first
        | (simpa only [Heap.size_push] using dn)
        | exact dn
    exact ⟨rfl, hq h' tk' (hp.objs.size + 1) dx ⟨old, Nat.le_succ _, ⟨_, _, hx, rfl, rfl, rfl, rfl⟩, Nat.le_trans (Nat.le_trans (Nat.le_succ _) (Nat.le_succ _)) z, dne, hns⟩⟩
end
end Rt
end
section
set_option linter.all false
set_option autoImplicit false
set_option Elab.async false
set_option maxRecDepth 100000
set_option maxHeartbeats 2000000
namespace Rt
open PySem PySem.Spec PyProof.Rows L2
/-! ### several clauses, each with a name -/
abbrev HdR := Value × Nat × (Addr → Value → Option Addr → TS)
/-- the wish, clause by clause -/
def wAsM (K : PySem.W.Frag) (Wo : WX) (D : Ends) (n : Nat) : List HdR → WX
  | [] => Wo
  | (c, i, ts) :: r => fun cls d σ H => ∃ b, PySem.W.exmOne K cls c = some b ∧
      (b = true → ∀ a, H a = none → σ.length = n → ts a cls d ⟨fun σ2 H2 => D.nx (σ2.set i none) H2, D.rt, fun σ2 H2 => D.bk (σ2.set i none) H2, fun σ2 H2 => D.ct (σ2.set i none) H2⟩ (σ.set i (some (.ref a))) H) ∧ (b = false → wAsM K Wo D n r cls d σ H)
inductive HdsAs (X : Cx) : List ExceptHandler → List HdR → Prop
  | nil : HdsAs X [] []
  | cons {x n : Str} {c : Value} {i : Nat} {ts : Addr → Value → Option Addr → TS} {b0 : Stmt} {suite : List Stmt} {np hp : Pos} {hds : List ExceptHandler} {l : List HdR} (hc : Names X x c) (hi : X.N[i]? = some n) (hl : X.env.kindOf n = some .local)
      (hsu : ∀ (a : Addr) (oe : Obj) (cls : Value) (d : Option Addr) (pn : List (Addr × Obj)), Zc cls d oe → (∃ vs, oe.data = .fields vs) → PSs (X.suite a ((a, oe) :: pn)) (b0 :: suite) (ts a cls d)) (r : HdsAs X hds l) :
      HdsAs X (.ExceptHandler (some (.Name x np)) (some n) (b0 :: suite) hp :: hds) ((c, i, ts) :: l)
section
variable {X : Cx} {body : List Stmt} {h0 : ExceptHandler} {hds : List ExceptHandler} {l : List HdR} {pos : Pos} {tb : WX → TS} {Wo : WX}
/-- an exception on the ground, looked at by the clauses -/
theorem clauses {D : Ends} {pins : List (Addr × Obj)} {a : Addr} {B : Heap} {σ1 : L2.St} {H1 : Hp} {cls : Value} {d : Option Addr} {sI s' : Shared} {h3 : Heap} (hs : X.stack = X.env :: X.outer) (hf : X.env.frame = some X.env.locals) (hN : X.N.Nodup) (tk : Takes X Wo) (ok : X.Ok) (J : Inv X pins σ1 H1 sI)
    (nb : ∀ b o, sI.heap.get? b = some o → b ∉ frs X.stack → B.get? b = some o) (os : s'.os = sI.os) (ag : AllBare s'.gens) (na : H1 a = none) (up3 : sI.heap.UpToSlots h3) (fl : HandSPX.FlyingZ B (X.env :: X.outer) a (Zc cls d) h3) (nL : a ≠ X.env.locals) (nF : a ∉ X.fs) :
    ∀ {hds : List ExceptHandler} {l : List HdR}, HdsAs X hds l → wAsM X.K Wo D X.N.length l cls d σ1 H1 → wpAny (model X.prog X.w) X.A (handleBy (.ref a) X.env hds) (SP X pins D) X.xe { s' with heap := h3 } := by
  have J3 : Inv X pins σ1 H1 { s' with heap := h3 } := J.landed nb fl.1 up3 os ag
  obtain ⟨oe3, vs3, he3, hz3, hd3⟩ := fl.there
  have S3 := J3.suite he3 hd3 na nL nF
  intro hds l hk
  induction hk with
  | nil =>
    intro w
    refine wpAny_handleBy_nil ?_
    obtain ⟨_, _, _, oe, vs, T, _, _, he, _, hd, h1, _⟩ := id fl
    unfold PySem.passOn
    refine wpAny_bind (wpAny_field he hd h1 ?_)
    rw [if_neg (show ¬ ((Value.ref T == Value.none) = true) from by simp)]
    have last : wpAny (model X.prog X.w) X.A (setFlight (.ref a) X.env.frame) (fun _ s4 => wpAny (model X.prog X.w) X.A (throw (.ref a) : Sem Flow) (SP X pins D) X.xe s4) X.xe { s' with heap := h3 } := by
      rw [hf]
      exact HandSPX.setFlight_upZ fl fun h4 hh up4 => wpAny_throw (tk _ _ ⟨a, B, sI, pins, σ1, H1, cls, d, rfl, J, nb, up3.trans up4, .inr (.inr (by rw [hs]; exact hh)), na, os, ag, w⟩)
    first
      | exact wpAny_bind (wpAny_pure (wpAny_bind last))
      | exact wpAny_bind last
  | @cons x n c i ts b0 suite np hp hds l hc hi hl hsu r ih =>
    intro ⟨b, q1, yes, no⟩
    refine wpAny_handleBy_cons (codeAny_handlers_test ?_) (by intro q; cases q)
    have mt := PySem.W.exm_one (M := model X.prog X.w) J3.kIn (fun A Q E s k q => wpAny_typeOf_ref (k _ _ he3) (by rw [hz3.1]; exact q)) q1
    have name : ∀ {Q : Value → Shared → Prop} {E : Value → Shared → Prop}, Q c { s' with heap := h3 } → wpAny (model X.prog X.w) (X.A.mark (some (.ref a))) (eval (.Name x np) X.env) Q E { s' with heap := h3 } := fun {Q E} q => by
      obtain ⟨g1, g2, g3 | ⟨g3, g4, g5⟩⟩ := hc
      · exact ld_glob (X := X.suite a ((a, oe3) :: (X.pn ++ pins))) S3 g1 g3 q g2
      · exact ld_blt (X := X.suite a ((a, oe3) :: (X.pn ++ pins))) S3 g1 g3 g4 q g5 g2
    refine name (mt.here ?_)
    cases b with
    | false => exact ih (no rfl)
    | true =>
      refine codeAny_handlers_suite_as (HandSPX.lands_againZ fl fun h4 fl4 up4 => ?_)
      have J4 : Inv X pins σ1 H1 { s' with heap := h4 } := J.landed nb fl4.1 (up3.trans up4) os ag
      obtain ⟨oe4, vs4, he4, hz4, hd4⟩ := fl4.there
      refine store_ok (X := X.suite a ((a, oe4) :: (X.pn ++ pins))) (v := .ref a) (J4.suite he4 hd4 na nL nF) hN hi (.inl hl) rfl (fun s5 S5 => ?_) (.inr hl)
      have gone : ∀ {σ6 : L2.St} {H6 : Hp} {s6 : Shared} {Q : Shared → Prop}, Inv (X.suite a ((a, oe4) :: (X.pn ++ pins))) [] σ6 H6 s6 → (∀ s7, Inv X pins (σ6.set i none) H6 s7 → Q s7) →
          wpAny (model X.prog X.w) X.A (do bindName X.env n .none; unbindBehindTheSuite X.env n hp) (fun _ s7 => Q s7) X.xe s6 := fun S6 hq => gone_ok (S6.unsuite ok) hN hi hl hq
      refine wpAny_mono ((hsu a oe4 cls d (X.pn ++ pins) hz4 ⟨_, hd4⟩).run [] s5 _ H1 _ S5 (yes rfl a na J.len)) (fun f s6 hsp => ?_) (fun _ _ z => z.elim)
      cases f with
      | ret u => exact let ⟨_, _, _, S6, r6, q6⟩ := hsp; gone S6 fun s7 J7 => ⟨_, _, _, J7, r6, q6⟩
      | next => exact let ⟨_, _, S6, q6⟩ := hsp; gone S6 fun s7 J7 => ⟨_, _, J7, q6⟩
      | brk => exact let ⟨_, _, S6, q6⟩ := hsp; gone S6 fun s7 J7 => ⟨_, _, J7, q6⟩
      | cont => exact let ⟨_, _, S6, q6⟩ := hsp; gone S6 fun s7 J7 => ⟨_, _, J7, q6⟩
theorem ps_try_asM (hs : X.stack = X.env :: X.outer) (hf : X.env.frame = some X.env.locals) (hN : X.N.Nodup) (tk : Takes X Wo)
    (hb : ∀ (W : WX) (pn : List (Addr × Obj)) (xe : Value → Shared → Prop), Takes (X.tr pn xe) W → PassesOwn (model X.prog X.w) X.A X.env xe → PSs (X.tr pn xe) body (tb W)) (hh : HdsAs X (h0 :: hds) l) :
    PS X (.Try body (h0 :: hds) [] [] pos) (fun D σ H => tb (wAsM X.K Wo D X.N.length l) D σ H) := by
  refine ⟨fun pins s σ H D I h => wpAny_Try_except ?_⟩
  have ok := I.ok
  have run := (hb (wAsM X.K Wo D X.N.length l) (X.pn ++ pins) (fun e s1 => wpAny (model X.prog X.w) X.A (noteFrame e X.env) (fun _ s2 => wpAny (model X.prog X.w) X.A (setFlight e none) (fun _ s3 =>
    wpAny (model X.prog X.w) X.A (handleBy e X.env (h0 :: hds)) (SP X pins D) X.xe s3) X.xe s2) X.xe s1) (fun u s' caught => ?_) PassesOwn.looking).run [] s σ H D (I.toTry _) h
  · refine wpAny_mono run (fun f s1 hsp => ?_) fun _ _ z => z
    cases f with
    | next => exact let ⟨σ2, H2, J2, q⟩ := hsp; wpAny_execs_nil ⟨σ2, H2, J2.ofTry ok, q⟩
    | brk => exact let ⟨σ2, H2, J2, q⟩ := hsp; ⟨σ2, H2, J2.ofTry ok, q⟩
    | cont => exact let ⟨σ2, H2, J2, q⟩ := hsp; ⟨σ2, H2, J2.ofTry ok, q⟩
    | ret u => exact let ⟨v, σ2, H2, J2, r, q⟩ := hsp; ⟨v, σ2, H2, J2.ofTry ok, r, q⟩
  · obtain ⟨a, B, sI, pins', σ1, H1, cls, d, rfl, J', nb, up, sky, na, os, ag, w⟩ := caught
    have sky2 : Sky B (X.env :: X.outer) a (Zc cls d) X.env.locals s'.heap := by rw [← hs]; exact sky
    show wpAny (model X.prog X.w) X.A (noteFrame (.ref a) X.env) _ _ _
    refine Sky.land Zc.steady (by rw [ok.frames, hs]) hf sky2 fun h3 fl up3 => ?_
    have J := J'.ofTry ok
    obtain ⟨oe, vs, he, _, hd⟩ := fl.there
    have notFr : a ∉ frs (X.env :: X.outer) := fun hm => by
      obtain ⟨_, o, e, nf⟩ := fl.2.2.1.mem hm
      rw [he] at e; cases e
      exact nf _ hd
    refine clauses hs hf hN tk ok J nb os ag na (up.trans up3) fl (fun z => notFr (List.mem_filterMap.mpr ⟨X.env, List.mem_cons_self, by rw [hf, z]⟩)) (fun hm => ?_) hh w
    obtain ⟨e, he, q⟩ := List.mem_filterMap.mp hm
    exact notFr (List.mem_filterMap.mpr ⟨e, List.mem_cons_of_mem _ he, q⟩)
end

/-! ### raise C(e) -/
theorem relO_at {v : V} {v' : Value} (r : RelV v v') (f : Str) : RelO (List.lookup f [(("at" : Str), v)]) (if f = "at" then some v' else none) := by
  by_cases hw : f = "at"
  · subst hw
    have q : List.lookup ("at" : Str) [(("at" : Str), v)] = some v := by simp [List.lookup]
    rw [if_pos rfl, q]
    exact r
  · have qw : (f == ("at" : Str)) = false := by simpa using hw
    have q2 : List.lookup f [(("at" : Str), v)] = none := by simp [List.lookup, qw]
    rw [if_neg hw, q2]
    trivial
section
variable {fa ca : Nat → Addr} {X : Cx} {D0 fI C : Addr} {a e : Expr} {da : Ex} {pos : Pos}
def tMkErr (C : Addr) (ta : TA) : L2.St → Hp → XK → Prop := fun σ H Q => ta σ H fun vs H1 => ∃ v, vs = [v] ∧ ∀ d, H1 d = none → Q (.ref C) (some d) (upd H1 d (.xd [(("at" : Str), v)]))
theorem pmk_err {x : Str} {p : Pos} {ta : TA} (B : ErrB X.prog X.K X.mg D0 fI) (T : ErrC X.K D0 fI C) (hm : X.mg x = some (.ref C)) (hr : X.A.depth + 1 < recursionLimit) (ha : PA X [a] ta) (hg : Gl X x) (hdb : (x == ("__debug__" : Str)) = false) (hst : notStar a = true) :
    PMk X (.Call (.Name x p) [a] [] pos) (tMkErr C ta) := by
  intro pins s σ H Q I h
  refine wpAny_Call_Name_kw (ld_glob I hg hm ?_ hdb)
  refine PySem.W.callWith_K (h₀ := X.base) I.ok.mod.kin T.kC (thn (ha.run pos pins s σ H _ I h) fun us s1 hh => ?_) (star_cons hst) rfl
  obtain ⟨vs, H1, I1, r1, v, ev, q1⟩ := hh
  subst ev
  refine ⟨I1.kIn, ?_⟩
  obtain ⟨u, rfl, rv⟩ := r1.one
  show wpAny _ _ (call (.ref C) [u]) _ _ _
  obtain ⟨mb, b1, b2⟩ := I1.mod.blt
  have lim := I1.nolimit
  have G := I1.mod.glob.keeps I1.bk
  have Bn := b1.keeps I1.bk
  obtain ⟨hp, g, dr, tk, os⟩ := s1
  refine wpAny_call (err_made B T I1.kIn G Bn (b2 _ (by decide)) lim (by show X.A.in1.depth + 1 < _; exact hr) fun h' tk' x d M => ?_)
  show MkP X pins σ Q (.ref x) ⟨h', g, dr, tk', os⟩
  obtain ⟨oe, fv, hoe, hc, hd, hdat, h1⟩ := M.obj
  obtain ⟨G', g1, g2⟩ := restrict h' fun b => decide (b ≠ x)
  have gk : ∀ b, b ≠ x → G'.get? b = h'.get? b := fun b hb => g1 b (decide_eq_true hb)
  have gx : G'.get? x = none := g2 x (by simp)
  have old : ∀ b o, hp.get? b = some o → G'.get? b = some o := fun b o q => (gk b (Nat.ne_of_lt (Nat.lt_of_lt_of_le (Heap.lt_size q) M.new))).trans (M.keep b o q)
  have ob : ObjOk X.prog X.w (upd H1 d (.xd [(("at" : Str), v)])) G' d (.xd [(("at" : Str), v)]) := ⟨_, M.ns.at (fun o q => (gk d M.dne).trans q), fun f => relO_at rv f⟩
  have J : Inv X pins σ (upd H1 d (.xd [(("at" : Str), v)])) ⟨G', g, dr, tk', os⟩ := I1.laid (t' := tk') old M.dbig ob
  refine ⟨x, oe, fv, ⟨G', g, dr, tk', os⟩, _, .ref C, some d, rfl, J, fun b o q => ?_, gx, hoe, ⟨hc, hd⟩, hdat, h1, ?_, rfl, I1.bare, raises_own T.exC T.tyC, q1 d (I1.hok.fresh M.dbig)⟩
  · by_cases hb : b = x
    · have q' : G'.get? b = some o := q
      rw [hb, gx] at q'; cases q'
    · exact (gk b hb).symm.trans q
  · rw [upd_ne (Ne.symm M.dne)]
    exact I1.hok.fresh M.new
theorem sndS_raise {x : Str} {p pos2 : Pos} {c : Nat} (B : ErrB X.prog X.K X.mg D0 fI) (T : ErrC X.K D0 fI (ca c)) (hm : X.mg x = some (.ref (ca c))) (hc : X.calm = true) (hr : X.A.depth + 1 < recursionLimit) (hg : Gl X x) (hdb : (x == ("__debug__" : Str)) = false) (hst : notStar a = true) (ha : Snd fa ca X a da) :
    SndS fa ca X (.Raise (some (.Call (.Name x p) [a] [] pos)) none pos2) (sRaise c da) := fun W tk H0 U N H σ E D x p => by
  refine of_ps (ps_raise hc tk (pmk_err B T hm hr (pa_cons (peE (e := a)) pa_nil (star_cons hst)) hg hdb hst)) ?_
  show tE X a σ H _
  refine ha W tk N H σ E _ x.sr ?_
  have p' : PostS fa ca X.K W H0 U D (hide H N) ((da E).to E fun r => match r.d with | .int i => .ex c (.int i) E | _ => .bad) := p
  refine (p'.to x.fs.sub).imp fun r _ q v H1 g rr => ?_
  have k1 := rr.kid x.sr g
  revert q k1
  cases r.d <;> intro q k1 <;> simp only [] at q <;> try exact q.elim
  rename_i i
  have ei := k1.int
  refine ⟨v, rfl, fun d nd => q d σ _ ((x.fs.sub.trans g).trans (sub_upd nd)) ⟨i, rfl, (x.fs.sub.trans g).none nd, ?_⟩⟩
  rw [upd_same, ei]

/-! ### e.at in a clause -/
theorem suite_at {a : Addr} {oe : Obj} {C : Addr} {dd : Addr} {pn : List (Addr × Obj)} {n : Str} {i : Nat} {p1 p2 : Pos} {σ : L2.St} {H : Hp} {k : Int} {Q : VK} (T : ErrC X.K D0 fI C) (hz : Zc (.ref C) (some dd) oe) (hf : ∃ vs, oe.data = .fields vs)
    (hN : X.N[i]? = some n) (hl : X.env.scope.names.lookup n = some .local) (hd : (n == ("__debug__" : Str)) = false) (hcd : (n == ("__classdict__" : Str)) = false) (e1 : σ[i]? = some (some (.ref a))) (e2 : H dd = some (.xd [(("at" : Str), .int k)])) (q : Q (.int k) H) :
    tE (X.suite a ((a, oe) :: pn)) (.Attribute (.Name n p1) "at" p2) σ H Q := by
  refine of_pe (pe_xf (C := C) ⟨T.ga, T.gg, T.exC, T.hdC⟩ T.noN hz hf (pe_var (X := X.suite a ((a, oe) :: pn)) (i := i) hN (.inl hl) hd hcd) rfl) ?_
  exact ⟨.ref a, e1, rfl, rfl, dd, _, .int k, rfl, e2, by simp [List.lookup], q⟩
theorem hide_new {H : Hp} {U : Addr → Prop} {t : Addr} {o : HO} (n : ¬ U t) : hide (upd H t o) U t = some o := by rw [hide_at n, upd_same]
/-- what a clause returns: e.at, or a pair of a word and it -/
inductive HdF | at | word (w : Str)
def HdF.val : HdF → D → D
  | .at, a => a
  | .word w, a => .tup [.str w, a]
def HdF.ok (f : HdF) (n : Str) : Stmt → Bool
  | .Return (some (.Attribute (.Name m _) "at" _)) _ => (match f with | .at => m == n | _ => false)
  | .Return (some (.Tuple [.Constant (.str w) _ _, .Attribute (.Name m _) "at" _] _ _)) _ => (match f with | .word v => (w == v) && (m == n) | _ => false)
  | _ => false
theorem suite_ret {a : Addr} {oe : Obj} {C : Addr} {dd : Addr} {pn : List (Addr × Obj)} {n : Str} {i : Nat} {st : Stmt} {f : HdF} {σ : L2.St} {H H0 : Hp} {U : Addr → Prop} {k : Int} {D : Ends} (T : ErrC X.K D0 fI C) (hz : Zc (.ref C) (some dd) oe) (hf : ∃ vs, oe.data = .fields vs)
    (hN : X.N[i]? = some n) (hl : X.env.scope.names.lookup n = some .local) (hd : (n == ("__debug__" : Str)) = false) (hcd : (n == ("__classdict__" : Str)) = false) (e1 : σ[i]? = some (some (.ref a))) (e2 : H dd = some (.xd [(("at" : Str), .int k)])) (hok : f.ok n st = true)
    (sub : Sub H0 H) (ud : ∀ b, U b → ∃ o, H0 b = some o) (q : ∀ v H', Sub H0 H' → Rep fa X.K (hide H' U) (f.val (.int k)) v → D.rt v H') : tSs (X.suite a ((a, oe) :: pn)) [st] D σ H := by
  refine of_pss (pss_one psS) ?_
  unfold HdF.ok at hok
  split at hok
  · split at hok
    · have en := eq_of_beq hok
      subst en
      refine of_ps (ps_ret (peE (e := _))) ?_
      exact suite_at T hz hf hN hl hd hcd e1 e2 (q _ H sub (by simp [HdF.val, Rep]))
    · cases hok
  · split at hok
    · rename_i w v
      simp only [Bool.and_eq_true] at hok
      have ew := eq_of_beq hok.1
      have en := eq_of_beq hok.2
      subst ew en
      refine of_ps (ps_ret (pe_tup (pa_cons pe_str (pa_cons (peE (X := X.suite a ((a, oe) :: pn)) (e := _)) pa_nil rfl) rfl))) ?_
      show tE (X.suite a ((a, oe) :: pn)) _ σ H _
      refine suite_at T hz hf hN hl hd hcd e1 e2 ⟨by show 2 ≤ sizeLine; decide, fun t nt => q _ _ (sub.trans (sub_upd nt)) ?_⟩
      simp only [HdF.val, Rep]
      refine ⟨t, _, rfl, SqT.of (hide_new fun n => ?_), .cons_ (by simp only [Rep]) (.one (by simp only [Rep]))⟩
      obtain ⟨o, z⟩ := ud t n
      rw [sub _ _ z] at nt; cases nt
    · cases hok
  · cases hok
/-- a clause: its class, its name, what it returns -/
structure HdOk (fa ca : Nat → Addr) (X : Cx) (D0 fI : Addr) (nC : Nat) (h : ExceptHandler) (hd : Hd) : Prop where
  ok : ∃ (x n : Str) (ch i : Nat) (np hp : Pos) (st : Stmt) (f : HdF), h = .ExceptHandler (some (.Name x np)) (some n) [st] hp ∧ Names X x (.ref (ca ch)) ∧ X.N[i]? = some n ∧ X.env.scope.names.lookup n = some .local ∧ (n == ("__debug__" : Str)) = false ∧ (n == ("__classdict__" : Str)) = false ∧ f.ok n st = true ∧
    (∀ k, hd.2 (.int k) = f.val (.int k)) ∧ ∀ c, c < nC → PySem.W.exmOne X.K (.ref (ca c)) (.ref (ca ch)) = some (hd.1 c)
inductive HdsOkD (fa ca : Nat → Addr) (X : Cx) (D0 fI : Addr) (nC : Nat) : List ExceptHandler → List Hd → Prop
  | nil : HdsOkD fa ca X D0 fI nC [] []
  | cons {h : ExceptHandler} {hd : Hd} {hs : List ExceptHandler} {ds : List Hd} : HdOk fa ca X D0 fI nC h hd → HdsOkD fa ca X D0 fI nC hs ds → HdsOkD fa ca X D0 fI nC (h :: hs) (hd :: ds)
/-- the readings of the clauses -/
def hdR (ca : Nat → Addr) (X : Cx) : List (Nat × Nat × Stmt) → List HdR
  | [] => []
  | (c, i, st) :: r => (.ref (ca c), i, fun a cls d D σ H => ∀ (oe : Obj) (pn : List (Addr × Obj)), Zc cls d oe → (∃ vs, oe.data = .fields vs) → tSs (X.suite a ((a, oe) :: pn)) [st] D σ H) :: hdR ca X r
theorem hds_read {nC : Nat} {hs : List ExceptHandler} {ds : List Hd} (h : HdsOkD fa ca X D0 fI nC hs ds) (Wo : WX) (hT : ∀ c, c < nC → ErrC X.K D0 fI (ca c)) (hk : ∀ n, X.env.kindOf n = X.env.scope.names.lookup n) :
    ∃ l, HdsAs X hs (hdR ca X l) ∧ ∀ (H0 : Hp) (U : Addr → Prop) (D : Ends) (Z : Hp) (c : Nat) (x : Rt.D) (E : Env) (dd : Addr) (σ : L2.St) (H : Hp), c < nC → (∀ b, U b → ∃ o, H0 b = some o) → Sub H0 H → ExD H0 H dd x →
      PostS fa ca X.K Wo H0 U D Z (pick ds c x E) → wAsM X.K Wo D X.N.length (hdR ca X l) (.ref (ca c)) (some dd) σ H := by
  induction h with
  | nil => exact ⟨[], .nil, fun H0 U D Z c x E dd σ H hcs ud sb ed p => p dd σ H sb ed⟩
  | @cons h hd hs ds hh hr ih =>
    obtain ⟨x, n, ch, i, np, hp, st, f, rfl, hc, hi, hl, hdb, hcd, hok, hv, hm⟩ := hh
    obtain ⟨l, ok, go⟩ := ih
    refine ⟨(ch, i, st) :: l, .cons hc hi ((hk n).trans hl) (fun a oe cls d pn hz hf => ⟨fun pins s σ H D I r => r oe pn hz hf pins s I⟩) ok, fun H0 U D Z c x E dd σ H hcs ud sb ed p => ⟨hd.1 c, hm c hcs, fun yes a na len oe pn hz hf => ?_, fun no => ?_⟩⟩
    · have p' : PostS fa ca X.K Wo H0 U D Z (if hd.1 c then .rt (hd.2 x) false else pick ds c x E) := p
      rw [yes] at p'
      obtain ⟨k, rfl, e1, e2⟩ := ed
      refine suite_ret (fa := fa) (H0 := H0) (U := U) (hT c hcs) hz hf hi hl hdb hcd (List.getElem?_set_self (by rw [len]; exact (List.getElem?_eq_some_iff.mp hi).1)) e2 hok sb ud fun v H' s' rp => p' v H' s' ?_
      show Rep fa X.K (hide H' U) (hd.2 (.int k)) v
      rw [hv k]
      exact rp
    · have p' : PostS fa ca X.K Wo H0 U D Z (if hd.1 c then .rt (hd.2 x) false else pick ds c x E) := p
      rw [no] at p'
      exact go H0 U D Z c x E dd σ H hcs ud sb ed p'
theorem sndS_try {nC : Nat} {body : List Stmt} {h0 : ExceptHandler} {hs : List ExceptHandler} {ds : List Hd} {fb : Sm} (hst : X.stack = X.env :: X.outer) (hf : X.env.frame = some X.env.locals) (hN : X.N.Nodup) (hh : HdsOkD fa ca X D0 fI nC (h0 :: hs) ds) (hT : ∀ c, c < nC → ErrC X.K D0 fI (ca c)) (hk : ∀ n, X.env.kindOf n = X.env.scope.names.lookup n)
    (hb : ∀ (pn : List (Addr × Obj)) (xe : Value → Shared → Prop), PassesOwn (model X.prog X.w) X.A X.env xe → SndSs fa ca (X.tr pn xe) body fb) : SndS fa ca X (.Try body (h0 :: hs) [] [] pos) (sTry nC fb ds) := fun W tk H0 U N H σ E D x p => by
  obtain ⟨l, ok, go⟩ := hds_read hh W hT hk
  refine of_ps (ps_try_asM (tb := fun W D σ H => ∀ (pn : List (Addr × Obj)) (xe : Value → Shared → Prop), Takes (X.tr pn xe) W → PassesOwn (model X.prog X.w) X.A X.env xe → tSs (X.tr pn xe) body D σ H) hst hf hN tk (fun W pn xe tk po => ⟨fun pins s σ H D I r => r pn xe tk po pins s I⟩) ok) ?_
  intro pn xe tkB po
  refine hb pn xe po _ tkB H0 U N H σ E D x ?_
  unfold sTry at p
  cases q : fb E with
  | nx E' => rw [q] at p; exact p
  | rt d fr => rw [q] at p; exact p
  | bad => rw [q] at p; exact p
  | ex c a E' =>
    rw [q] at p
    dsimp only at p
    split at p
    · rename_i lt
      exact fun dd σ' H' sb ed => go H0 U D (hide H N) c a E' dd σ' H' lt x.fs.ud sb ed p
    · exact p.elim
end
end Rt
end
section
set_option linter.all false
set_option autoImplicit false
set_option Elab.async false
set_option maxRecDepth 100000
set_option maxHeartbeats 2000000
namespace Rt
open PySem PySem.Spec PyProof.Rows L2
/-! ### defs: called where no guard stands around (repr asks it) -/
structure FnG (P : Program) (w : World) (K : PySem.W.Frag) (mg : Str → Option Value) (base : Heap) (k : Nat) (f : Addr) (fd : FuncData) (ps : List Str) (sp : Sp) : Prop where
  len : ∀ vs H Q E, sp vs H Q E → vs.length = ps.length
  run : ∀ (A : Around) (outer : List PySem.Env) (s : Shared) (H : Hp) (args : Args) (us : List Value) (vs : List V) (Q : VK) (E : XK), Room k A → A.guards = some [] → Env0 P w K mg base A outer s H → BindsTo s fd args (ps.zip us) → Vals vs us → sp vs H Q E →
    codeAny (model P w) A (.call (.ref f) args) (CR (CX P w) outer P w H s Q E) s
theorem fnG_of {P : Program} {w : World} {K : PySem.W.Frag} {mg : Str → Option Value} {base : Heap} {k : Nat} {f : Addr} {name qual : Str} {params : Arguments} {body : List Stmt} {scope : Scope} {dV kV doc pm cdv ct oc : Value} {an od : Option Addr}
    {osl : Array (Option Value)} {N ps : List Str} {sp : Sp} (lk : K.lookup f = some ⟨oc, od, .func (PySem.W.fnOf name qual params body scope dV kV doc pm an cdv ct), osl⟩) (hcd : PySem.W.codeIn K cdv qual = true) (S : FnScope N ps scope) (len : ∀ vs H Q E, sp vs H Q E → vs.length = ps.length)
    (hbody : ∀ (A : Around) (outer : List PySem.Env) (s : Shared) (H : Hp) (vs : List V) (Q : VK) (E : XK), Room k (A.deeper (envOfC qual scope s.heap.objs.size f cdv)) → A.guards = some [] → sp vs H Q E →
      tSs (cxOf (CX P w) P w K mg base N qual scope f cdv A outer s H E) body { nx := fun _ H' => Q .non H', rt := Q } (L2.start N vs) H) :
    FnG P w K mg base (k + 1) f (PySem.W.fnOf name qual params body scope dV kV doc pm an cdv ct) ps sp where
  len := len
  run := fun A outer s H args us vs Q E hr hg e0 hb r hsp => by
    have old : ∀ b o, base.get? b = some o → s.heap.get? b = some o := fun b o e => (e0.bs b o e).1
    have KX := e0.mod.kin.keeps old
    have kinds : ∀ y ∈ ps.zip us, scope.names.lookup y.1 = some .local ∨ (scope.names.lookup y.1 = some .cell ∧ ((cellsFrom (s.heap.objs.size + 1) scope.names []).lookup y.1).isSome = true) := fun ⟨n, v⟩ hy =>
      (S.par n (List.of_mem_zip hy).1).imp id fun q => ⟨q, PySem.W.cellsFrom_some _ _ _ (.inl q)⟩
    refine codeAny_call_function hr.depth (KX _ _ lk) rfl S.co S.gen rfl (PySem.W.codeRec_of KX hcd) (hb _ _ _ _ ?_)
    refine wpAny_newFunctionEnv_cells S.kind kinds fun env he s1 x => ?_
    subst he
    refine ⟨(e0.mod.nolimit.keeps old).keeps x.toInCall.keep, codeAny_func ?_⟩
    have I := inv_start (CX := CX P w) (base := base) (E := E) S hr.hd e0 (len _ _ _ _ hsp) r x
    refine wpAny_mono (hbody A outer s H vs Q E (hr.deeper _) hg hsp [] s1 I) (fun fl s' hs => ?_) fun e s' hs => hs
    cases fl with
    | ret u => exact let ⟨v, _, H', J, rv, q⟩ := hs; ⟨v, H', J.os, J.bare, J.base, J.hok, rv, q⟩
    | next => exact let ⟨_, H', J, q⟩ := hs; ⟨V.non, H', J.os, J.bare, J.base, J.hok, rfl, q⟩
    | brk => exact let ⟨_, _, _, q⟩ := hs; q.elim
    | cont => exact let ⟨_, _, _, q⟩ := hs; q.elim
/-- what a def does, as its denotation tells -/
def PostF (fa ca : Nat → Addr) (K : PySem.W.Frag) (U : Addr → Prop) (H : Hp) (Q : VK) (E : XK) : R (D × Bool) → Prop
  | .ok p => ∀ v H', Sub H H' → RetR fa K U H H' v p.1 p.2 → Q v H'
  | .ex c a => ∀ dd H', Sub H H' → ExD H H' dd a → E (.ref (ca c)) (some dd) H'
  | .bad => False
def spF (fa ca : Nat → Addr) (K : PySem.W.Frag) (F : Fn) (n : Nat) : Sp := fun vs H Q E =>
  ∃ (U : Addr → Prop) (ds : List D), (∀ b, U b → ∃ o, H b = some o ∧ Mb o) ∧ RepL fa K (hide H U) ds vs ∧ ds.length = n ∧ PostF fa ca K U H Q E (F ds)
theorem begin_get {n : Nat} {ds : List D} {i : Nat} {d : D} {b : Bool} (h : (begin_ n ds)[i]? = some (some (d, b))) : b = false ∧ ds[i]? = some d := by
  unfold begin_ at h
  by_cases hi : i < ds.length
  · rw [List.getElem?_append_left (by simpa using hi), List.getElem?_map] at h
    cases e : ds[i]? with
    | none => rw [e] at h; cases h
    | some x => rw [e] at h; cases h; exact ⟨rfl, rfl⟩
  · rw [List.getElem?_append_right (by simpa using hi), List.getElem?_replicate] at h
    split at h <;> cases h
theorem start_get {N : List Str} {vs : List V} {i : Nat} {v : V} (h : vs[i]? = some v) : (L2.start N vs)[i]? = some (some v) := by
  unfold L2.start
  have hi := (List.getElem?_eq_some_iff.mp h).1
  rw [List.getElem?_append_left (by simpa using hi), List.getElem?_map, h]
  rfl
/-- the state at a def's entry -/
theorem fx_start {fa : Nat → Addr} {K : PySem.W.Frag} {H : Hp} {U : Addr → Prop} {N : List Str} {ds : List D} {vs : List V} (mb : ∀ b, U b → ∃ o, H b = some o ∧ Mb o) (r : RepL fa K (hide H U) ds vs) (hn : ds.length ≤ N.length) :
    Fx fa K H U U H (L2.start N vs) (begin_ N.length ds) := by
  have l := r.length
  refine ⟨⟨?_, mb, fun i d e => ?_, fun i d e => ?_, fun i j d d' a e1 => ?_⟩, ⟨Sub.refl _, fun b n => n, fun b n => ?_, fun i d a e1 => ?_⟩⟩
  · unfold L2.start begin_
    simp [l]
  · obtain ⟨_, q⟩ := begin_get e
    obtain ⟨v, q1, q2⟩ := r.get q
    exact ⟨v, start_get q1, q2⟩
  · exact Bool.noConfusion (begin_get e).1
  · exact Bool.noConfusion (begin_get e1).1
  · obtain ⟨o, e, _⟩ := mb b n
    exact ⟨o, e⟩
  · exact Bool.noConfusion (begin_get e1).1
/-- a def of the table, by its body -/
theorem fnG_body {fa ca : Nat → Addr} {P : Program} {w : World} {K : PySem.W.Frag} {mg : Str → Option Value} {base : Heap} {k : Nat} {f : Addr} {name qual : Str} {params : Arguments} {body : List Stmt} {scope : Scope} {dV kV doc pm cdv ct oc : Value} {an od : Option Addr}
    {osl : Array (Option Value)} {N ps : List Str} {g : Sm} (lk : K.lookup f = some ⟨oc, od, .func (PySem.W.fnOf name qual params body scope dV kV doc pm an cdv ct), osl⟩) (hcd : PySem.W.codeIn K cdv qual = true) (S : FnScope N ps scope)
    (hbody : ∀ (A : Around) (outer : List PySem.Env) (s : Shared) (H : Hp) (E : XK), Room k (A.deeper (envOfC qual scope s.heap.objs.size f cdv)) → A.guards = some [] → SndSs fa ca (cxOf (CX P w) P w K mg base N qual scope f cdv A outer s H E) body g) :
    FnG P w K mg base (k + 1) f (PySem.W.fnOf name qual params body scope dV kV doc pm an cdv ct) ps (spF fa ca K (fun ds => if ds.length = ps.length then ends (g (begin_ N.length ds)) else .bad) ps.length) := by
  refine fnG_of lk hcd S (fun vs H Q E ⟨U, ds, _, r, hl, _⟩ => by rw [← r.length, hl]) fun A outer s H vs Q E hr hg ⟨U, ds, mb, r, hl, p⟩ => ?_
  have hpl : ps.length ≤ N.length := by
    have := congrArg List.length S.pre
    rw [List.length_take] at this
    omega
  refine hbody A outer s H E hr hg (fun cls d _ H => E cls d H) (takes_of rfl rfl rfl rfl) H U U H _ (begin_ N.length ds) _ (fx_start mb r (by rw [hl]; exact hpl)) ?_
  dsimp only at p
  rw [if_pos hl] at p
  cases q : g (begin_ N.length ds) with
  | nx E' => rw [q] at p; exact fun N' H' σ' _ x => p .non H' x.fs.sub (by show Rep fa K (hide H' U) .non .non; simp [Rep])
  | rt d fr => rw [q] at p; exact fun v H' sb rr => p v H' sb rr
  | ex c a E' => rw [q] at p; exact fun dd σ' H' sb ed => p dd H' sb ed
  | bad => rw [q] at p; exact p.elim
/-- such a def may be called -/
structure Cl (fa ca : Nat → Addr) (X : Cx) (f : Addr) (F : Fn) : Prop where
  keep : PySem.W.keepIn X.K (.ref f) = true
  fn : ∃ (k : Nat) (fd : FuncData) (ps : List Str), FnG X.prog X.w X.K X.mg X.base k f fd ps (spF fa ca X.K F ps.length) ∧ Binds X.K fd ps [] ∧ Room k X.A ∧ ∀ ds, ds.length ≠ ps.length → F ds = .bad
theorem Cl.callS {fa ca : Nat → Addr} {X : Cx} {f : Addr} {F : Fn} (h : Cl fa ca X f F) (hg : X.A.guards = some []) : CallS fa ca X f F where
  keep := h.keep
  run := fun W tk pins s σ H vs us Q U ds I rv mb rl p => by
    obtain ⟨k, fd, ps, G, hb, hr, hlen⟩ := h.fn
    have hl : ds.length = ps.length := by
      refine Classical.byContradiction fun z => ?_
      rw [hlen ds z] at p
      exact p.elim
    have hus : (us ++ []).length = ps.length := by
      rw [List.append_nil, ← rv.length, ← rl.length, hl]
    have hbn := hb s us I.kIn hus
    rw [List.append_nil] at hbn
    refine wpAny_call (codeAny_mono (G.run X.A X.stack s H ⟨us, []⟩ us vs Q (fun cls d H' => W cls d σ H') hr hg I.env0 hbn rv ⟨U, ds, mb, rl, hl, ?_⟩) fun r s' hq => ?_)
    · cases q : F ds with
      | ok pr => rw [q] at p; exact p
      | ex c a => rw [q] at p; exact p
      | bad => rw [q] at p; exact p
    · cases r with
      | error e => exact tk e s' (XE.of_call I (fun cls d H' h => h) hq)
      | ok fl =>
        cases fl with
        | ret u => exact I.after hq
        | next => exact False.elim hq
        | brk => exact False.elim hq
        | cont => exact False.elim hq
/-! ### a law's end -/
theorem law_G {P : Program} {w : World} {K : PySem.W.Frag} {mg mb : Str → Option Value} {k : Nat} {fl a : Addr} {fd : FuncData} {x : Str} {sp : Sp} {s1 : Shared} {vs : List Value} {ns : List Int} (KX : K.In s1.heap) (gm : s1.heap.Ns mainGlobals mg) (gb : s1.heap.Ns builtinsNs mb)
    (hbb : ∀ y : Str, y ≠ "__name__" → mb y = bootBuiltins y) (lim : s1.heap.NoLimit) (gens : s1.gens = #[]) (ha : s1.heap.get? a = some { cls := .type "list", data := .seq vs.toArray }) (hi : IntsAre vs ns) (hl : ns.length ≤ sizeLine) (hr : Room k callerA)
    (F : ∀ base : Heap, K.In base → base.Ns mainGlobals mg → FnG P w K mg base k fl fd [x] sp) (hbind : ∀ (s : Shared) (u : Value), BindsTo s fd ⟨[u], []⟩ [(x, u)]) (hsp : ∀ H : Hp, Only H → SqL K H a (ns.map V.int) → sp [.ref a] H (fun v _ => v = .bl true) fun _ _ _ => False) :
    codeAny (model P w) callerA (.call (.ref fl) ⟨[.ref a], []⟩) (fun r s' => r = .ok (.ret (.bool true)) ∧ OldK s1.heap s'.heap ∧ s'.os = s1.os ∧ AllBare s'.gens) s1 := by
  have rv := vals_ints hi
  -- H tells of nothing but the script, and of it only if the module does not hold it
  have core : ∀ H : Hp, Only H → SqL K H a (ns.map V.int) → HOk P w H s1.heap → (∀ b u, H b = some u → b = a ∧ K.lookup a = none) →
      codeAny (model P w) callerA (.call (.ref fl) ⟨[.ref a], []⟩) (fun r s' => r = .ok (.ret (.bool true)) ∧ OldK s1.heap s'.heap ∧ s'.os = s1.os ∧ AllBare s'.gens) s1 := by
    intro H only sq hok told
    have nsK : ∀ {b : Addr} {m : Str → Option Value}, s1.heap.Ns b m → (hidT s1.heap H).Ns b m := fun {b m} ⟨o, es, ep, e, d, r⟩ => by
      refine ⟨o, es, ep, hidT_get e ?_, d, r⟩
      cases q : H b with
      | none => rfl
      | some u =>
        rw [(told b u q).1, ha] at e
        cases e
        have d' : Data.seq vs.toArray _ = Data.dict es ep := d
        cases d'
    have kb : K.In (hidT s1.heap H) := fun b o e => hidT_get (KX b o e) (by
      cases q : H b with
      | none => rfl
      | some u =>
        obtain ⟨z1, z2⟩ := told b u q
        rw [z1, z2] at e; cases e)
    obtain ⟨mc, c1, c2⟩ := lim
    have e0 : Env0 P w K mg (hidT s1.heap H) callerA [] s1 H :=
      ⟨rfl, ⟨kb, nsK gm, ⟨mb, nsK gb, hbb⟩, ⟨mc, nsK c1, c2⟩⟩, fun b o e => of_hidT e, Nat.le_of_eq (hidT_size _ _), trivial, (fun b hb => absurd (show b ∈ ([] : List Addr) from hb) (by simp)), hok, .of_eq gens⟩
    refine codeAny_mono ((F _ kb (nsK gm)).run callerA [] s1 H ⟨[.ref a], []⟩ [.ref a] [.ref a] _ _ hr rfl e0 (hbind s1 (.ref a)) (.cons rfl .nil) (hsp H only sq)) fun r s' h => ?_
    cases r with
    | error e =>
      obtain ⟨_, _, _, _, _, _, _, _, _, _, _, _, z⟩ := h
      exact z.elim
    | ok flow =>
      cases flow with
      | next => exact False.elim h
      | brk => exact False.elim h
      | cont => exact False.elim h
      | ret u =>
        obtain ⟨v, H', os, bare, un, hok', r', q⟩ := h
        have q' : v = .bl true := q
        subst q'
        obtain rfl : u = Value.bool true := r'
        refine ⟨rfl, OldK.of_keep fun b o e => ?_, os, bare⟩
        cases q2 : H b with
        | none => exact un.keep b o e q2 (by intro z; cases z) (by simp)
        | some u =>
          rcases only b with z | ⟨ob, xs, z⟩
          · rw [q2] at z; cases z
          · obtain ⟨e1, _⟩ := hok b _ z
            obtain ⟨e2, _⟩ := hok' b _ (un.frzs b ob _ z)
            rw [e] at e1; cases e1
            exact e2
  cases hk : K.lookup a with
  | some o =>
    have e := KX a o hk
    rw [ha] at e
    cases e
    refine core (fun _ => none) (fun _ => .inl rfl) (.inr ⟨_, vs.toArray, _, hk, rfl, rfl, rfl, by rw [List.size_toArray, hi.length]; exact hl, by simpa using rv⟩) (fun b u z => ?_) fun b u z => ?_
    · have z' : (none : Option HO) = some u := z
      cases z'
    · have z' : (none : Option HO) = some u := z
      cases z'
  | none =>
    have at_ : ∀ {b : Addr} {u : HO}, (if b = a then some (HO.frz { cls := .type "list", data := .seq vs.toArray } (.lst (ns.map V.int))) else none) = some u → b = a ∧ u = .frz { cls := .type "list", data := .seq vs.toArray } (.lst (ns.map V.int)) := fun {b u} z => by
      split at z
      · rename_i e
        cases z
        exact ⟨e, rfl⟩
      · cases z
    refine core (fun b => if b = a then some (.frz { cls := .type "list", data := .seq vs.toArray } (.lst (ns.map V.int))) else none) (fun b => ?_) (.inl (.inr ⟨{ cls := .type "list", data := .seq vs.toArray }, if_pos rfl⟩)) (fun b u z => ?_) fun b u z => ⟨(at_ z).1, hk⟩
    · by_cases hb : b = a
      · exact .inr ⟨_, _, if_pos hb⟩
      · exact .inl (if_neg hb)
    · obtain ⟨z1, z2⟩ := at_ z
      subst z1 z2
      exact ⟨ha, by rw [List.length_map]; exact hl, vs, _, rv, ha⟩
theorem walk_G {l : PySem.W.OpenLaw} {n k : Nat} {q : Program} {loose : List Str} {XP : (Str → Option Value) → Heap → Prop} {YP : World → Heap → Prop} {d : DefRec} {x : Str} (hn : l.most = some n) (hn2 : n ≤ sizeLine) (hdf : d.params.defaults = []) (hr : Room k callerA)
    (F : ∀ (w : World) (mg : Str → Option Value) (fl : Addr) (h : Heap), YP w h → h.Ns mainGlobals mg → mg d.name = some (.ref fl) →
      ∃ (K : PySem.W.Frag) (fd : FuncData) (sp : Sp), K.In h ∧ (∀ (s : Shared) (u : Value), BindsTo s fd ⟨[u], []⟩ [(x, u)]) ∧ (∀ (H : Hp) (a : Addr) (ns : List Int), ns.length ≤ n → Only H → SqL K H a (ns.map V.int) → sp [.ref a] H (fun v _ => v = .bl true) fun _ _ _ => False) ∧
        ∀ base : Heap, K.In base → base.Ns mainGlobals mg → FnG l.prog w K mg base k fl fd [x] sp) : PySem.W.WalkO q loose XP YP l.row.toRowW d [] (fun f vs => PySem.call f vs) := by
  refine Att.attach_call hn hdf fun w s0 s1 mg mb fl o pm cd doc a vs ns G Y ho hd hcd hmg hobj hints hlen hg => ?_
  obtain ⟨K, fd, sp, KX, hb, hsp, hF⟩ := F w mg fl _ Y G.T.g hmg
  exact law_G KX G.T.g G.T.b G.T.builtins G.T.nolimit hg hobj hints (Nat.le_trans hlen hn2) hr hF hb fun H hO hS => hsp H a ns hlen hO hS
end Rt
end
section
set_option linter.all false
set_option autoImplicit false
set_option Elab.async false
set_option maxRecDepth 100000
set_option maxHeartbeats 2000000
namespace Rt
open PySem PySem.Spec PyProof.Rows L2
/-! ## The text read as a denotation -/
structure Gi where
  fns : List Str
  cls : List Str
  cons : List (Str × D)
  gcd : Bool
  /-- class c is below class h -/
  up : Nat → Nat → Bool
def ixOf : List Str → Str → Option Nat
  | [], _ => none
  | y :: ys, x => if y == x then some 0 else (ixOf ys x).map (· + 1)
theorem ixOf_get : ∀ {l : List Str} {x : Str} {i : Nat}, ixOf l x = some i → l[i]? = some x
  | [], _, _, h => by cases h
  | y :: ys, x, i, h => by
    unfold ixOf at h
    split at h
    · rename_i e
      cases h
      simp [eq_of_beq e]
    · obtain ⟨j, h1, rfl⟩ := Option.map_eq_some_iff.mp h
      simpa using ixOf_get h1
def lkC : List (Str × D) → Str → Option D
  | [], _ => none
  | (y, d) :: r, x => if y == x then some d else lkC r x
def vis (sc : Scope) (x : Str) : Bool := match sc.names.lookup x with
  | some .local => true
  | some .cell => true
  | some .free => true
  | _ => false
def glo (sc : Scope) (x : Str) : Bool := match sc.names.lookup x with
  | some .globalImplicit => true
  | _ => false
def okN (x : Str) : Bool := !(x == ("__debug__" : Str)) && (!(x == ("__classdict__" : Str)) && !(x == ("__name__" : Str)))
def cC : Const → Option Ex
  | .int i => some (xCon (.int i))
  | .str x => some (xCon (.str x))
  | .bool b => some (xCon (.bl b))
  | .none => some (xCon .non)
  | _ => none
def opD : Operator → Option (D → D → Option (D × Bool))
  | .Add => some dAdd
  | .Sub => some dSub
  | .Mult => some dMul
  | .FloorDiv => some dDiv
  | .Mod => some dMod
  | .Pow => some dPow
  | _ => none
def copD : CmpOp → Option Cop
  | .Eq => some .eq
  | .NotEq => some .ne
  | .Lt => some .lt
  | .LtE => some .le
  | .Gt => some .gt
  | .GtE => some .ge
  | .Is => some .is
  | .IsNot => some .isn
  | .In => some .inn
  | .NotIn => some .nin
def bltNames : List Str := ["abs", "int", "len", "min", "max", "sum", "all", "any", "repr", "range", "enumerate", "zip", "list", "tuple", "sorted", "set", "dict"]
def bltD2 (x : Str) : Option (List D → Option (D × Bool)) :=
  if x == ("list" : Str) then some bList else if x == ("tuple" : Str) then some bTuple else if x == ("sorted" : Str) then some bSorted else if x == ("dict" : Str) then some bDict else none
def bltD (x : Str) : Option (List D → Option (D × Bool)) :=
  if x == ("abs" : Str) then some bAbs else if x == ("int" : Str) then some bInt else if x == ("len" : Str) then some bLen else if x == ("min" : Str) then some bMin
  else if x == ("max" : Str) then some bMax else if x == ("sum" : Str) then some bSum else if x == ("all" : Str) then some bAll else if x == ("any" : Str) then some bAny else if x == ("repr" : Str) then some bRepr else bltD2 x
def mtD (x : Str) : Option (List D → List D → Option (D × Bool)) := if x == ("index" : Str) then some mIndex else if x == ("count" : Str) then some mCount else none
/-- -1 as the text has it -/
def isM1 : Expr → Bool
  | .UnaryOp .USub (.Constant (.int 1) _ _) _ => true
  | .Constant (.int (-1)) _ _ => true
  | _ => false
def isGet (m : Str) : Bool := m == ("get" : Str)
/-- an object of a method's call, not a call of a name without arguments -/
def plainO : Expr → Bool
  | .Call (.Name _ _) [] [] _ => false
  | _ => true
/-- list(range(a)) -/
def lrgOf : Expr → List Expr → List Keyword → Option Expr
  | .Name l _, [.Call (.Name r _) [a] [] _], [] => if l == ("list" : Str) && r == ("range" : Str) then some a else none
  | _, _, _ => none
/-- sorted(set(a)) -/
def ssOf : Expr → List Expr → List Keyword → Option Expr
  | .Name l _, [.Call (.Name r _) [a] [] _], [] => if l == ("sorted" : Str) && r == ("set" : Str) then some a else none
  | _, _, _ => none
def ownOf (N : List Str) : List (Str × NameKind) → List (Str × Nat)
  | [] => []
  | (x, .local) :: r => (match ixOf N x with | some i => (x, i) :: ownOf N r | none => ownOf N r)
  | (x, .cell) :: r => (match ixOf N x with | some i => (x, i) :: ownOf N r | none => ownOf N r)
  | _ :: r => ownOf N r
def notSetE : Expr → Bool
  | .Set _ _ _ => false
  | _ => true
def isTup : Expr → Bool
  | .Tuple _ _ _ => true
  | _ => false
def isTest : Expr → Bool
  | .UnaryOp .Not _ _ => true
  | .BoolOp _ _ _ => true
  | .IfExp _ _ _ _ => true
  | .Compare _ _ _ _ => true
  | _ => false
def okT (fn : Str → Bool) (sc : Scope) (x : Str) : Bool := okN x && (match sc.names.lookup x with
  | some .local => true
  | some .cell => fn x
  | _ => false)
section
variable (call : Nat → Fn) (G : Gi) (N : List Str)
mutual
def cG : Nat → (Str → Bool) → Scope → Expr → Option (List Nat × Tg)
  | 0, _, _, _ => none
  | n + 1, fn, sc, .Name x _ => if okT fn sc x then (ixOf N x).map fun i => ([i], gName i) else none
  | n + 1, fn, sc, .Tuple es _ _ => if es.all plainTg then (cGs n fn sc es).map fun p => (p.1, gTup p.2) else none
  | _ + 1, _, _, _ => none
def cGs : Nat → (Str → Bool) → Scope → List Expr → Option (List Nat × List Tg)
  | 0, _, _, _ => none
  | n + 1, fn, sc, [] => some ([], [])
  | n + 1, fn, sc, e :: es => (cG n fn sc e).bind fun p => (cGs n fn sc es).map fun q => (p.1 ++ q.1, p.2 :: q.2)
end
mutual
def cE : Nat → Scope → Expr → Option Ex
  | 0, _, _ => none
  | n + 1, sc, e => match e with
    | .Constant c _ _ => cC c
    | .Name x _ => if okN x then (if vis sc x then (ixOf N x).map xVar else if glo sc x then (match ixOf G.fns x with | some i => some (xCon (.fn i)) | none => (lkC G.cons x).map xCon) else none) else none
    | .BinOp a op b _ => (opD op).bind fun f => (cE n sc a).bind fun x => (cE n sc b).map fun y => xBin f x y
    | .UnaryOp .USub a _ => (cE n sc a).map xNeg
    | .UnaryOp .Not a _ => (cE n sc a).map xNot
    | .Compare a ops cs _ => cK n sc a ops cs
    | .BoolOp op es _ => cB n sc op es
    | .IfExp c a b _ => (cT n sc c).bind fun t => (cE n sc a).bind fun x => (cE n sc b).map fun y => xIf t x y
    | .Call f args kws p3 => (match lrgOf f args kws with
      | some a => if glo sc "list" && (glo sc "range" && notStar a) then (cE n sc a).map xLRg1 else none
      | none => match ssOf f args kws with
      | some a => if glo sc "sorted" && (glo sc "set" && notStar a) then (cE n sc a).map fun x => xBi bSSet [x] else none
      | none => match f, kws with
      | .Name f _, [] => if glo sc f && (okN f && args.all notStar) then (cA n sc args).bind fun fs => (match ixOf G.fns f with
          | some i => some (xCall (call i) fs)
          | none => if args.isEmpty then none else if f == ("gcd" : Str) then (if G.gcd then some (xBi bGcd fs) else none) else (bltD f).map fun g => xBi g fs) else none
      | .Subscript g i p, [] => if args.all notStar && !args.isEmpty then (cE n sc (.Subscript g i p)).bind fun x => (cA n sc args).map fun fs => xCallV G.fns.length call x fs else none
      | .Attribute ob m p2, [] => (match args with
        | [e] => if isGet m then (if plainO ob && (notStar e && p2.endLine == p3.line) then (cE n sc ob).bind fun x => (cE n sc e).map fun y => xGet x [y] else none)
            else if plainO ob && (([e] : List Expr).all notStar && (decide (([e] : List Expr).length + 0 + 0 < 30) && p2.endLine == p3.line)) then (mtD m).bind fun g => (cE n sc ob).bind fun x => (cA n sc [e]).map fun fs => xMt g x fs else none
        | [e, b] => if isGet m then (if plainO ob && (notStar e && (notStar b && p2.endLine == p3.line)) then (cE n sc ob).bind fun x => (cE n sc e).bind fun y => (cE n sc b).map fun z => xGet x [y, z] else none)
            else if plainO ob && (([e, b] : List Expr).all notStar && (decide (([e, b] : List Expr).length + 0 + 0 < 30) && p2.endLine == p3.line)) then (mtD m).bind fun g => (cE n sc ob).bind fun x => (cA n sc [e, b]).map fun fs => xMt g x fs else none
        | e :: es => if plainO ob && ((e :: es).all notStar && (decide ((e :: es).length + 0 + 0 < 30) && p2.endLine == p3.line)) then (mtD m).bind fun g => (cE n sc ob).bind fun x => (cA n sc (e :: es)).map fun fs => xMt g x fs else none
        | [] => none)
      | _, _ => none)
    | .Subscript a b _ => (match b with
      | .Slice lo hi none _ => (cE n sc a).bind fun x => (cO n sc lo).bind fun l => (cO n sc hi).map fun h => xSlice x l h
      | .Slice none none (some st) _ => if isM1 st then (cE n sc a).map fun x => xBi bRev [x] else none
      | b => if notSlice b then (cE n sc a).bind fun x => (cE n sc b).map fun y => xIdx x y else none)
    | .Dict keys values _ => (match keys, values with
      | [], [] => some xDct0
      | _, _ => none)
    | .List es _ => (cD n sc es).map xLst
    | .Tuple es _ _ => (cD n sc es).map xTup
    | .ListComp elt gens scope _ => (match gens with
      | [⟨tg, iter, ifs, 0⟩] => if blkC N sc scope (ownOf N scope.names) && notSetE iter then (cI n sc (isTup tg) iter).bind fun it => (cG N n (fun x => scope.names.lookup x == some .cell) (relS scope sc) tg).bind fun g => (cTs n (relS scope sc) ifs).bind fun t =>
          (cE n (relS scope sc) elt).bind fun e => if g.1.all ((ownOf N scope.names).map (·.2)).contains then some (xLC ((ownOf N scope.names).map (·.2)) it g.2 t e) else none
        else none
      | [⟨tg, iter, ifs, 0⟩, ⟨tg1, iter1, ifs1, 0⟩] => if blkC N sc scope (ownOf N scope.names) && (notSetE iter && notSetE iter1) then (cI n sc (isTup tg) iter).bind fun it => (cG N n (fun x => scope.names.lookup x == some .cell) (relS scope sc) tg).bind fun g => (cTs n (relS scope sc) ifs).bind fun t =>
          (cI n (relS scope sc) (isTup tg1) iter1).bind fun it1 => (cG N n (fun x => scope.names.lookup x == some .cell) (relS scope sc) tg1).bind fun g1 => (cTs n (relS scope sc) ifs1).bind fun t1 =>
          (cE n (relS scope sc) elt).bind fun e => if g.1.all ((ownOf N scope.names).map (·.2)).contains && g1.1.all ((ownOf N scope.names).map (·.2)).contains then some (xLC2 ((ownOf N scope.names).map (·.2)) g1.1 it g.2 t it1 g1.2 t1 e) else none
        else none
      | _ => none)
    | .DictComp kx elt gens scope _ => (match gens with
      | [⟨tg, iter, ifs, 0⟩] => if blkC N sc scope (ownOf N scope.names) && notSetE iter then (cI n sc (isTup tg) iter).bind fun it => (cG N n (fun x => scope.names.lookup x == some .cell) (relS scope sc) tg).bind fun g => (cTs n (relS scope sc) ifs).bind fun t =>
          (cE n (relS scope sc) kx).bind fun k => (cE n (relS scope sc) elt).bind fun e => if g.1.all ((ownOf N scope.names).map (·.2)).contains then some (xDC ((ownOf N scope.names).map (·.2)) it g.2 t k e) else none
        else none
      | _ => none)
    | _ => none
def cK : Nat → Scope → Expr → List CmpOp → List Expr → Option Ex
  | 0, _, _, _, _ => none
  | n + 1, sc, a, ops, cs => (match ops, cs with
      | [op], [b] => if behindInMarks op b then none else (copD op).bind fun o => (cE n sc a).bind fun x => (cE n sc b).map fun y => xCmp o x y
      | op :: op' :: ops, b :: c :: es => if lastMarks (op :: op' :: ops) (b :: c :: es) then none else (cE n sc a).bind fun x => (cL n sc (op :: op' :: ops) (b :: c :: es)).map fun l => xChain x l
      | _, _ => none)
def cA : Nat → Scope → List Expr → Option (List Ex)
  | 0, _, _ => none
  | n + 1, sc, [] => some []
  | n + 1, sc, e :: es => if notStar e then (cE n sc e).bind fun x => (cA n sc es).map fun xs => x :: xs else none
def cD : Nat → Scope → List Expr → Option (List (Bool × Ex))
  | 0, _, _ => none
  | n + 1, sc, [] => some []
  | n + 1, sc, e :: es => (match e with
    | .Starred a _ => (cE n sc a).bind fun x => (cD n sc es).map fun xs => (true, x) :: xs
    | e => if notStar e then (cE n sc e).bind fun x => (cD n sc es).map fun xs => (false, x) :: xs else none)
def cO : Nat → Scope → Option Expr → Option (Option Ex)
  | 0, _, _ => none
  | n + 1, sc, none => some none
  | n + 1, sc, some e => (cE n sc e).map some
def cL : Nat → Scope → List CmpOp → List Expr → Option (List (Cop × Ex))
  | 0, _, _, _ => none
  | n + 1, sc, [], [] => some []
  | n + 1, sc, op :: ops, e :: es => (copD op).bind fun o => (cE n sc e).bind fun x => (cL n sc ops es).map fun l => (o, x) :: l
  | _ + 1, _, _, _ => none
def cB : Nat → Scope → BoolOp → List Expr → Option Ex
  | 0, _, _, _ => none
  | n + 1, sc, op, es => (match es with
    | [a] => cE n sc a
    | a :: b :: r => (cE n sc a).bind fun x => (cB n sc op (b :: r)).map fun y => (match op with | .And => xAnd x y | .Or => xOr x y)
    | _ => none)
def cT : Nat → Scope → Expr → Option Tst
  | 0, _, _ => none
  | n + 1, sc, e => match e with
    | .UnaryOp .Not a _ => (cT n sc a).map tNot
    | .BoolOp op es _ => cW n sc op es
    | .Compare a ops cs _ => (cK n sc a ops cs).map tOf
    | e => if isTest e then none else (cE n sc e).map tOf
def cW : Nat → Scope → BoolOp → List Expr → Option Tst
  | 0, _, _, _ => none
  | n + 1, sc, op, es => (match es with
    | [a] => cT n sc a
    | a :: b :: r => (cT n sc a).bind fun x => (cW n sc op (b :: r)).map fun y => (match op with | .And => tAnd x y | .Or => tOr x y)
    | _ => none)
def cTs : Nat → Scope → List Expr → Option Tst
  | 0, _, _ => none
  | n + 1, sc, es => (match es with
    | [] => some tYesD
    | [c] => cT n sc c
    | _ => none)
def cI : Nat → Scope → Bool → Expr → Option Itr
  | 0, _, _, _ => none
  | n + 1, sc, tup, e => match e with
    | .Call f args kws p => (match f, args, kws with
      | .Name f p0, [a], [] => if glo sc f && (f == ("range" : Str)) && notStar a then (cE n sc a).map iRng1
          else if glo sc f && (f == ("enumerate" : Str)) && notStar a then (if tup then (cE n sc a).map iEnum else none)
          else (cE n sc (.Call (.Name f p0) [a] [] p)).map iSeq
      | .Name f p0, [a, b], [] => if glo sc f && (f == ("range" : Str)) && (notStar a && notStar b) then (cE n sc a).bind fun x => (cE n sc b).map fun y => iRng2 x y
          else if glo sc f && (f == ("zip" : Str)) && (notStar a && notStar b) then (if tup then (cE n sc a).bind fun x => (cE n sc b).map fun y => iZip x y else none)
          else (cE n sc (.Call (.Name f p0) [a, b] [] p)).map iSeq
      | .Name f p0, [a, b, c], [] => if glo sc f && (f == ("range" : Str)) && (notStar a && (notStar b && notStar c)) then (cE n sc a).bind fun x => (cE n sc b).bind fun y => (cE n sc c).map fun z => iRng3 x y z
          else (cE n sc (.Call (.Name f p0) [a, b, c] [] p)).map iSeq
      | f, args, kws => (cE n sc (.Call f args kws p)).map iSeq)
    | e => (cE n sc e).map iSeq
end
end
/-! ## Soundness -/
structure Okx (fa ca : Nat → Addr) (call : Nat → Fn) (G : Gi) (N : List Str) (fn : Str → Bool) (sc : Scope) (X : Cx) : Prop where
  calm : X.calm = true
  nm : X.N = N
  nd : N.Nodup
  scq : X.env.scope = sc
  kind : sc.kind = .function
  cl : ∀ i x, G.fns[i]? = some x → X.mg x = some (.ref (fa i)) ∧ Cl fa ca X (fa i) (call i)
  co : ∀ x d, lkC G.cons x = some d → ∃ v u, X.mg x = some u ∧ RelV v u ∧ ∀ Z, Rep fa X.K Z d v
  no : ∀ x, bltNames.contains x = true → X.mg x = none
  gd : G.gcd = true → X.mg "gcd" = some (.builtin "math.gcd")
  room : ∃ k, Room k X.A
  gs : X.A.guards = some []
  fnq : ∀ x, fn x = true → X.fn x = true
section
variable {fa ca : Nat → Addr} {call : Nat → Fn} {G : Gi} {N : List Str} {fn : Str → Bool} {sc : Scope} {X : Cx}
theorem Okx.blk (o : Okx fa ca call G N fn sc X) {scope : Scope} (hk : scope.kind = .function) (s : Shared) (H : Hp) (C : Addr) (cl : List (Str × Addr)) (fp : List Addr) :
    Okx fa ca call G N (fun x => scope.names.lookup x == some .cell) (relS scope sc) (blkN X scope s H C cl fp) where
  calm := o.calm
  nm := o.nm
  nd := o.nd
  scq := by show relS scope X.env.scope = _; rw [o.scq]
  kind := hk
  cl := fun i x h => ⟨(o.cl i x h).1, (o.cl i x h).2.keep, (o.cl i x h).2.fn⟩
  co := o.co
  no := o.no
  gd := o.gd
  room := o.room
  gs := o.gs
  fnq := fun x h => h
theorem glo_gl (o : Okx fa ca call G N fn sc X) {x : Str} (h : glo sc x = true) : Gl X x := by
  show X.env.scope.names.lookup x = some .globalImplicit
  rw [o.scq]
  unfold glo at h
  split at h
  · assumption
  · cases h
theorem vis_vis (o : Okx fa ca call G N fn sc X) {x : Str} (h : vis sc x = true) : Vis X.env.scope x := by
  unfold Vis
  rw [o.scq]
  unfold vis at h
  split at h
  · exact .inl (by assumption)
  · exact .inr (.inl (by assumption))
  · exact .inr (.inr (by assumption))
  · cases h
theorem okN_of {x : Str} (h : okN x = true) : (x == ("__debug__" : Str)) = false ∧ (x == ("__classdict__" : Str)) = false ∧ x ≠ "__name__" := by
  simp only [okN, Bool.and_eq_true, Bool.not_eq_true'] at h
  exact ⟨h.1, h.2.1, fun e => by rw [e] at h; exact absurd h.2.2 (by decide)⟩
theorem sndG_ok : ∀ (n : Nat) (fn : Str → Bool) (sc : Scope) (X : Cx), Okx fa ca call G N fn sc X → (∀ (e : Expr) (is : List Nat) (g : Tg), cG N n fn sc e = some (is, g) → SndG fa X e is g ∧ plainTg e = true) ∧ (∀ (es : List Expr) (is : List Nat) (gs : List Tg), cGs N n fn sc es = some (is, gs) → SndGs fa X es is gs)
  | 0, _, _, _, _ => ⟨fun e is g h => by simp [cG] at h, fun es is gs h => by simp [cGs] at h⟩
  | n + 1, fn, sc, X, o => by
    obtain ⟨ih1, ih2⟩ := sndG_ok n fn sc X o
    refine ⟨fun e is g h => ?_, fun es is gs h => ?_⟩
    · cases e with
      | Name x pos =>
        simp only [cG] at h
        split at h
        · rename_i c
          simp only [okT, Bool.and_eq_true] at c
          obtain ⟨i, e1, e2⟩ := Option.map_eq_some_iff.mp h
          cases e2
          have lk : (sc.names.lookup x = some .local) ∨ (sc.names.lookup x = some .cell ∧ fn x = true) := by
            have c2 := c.2
            split at c2
            · exact .inl (by assumption)
            · exact .inr ⟨by assumption, c2⟩
            · cases c2
          refine ⟨sndG_name (by rw [o.nm]; exact o.nd) (by rw [o.nm]; exact ixOf_get e1) ?_ ?_, rfl⟩
          · unfold L2.Loc
            rw [o.scq]
            exact lk.imp id (·.1)
          · rw [o.scq]
            exact lk.elim .inr fun z => .inl (o.fnq x z.2)
        · cases h
      | Tuple es k pos =>
        simp only [cG] at h
        split at h
        · rename_i c
          obtain ⟨⟨js, gs⟩, e1, e2⟩ := Option.map_eq_some_iff.mp h
          cases e2
          exact ⟨sndG_tup o.calm (ih2 es js gs e1) c, rfl⟩
        · cases h
      | _ => simp [cG] at h
    · cases es with
      | nil =>
        simp only [cGs, Option.some.injEq, Prod.mk.injEq] at h
        obtain ⟨rfl, rfl⟩ := h
        exact sndGs_nil
      | cons e es =>
        simp only [cGs] at h
        obtain ⟨⟨i1, g1⟩, e1, h⟩ := Option.bind_eq_some_iff.mp h
        obtain ⟨⟨i2, g2⟩, e2, h⟩ := Option.map_eq_some_iff.mp h
        cases h
        obtain ⟨q1, q2⟩ := ih1 e i1 g1 e1
        exact sndGs_cons q2 q1 (ih2 es i2 g2 e2)
theorem opD_ok {op : Operator} {f : D → D → Option (D × Bool)} (h : opD op = some f) : OpS fa X (binaryOp op) f := by
  cases op <;> simp only [opD, Option.some.injEq, reduceCtorEq] at h <;> subst h
  · exact ops_add
  · exact ops_sub
  · exact ops_mul
  · exact ops_mod
  · exact ops_pow
  · exact ops_div
theorem copD_ok {op : CmpOp} {c : Cop} (hr : ∃ k, Room k X.A) (h : copD op = some c) : CmpS fa X op c := by
  obtain ⟨k, hr⟩ := hr
  cases op <;> simp only [copD, Option.some.injEq, reduceCtorEq] at h <;> subst h
  · exact cmp_eq hr
  · exact cmp_ne hr
  · exact cmp_lt
  · exact cmp_le
  · exact cmp_gt
  · exact cmp_ge
  · exact cmp_is
  · exact cmp_isn
  · exact cmp_in hr
  · exact cmp_nin hr
theorem cC_ok {c : Const} {k : Nat} {pos : Pos} {d : Ex} (h : cC c = some d) : Snd fa ca X (.Constant c k pos) d := by
  cases c <;> simp only [cC, Option.some.injEq, reduceCtorEq] at h <;> subst h
  · exact snd_con pe_non fun _ => by simp only [Rep]
  · exact snd_con pe_bl fun _ => by simp only [Rep]
  · exact snd_con pe_int fun _ => by simp only [Rep]
  · exact snd_con pe_str fun _ => by simp only [Rep]
theorem test_val {e : Expr} {env : PySem.Env} (h : isTest e = false) : ∀ whole, isTrue e env whole = (do let v ← whole; standAt e.pos; holding [v] (truthy v)) := fun whole => by
  cases e with
  | UnaryOp op a p => cases op <;> first | rfl | exact absurd h (by simp [isTest])
  | _ => first | rfl | exact absurd h (by simp [isTest])
theorem notSet_ok {e : Expr} {env : PySem.Env} (h : notSetE e = true) : ∀ x, foldedSetIterable e env x = pure x := fun x => by
  cases e <;> first | rfl | exact absurd h (by simp [notSetE])
theorem blt_ok (o : Okx fa ca call G N fn sc X) {f : Str} {g : List D → Option (D × Bool)} {es : List Expr} {fs : List Ex} {p0 pos : Pos} (hg : glo sc f = true) (hn : okN f = true) (h : bltD f = some g) (ha : SndA fa ca X es fs) (hst : es.all notStar = true) (hne : es ≠ []) :
    Snd fa ca X (.Call (.Name f p0) es [] pos) (xBi g fs) := by
  obtain ⟨h1, h2, h3⟩ := okN_of hn
  have gl := glo_gl o hg
  obtain ⟨k, hr⟩ := o.room
  unfold bltD at h
  split at h
  · rename_i c; have e := eq_of_beq c; subst e; cases h
    exact snd_bi bi_abs gl (o.no _ (by decide)) (by first | boot_by_name | decide +kernel) h3 h1 ha hst hne
  split at h
  · rename_i c; have e := eq_of_beq c; subst e; cases h
    exact snd_biT bi_int gl (o.no _ (by decide)) (by first | boot_by_name | decide +kernel) h3 h1 ha hst hne
  split at h
  · rename_i c; have e := eq_of_beq c; subst e; cases h
    exact snd_bi bi_len gl (o.no _ (by decide)) (by first | boot_by_name | decide +kernel) h3 h1 ha hst hne
  split at h
  · rename_i c; have e := eq_of_beq c; subst e; cases h
    exact snd_bi (bi_min hr o.calm) gl (o.no _ (by decide)) (by first | boot_by_name | decide +kernel) h3 h1 ha hst hne
  split at h
  · rename_i c; have e := eq_of_beq c; subst e; cases h
    exact snd_bi (bi_max hr o.calm) gl (o.no _ (by decide)) (by first | boot_by_name | decide +kernel) h3 h1 ha hst hne
  split at h
  · rename_i c; have e := eq_of_beq c; subst e; cases h
    exact snd_bi (bi_sum o.calm) gl (o.no _ (by decide)) (by first | boot_by_name | decide +kernel) h3 h1 ha hst hne
  split at h
  · rename_i c; have e := eq_of_beq c; subst e; cases h
    exact snd_bi (bi_all o.calm) gl (o.no _ (by decide)) (by first | boot_by_name | decide +kernel) h3 h1 ha hst hne
  split at h
  · rename_i c; have e := eq_of_beq c; subst e; cases h
    exact snd_bi (bi_any o.calm) gl (o.no _ (by decide)) (by first | boot_by_name | decide +kernel) h3 h1 ha hst hne
  split at h
  · rename_i c; have e := eq_of_beq c; subst e; cases h
    exact snd_bi (bi_repr o.gs hr.units) gl (o.no _ (by decide)) (by first | boot_by_name | decide +kernel) h3 h1 ha hst hne
  unfold bltD2 at h
  split at h
  · rename_i c; have e := eq_of_beq c; subst e; cases h
    exact snd_biT bi_list gl (o.no _ (by decide)) (by first | boot_by_name | decide +kernel) h3 h1 ha hst hne
  split at h
  · rename_i c; have e := eq_of_beq c; subst e; cases h
    exact snd_biT bi_tuple gl (o.no _ (by decide)) (by first | boot_by_name | decide +kernel) h3 h1 ha hst hne
  split at h
  · rename_i c; have e := eq_of_beq c; subst e; cases h
    exact snd_bi (bi_sorted hr) gl (o.no _ (by decide)) (by first | boot_by_name | decide +kernel) h3 h1 ha hst hne
  split at h
  · rename_i c; have e := eq_of_beq c; subst e; cases h
    exact snd_biT (bi_dict o.calm) gl (o.no _ (by decide)) (by first | boot_by_name | decide +kernel) h3 h1 ha hst hne
  · cases h
theorem base_ok {ob : Expr} {m : Str} {env : PySem.Env} (h : plainO ob = true) : attributeBase ob m env (eval ob env) = eval ob env := by
  cases ob with
  | Call f args kws pos =>
    cases f with
    | Name x p =>
      cases args with
      | nil =>
        cases kws with
        | nil => exact absurd h (by simp [plainO])
        | cons k ks => rfl
      | cons a as => rfl
    | _ => rfl
  | _ => rfl
theorem m1_pe {st : Expr} (h : isM1 st = true) : PE X st (fun σ H Q => Q (.int (-1)) H) := by
  unfold isM1 at h
  split at h
  · refine ⟨fun pins s σ H Q I q => (pe_un un_neg pe_int).run pins s σ H Q I ?_⟩
    exact ⟨1, rfl, q⟩
  · exact pe_int
  · cases h
theorem lrg_ok {f : Expr} {args : List Expr} {kws : List Keyword} {a : Expr} (h : lrgOf f args kws = some a) : ∃ p0 p1 p2, f = .Name "list" p0 ∧ args = [.Call (.Name "range" p1) [a] [] p2] ∧ kws = [] := by
  unfold lrgOf at h
  split at h
  · split at h
    · rename_i c
      simp only [Bool.and_eq_true] at c
      cases h
      rw [eq_of_beq c.1, eq_of_beq c.2]
      exact ⟨_, _, _, rfl, rfl, rfl⟩
    · cases h
  · cases h
theorem ss_ok {f : Expr} {args : List Expr} {kws : List Keyword} {a : Expr} (h : ssOf f args kws = some a) : ∃ p0 p1 p2, f = .Name "sorted" p0 ∧ args = [.Call (.Name "set" p1) [a] [] p2] ∧ kws = [] := by
  unfold ssOf at h
  split at h
  · split at h
    · rename_i c
      simp only [Bool.and_eq_true] at c
      cases h
      rw [eq_of_beq c.1, eq_of_beq c.2]
      exact ⟨_, _, _, rfl, rfl, rfl⟩
    · cases h
  · cases h
structure SAll (fa ca : Nat → Addr) (call : Nat → Fn) (G : Gi) (N : List Str) (n : Nat) : Prop where
  E : ∀ (fn : Str → Bool) (sc : Scope) (X : Cx), Okx fa ca call G N fn sc X → ∀ (e : Expr) (d : Ex), cE call G N n sc e = some d → Snd fa ca X e d
  K : ∀ (fn : Str → Bool) (sc : Scope) (X : Cx), Okx fa ca call G N fn sc X → ∀ (a : Expr) (ops : List CmpOp) (cs : List Expr) (d : Ex), cK call G N n sc a ops cs = some d → ∀ pos, Snd fa ca X (.Compare a ops cs pos) d ∧ SndT fa ca X (.Compare a ops cs pos) (tOf d)
  A : ∀ (fn : Str → Bool) (sc : Scope) (X : Cx), Okx fa ca call G N fn sc X → ∀ (e : List Expr) (d : List Ex), cA call G N n sc e = some d → SndA fa ca X e d
  D : ∀ (fn : Str → Bool) (sc : Scope) (X : Cx), Okx fa ca call G N fn sc X → ∀ (e : List Expr) (d : List (Bool × Ex)), cD call G N n sc e = some d → SndD fa ca X e d
  O : ∀ (fn : Str → Bool) (sc : Scope) (X : Cx), Okx fa ca call G N fn sc X → ∀ (e : Option Expr) (d : Option Ex), cO call G N n sc e = some d → SndO fa ca X e d
  L : ∀ (fn : Str → Bool) (sc : Scope) (X : Cx), Okx fa ca call G N fn sc X → ∀ (ops : List CmpOp) (e : List Expr) (d : List (Cop × Ex)), cL call G N n sc ops e = some d → Links fa ca X ops e d
  B : ∀ (fn : Str → Bool) (sc : Scope) (X : Cx), Okx fa ca call G N fn sc X → ∀ (op : BoolOp) (e : List Expr) (d : Ex), cB call G N n sc op e = some d → ∀ pos, Snd fa ca X (.BoolOp op e pos) d
  T : ∀ (fn : Str → Bool) (sc : Scope) (X : Cx), Okx fa ca call G N fn sc X → ∀ (e : Expr) (d : Tst), cT call G N n sc e = some d → SndT fa ca X e d
  W : ∀ (fn : Str → Bool) (sc : Scope) (X : Cx), Okx fa ca call G N fn sc X → ∀ (op : BoolOp) (e : List Expr) (d : Tst), cW call G N n sc op e = some d → ∀ pos, SndW fa ca X (.BoolOp op e pos) d
  Ts : ∀ (fn : Str → Bool) (sc : Scope) (X : Cx), Okx fa ca call G N fn sc X → ∀ (e : List Expr) (d : Tst), cTs call G N n sc e = some d → SndTs fa ca X e d
  I : ∀ (fn : Str → Bool) (sc : Scope) (X : Cx), Okx fa ca call G N fn sc X → ∀ (tg e : Expr) (d : Itr), cI call G N n sc (isTup tg) e = some d → SndI fa ca X tg e d
theorem ne_nil {es : List Expr} (h : es.isEmpty = false) : es ≠ [] := fun e => by rw [e] at h; cases h
theorem call_eq {f : Expr} {args : List Expr} {pos : Pos} {env : PySem.Env} {g i : Expr} {p : Pos} (e : f = .Subscript g i p) : eval (.Call f args [] pos) env = (do callWith pos (← eval f env) [] (backTo pos (starEach args env)) (backToKw pos (keywordEach [] env))) := by
  subst e; rfl
theorem sall_E {n : Nat} (ih : SAll fa ca call G N n) (fn : Str → Bool) (sc : Scope) (X : Cx) (o : Okx fa ca call G N fn sc X) (e : Expr) (d : Ex) (h : cE call G N (n + 1) sc e = some d) : Snd fa ca X e d := by
  cases e with
  | Constant c k pos => simp only [cE] at h; exact cC_ok h
  | Name x pos =>
    simp only [cE] at h
    split at h
    case isFalse => cases h
    rename_i c
    obtain ⟨h1, h2, h3⟩ := okN_of c
    split at h
    · rename_i v
      obtain ⟨i, e1, rfl⟩ := Option.map_eq_some_iff.mp h
      exact snd_var (by rw [o.nm]; exact ixOf_get e1) (vis_vis o v) h1 h2
    · split at h
      case isFalse => cases h
      rename_i g
      have gl := glo_gl o g
      split at h
      · rename_i i e1
        cases h
        exact snd_con (pe_glob gl (o.cl i x (ixOf_get e1)).1 (v := .ref (fa i)) rfl h1) fun _ => by simp only [Rep]
      · obtain ⟨d0, e1, rfl⟩ := Option.map_eq_some_iff.mp h
        obtain ⟨v, u, q1, q2, q3⟩ := o.co x d0 e1
        exact snd_con (pe_glob gl q1 q2 h1) q3
  | BinOp a op b pos =>
    simp only [cE] at h
    obtain ⟨f, e1, h⟩ := Option.bind_eq_some_iff.mp h
    obtain ⟨x, e2, h⟩ := Option.bind_eq_some_iff.mp h
    obtain ⟨y, e3, rfl⟩ := Option.map_eq_some_iff.mp h
    exact snd_bin (opD_ok e1) (ih.E _ _ _ o _ _ e2) (ih.E _ _ _ o _ _ e3)
  | UnaryOp op a pos =>
    cases op <;> simp only [cE, reduceCtorEq] at h
    · obtain ⟨x, e2, rfl⟩ := Option.map_eq_some_iff.mp h
      exact snd_not (ih.E _ _ _ o _ _ e2)
    · obtain ⟨x, e2, rfl⟩ := Option.map_eq_some_iff.mp h
      exact snd_neg (ih.E _ _ _ o _ _ e2)
  | Compare a ops cs pos =>
    simp only [cE] at h
    exact (ih.K _ _ _ o _ _ _ _ h pos).1
  | BoolOp op es pos =>
    simp only [cE] at h
    exact ih.B _ _ _ o op es d h pos
  | IfExp c a b pos =>
    simp only [cE] at h
    obtain ⟨t, e1, h⟩ := Option.bind_eq_some_iff.mp h
    obtain ⟨x, e2, h⟩ := Option.bind_eq_some_iff.mp h
    obtain ⟨y, e3, rfl⟩ := Option.map_eq_some_iff.mp h
    exact snd_if (ih.T _ _ _ o _ _ e1) (ih.E _ _ _ o _ _ e2) (ih.E _ _ _ o _ _ e3)
  | Call f args kws pos =>
    simp only [cE] at h
    split at h
    · rename_i a ea
      split at h
      case isFalse => cases h
      rename_i c
      simp only [Bool.and_eq_true] at c
      obtain ⟨p0, p1, p2, rfl, rfl, rfl⟩ := lrg_ok ea
      obtain ⟨x, e1, rfl⟩ := Option.map_eq_some_iff.mp h
      exact snd_lrg1 o.calm (glo_gl o c.2.1) (o.no _ (by decide)) (glo_gl o c.1) (o.no _ (by decide)) c.2.2 (ih.E _ _ _ o _ _ e1)
    split at h
    · rename_i a ea
      split at h
      case isFalse => cases h
      rename_i c
      simp only [Bool.and_eq_true] at c
      obtain ⟨p0, p1, p2, rfl, rfl, rfl⟩ := ss_ok ea
      obtain ⟨x, e1, rfl⟩ := Option.map_eq_some_iff.mp h
      exact snd_sset o.calm (glo_gl o c.1) (o.no _ (by decide)) (glo_gl o c.2.1) (o.no _ (by decide)) c.2.2 (ih.E _ _ _ o _ _ e1)
    split at h
    · split at h
      case isFalse => cases h
      rename_i f p0 _ _ c
      simp only [Bool.and_eq_true] at c
      obtain ⟨cg, cn, cs⟩ := c
      obtain ⟨h1, h2, h3⟩ := okN_of cn
      have gl := glo_gl o cg
      obtain ⟨fs, e1, h⟩ := Option.bind_eq_some_iff.mp h
      have sa := ih.A _ _ _ o _ _ e1
      split at h
      · rename_i i e2
        cases h
        obtain ⟨q1, q2⟩ := o.cl i f (ixOf_get e2)
        have cS := q2.callS o.gs
        cases args with
        | nil =>
          have : fs = [] := by
            cases n <;> simp [cA] at e1
            exact e1
          subst this
          exact snd_call0 cS gl q1 h1
        | cons e es => exact snd_call cS gl q1 h1 sa cs (by simp)
      · split at h
        · cases h
        rename_i ne
        have ne' : args ≠ [] := ne_nil (by simpa using ne)
        split at h
        · rename_i c2
          have e := eq_of_beq c2
          split at h
          · rename_i gc
            cases h
            rw [e] at gl h1 ⊢
            exact snd_biM bi_gcd gl (o.gd gc) h1 sa cs ne'
          · cases h
        · obtain ⟨g, e2, rfl⟩ := Option.map_eq_some_iff.mp h
          exact blt_ok o cg cn e2 sa cs ne'
    · split at h
      case isFalse => cases h
      rename_i g i p c
      simp only [Bool.and_eq_true, Bool.not_eq_true'] at c
      obtain ⟨x, e1, h⟩ := Option.bind_eq_some_iff.mp h
      obtain ⟨fs, e2, rfl⟩ := Option.map_eq_some_iff.mp h
      exact snd_callV (fun i lt => (o.cl i _ (List.getElem?_eq_getElem lt)).2.callS o.gs) (ih.E _ _ _ o _ _ e1) (ih.A _ _ _ o _ _ e2) c.1 (ne_nil c.2) (call_eq rfl)
    · rename_i ob m p2 _ _
      have gen : ∀ (e : Expr) (es : List Expr), (if plainO ob && ((e :: es).all notStar && (decide ((e :: es).length + 0 + 0 < 30) && p2.endLine == pos.line)) then (mtD m).bind fun g => (cE call G N n sc ob).bind fun x => (cA call G N n sc (e :: es)).map fun fs => xMt g x fs else none) = some d →
          Snd fa ca X (.Call (.Attribute ob m p2) (e :: es) [] pos) d := fun e es h => by
        split at h
        case isFalse => cases h
        rename_i c
        rw [Bool.and_eq_true, Bool.and_eq_true, Bool.and_eq_true] at c
        obtain ⟨c1, c2, c3, c4⟩ := c
        obtain ⟨g, e0, h⟩ := Option.bind_eq_some_iff.mp h
        obtain ⟨x, e1, h⟩ := Option.bind_eq_some_iff.mp h
        obtain ⟨fs, e2, rfl⟩ := Option.map_eq_some_iff.mp h
        have s1 := ih.E _ _ _ o _ _ e1
        have s2 := ih.A _ _ _ o _ _ e2
        unfold mtD at e0
        split at e0
        · rename_i cm
          have em := eq_of_beq cm
          subst em
          cases e0
          exact snd_mt mt_idx PySem.F.slot_list_index PySem.F.type_list_index s1 s2 c2 c3 c4 (base_ok c1)
        split at e0
        · rename_i cm
          have em := eq_of_beq cm
          subst em
          cases e0
          exact snd_mt mt_cnt PySem.F.slot_list_count PySem.F.type_list_count s1 s2 c2 c3 c4 (base_ok c1)
        · cases e0
      split at h
      · rename_i e
        split at h
        · rename_i cm
          have em : m = ("get" : Str) := eq_of_beq cm
          subst em
          split at h
          case isFalse => cases h
          rename_i c
          simp only [Bool.and_eq_true] at c
          obtain ⟨x, e1, h⟩ := Option.bind_eq_some_iff.mp h
          obtain ⟨y, e2, rfl⟩ := Option.map_eq_some_iff.mp h
          obtain ⟨kk, hr⟩ := o.room
          exact snd_get1 hr (ih.E _ _ _ o _ _ e1) (ih.E _ _ _ o _ _ e2) (m1_of (base_ok c.1) c.2.1 c.2.2)
        · exact gen _ [] h
      · rename_i e b
        split at h
        · rename_i cm
          have em : m = ("get" : Str) := eq_of_beq cm
          subst em
          split at h
          case isFalse => cases h
          rename_i c
          simp only [Bool.and_eq_true] at c
          obtain ⟨x, e1, h⟩ := Option.bind_eq_some_iff.mp h
          obtain ⟨y, e2, h⟩ := Option.bind_eq_some_iff.mp h
          obtain ⟨z, e3, rfl⟩ := Option.map_eq_some_iff.mp h
          obtain ⟨kk, hr⟩ := o.room
          exact snd_get2 hr (ih.E _ _ _ o _ _ e1) (ih.E _ _ _ o _ _ e2) (ih.E _ _ _ o _ _ e3) (m2_of (base_ok c.1) c.2.1 c.2.2.1 c.2.2.2)
        · exact gen _ [_] h
      · exact gen _ _ h
      · cases h
    · cases h
  | Subscript a b pos =>
    simp only [cE] at h
    split at h
    · obtain ⟨x, e1, h⟩ := Option.bind_eq_some_iff.mp h
      obtain ⟨l, e2, h⟩ := Option.bind_eq_some_iff.mp h
      obtain ⟨y, e3, rfl⟩ := Option.map_eq_some_iff.mp h
      exact snd_slice (ih.E _ _ _ o _ _ e1) (ih.O _ _ _ o _ _ e2) (ih.O _ _ _ o _ _ e3)
    · split at h
      case isFalse => cases h
      rename_i c
      obtain ⟨x, e1, rfl⟩ := Option.map_eq_some_iff.mp h
      exact snd_rev (m1_pe c) (ih.E _ _ _ o _ _ e1)
    · split at h
      case isFalse => cases h
      rename_i c
      obtain ⟨x, e1, h⟩ := Option.bind_eq_some_iff.mp h
      obtain ⟨y, e3, rfl⟩ := Option.map_eq_some_iff.mp h
      obtain ⟨kk, hr⟩ := o.room
      exact snd_idx hr (ih.E _ _ _ o _ _ e1) (ih.E _ _ _ o _ _ e3) c
  | Dict keys values pos =>
    simp only [cE] at h
    split at h
    · cases h
      exact snd_dct0
    · cases h
  | List es pos =>
    simp only [cE] at h
    obtain ⟨x, e1, rfl⟩ := Option.map_eq_some_iff.mp h
    exact snd_lst (ih.D _ _ _ o _ _ e1)
  | Tuple es k pos =>
    simp only [cE] at h
    obtain ⟨x, e1, rfl⟩ := Option.map_eq_some_iff.mp h
    exact snd_tup (ih.D _ _ _ o _ _ e1)
  | ListComp elt gens scope pos =>
    simp only [cE] at h
    split at h
    · rename_i tg iter ifs
      split at h
      case isFalse => cases h
      rename_i c
      simp only [Bool.and_eq_true] at c
      obtain ⟨it, e1, h⟩ := Option.bind_eq_some_iff.mp h
      obtain ⟨⟨is, g⟩, e2, h⟩ := Option.bind_eq_some_iff.mp h
      obtain ⟨t, e3, h⟩ := Option.bind_eq_some_iff.mp h
      obtain ⟨x, e4, h⟩ := Option.bind_eq_some_iff.mp h
      split at h
      case isFalse => cases h
      rename_i c2
      cases h
      have bk := blkOk_by c.1
      have nd : X.N.Nodup := by rw [o.nm]; exact o.nd
      exact snd_lc (own := ownOf N scope.names) o.calm nd (ih.I _ _ _ o tg iter it e1) (by rw [o.nm, o.scq]; exact bk) (fun i hi => by
          rw [List.all_eq_true] at c2
          simpa using c2 i hi) (fun s H C cl fp => ((sndG_ok n _ _ _ (o.blk bk.kind s H C cl fp)).1 tg is g e2).1) (fun s H C cl fp => ih.Ts _ _ _ (o.blk bk.kind s H C cl fp) ifs t e3)
        (fun s H C cl fp => ih.E _ _ _ (o.blk bk.kind s H C cl fp) elt x e4) (notSet_ok c.2)
    · rename_i tg iter ifs tg1 iter1 ifs1
      split at h
      case isFalse => cases h
      rename_i c
      simp only [Bool.and_eq_true] at c
      obtain ⟨it, e1, h⟩ := Option.bind_eq_some_iff.mp h
      obtain ⟨⟨is, g⟩, e2, h⟩ := Option.bind_eq_some_iff.mp h
      obtain ⟨t, e3, h⟩ := Option.bind_eq_some_iff.mp h
      obtain ⟨it1, e5, h⟩ := Option.bind_eq_some_iff.mp h
      obtain ⟨⟨js, g1⟩, e6, h⟩ := Option.bind_eq_some_iff.mp h
      obtain ⟨t1, e7, h⟩ := Option.bind_eq_some_iff.mp h
      obtain ⟨x, e4, h⟩ := Option.bind_eq_some_iff.mp h
      split at h
      case isFalse => cases h
      rename_i c2
      cases h
      rw [Bool.and_eq_true] at c2
      have bk := blkOk_by c.1
      have nd : X.N.Nodup := by rw [o.nm]; exact o.nd
      exact snd_lc2 (own := ownOf N scope.names) o.calm nd (ih.I _ _ _ o tg iter it e1) (by rw [o.nm, o.scq]; exact bk) (fun i hi => by
          have z := c2.1
          rw [List.all_eq_true] at z
          simpa using z i hi) (fun i hi => by
          have z := c2.2
          rw [List.all_eq_true] at z
          simpa using z i hi) (fun s H C cl fp => ((sndG_ok n _ _ _ (o.blk bk.kind s H C cl fp)).1 tg is g e2).1) (fun s H C cl fp => ih.Ts _ _ _ (o.blk bk.kind s H C cl fp) ifs t e3)
        (fun s H C cl fp => ih.I _ _ _ (o.blk bk.kind s H C cl fp) tg1 iter1 it1 e5) (fun s H C cl fp => ((sndG_ok n _ _ _ (o.blk bk.kind s H C cl fp)).1 tg1 js g1 e6).1) (fun s H C cl fp => ih.Ts _ _ _ (o.blk bk.kind s H C cl fp) ifs1 t1 e7)
        (fun s H C cl fp => ih.E _ _ _ (o.blk bk.kind s H C cl fp) elt x e4) (notSet_ok c.2.1) (fun env => notSet_ok c.2.2)
    · cases h
  | DictComp kx elt gens scope pos =>
    simp only [cE] at h
    split at h
    case h_2 => cases h
    rename_i tg iter ifs
    split at h
    case isFalse => cases h
    rename_i c
    simp only [Bool.and_eq_true] at c
    obtain ⟨it, e1, h⟩ := Option.bind_eq_some_iff.mp h
    obtain ⟨⟨is, g⟩, e2, h⟩ := Option.bind_eq_some_iff.mp h
    obtain ⟨t, e3, h⟩ := Option.bind_eq_some_iff.mp h
    obtain ⟨k, e5, h⟩ := Option.bind_eq_some_iff.mp h
    obtain ⟨x, e4, h⟩ := Option.bind_eq_some_iff.mp h
    split at h
    case isFalse => cases h
    rename_i c2
    cases h
    have bk := blkOk_by c.1
    have nd : X.N.Nodup := by rw [o.nm]; exact o.nd
    exact snd_dc (own := ownOf N scope.names) o.calm nd (ih.I _ _ _ o tg iter it e1) (by rw [o.nm, o.scq]; exact bk) (fun i hi => by
        rw [List.all_eq_true] at c2
        simpa using c2 i hi) (fun s H C cl fp => ((sndG_ok n _ _ _ (o.blk bk.kind s H C cl fp)).1 tg is g e2).1) (fun s H C cl fp => ih.Ts _ _ _ (o.blk bk.kind s H C cl fp) ifs t e3)
      (fun s H C cl fp => ih.E _ _ _ (o.blk bk.kind s H C cl fp) kx k e5) (fun s H C cl fp => ih.E _ _ _ (o.blk bk.kind s H C cl fp) elt x e4) (notSet_ok c.2)
  | _ => simp [cE] at h
theorem sall_I {n : Nat} (ih : SAll fa ca call G N n) (fn : Str → Bool) (sc : Scope) (X : Cx) (o : Okx fa ca call G N fn sc X) (tg e : Expr) (d : Itr) (h : cI call G N (n + 1) sc (isTup tg) e = some d) : SndI fa ca X tg e d := by
  have seq : ∀ (e : Expr) (d : Itr), (cE call G N n sc e).map iSeq = some d → SndI fa ca X tg e d := fun e d h => by
    obtain ⟨x, e1, rfl⟩ := Option.map_eq_some_iff.mp h
    exact snd_seq (ih.E _ _ _ o _ _ e1)
  cases e with
  | Call f args kws p =>
    simp only [cI] at h
    split at h
    · split at h
      · rename_i f p0 a c
        simp only [Bool.and_eq_true] at c
        have e := eq_of_beq c.1.2
        subst e
        obtain ⟨x, e1, rfl⟩ := Option.map_eq_some_iff.mp h
        exact snd_range1 (glo_gl o c.1.1) (o.no _ (by decide)) c.2 (ih.E _ _ _ o _ _ e1)
      · split at h
        · rename_i f p0 a _ c
          simp only [Bool.and_eq_true] at c
          have e := eq_of_beq c.1.2
          subst e
          split at h
          · rename_i ht
            obtain ⟨x, e1, rfl⟩ := Option.map_eq_some_iff.mp h
            cases tg <;> simp only [isTup, Bool.false_eq_true] at ht
            exact snd_enum (glo_gl o c.1.1) (o.no _ (by decide)) c.2 (ih.E _ _ _ o _ _ e1)
          · cases h
        · exact seq _ _ h
    · split at h
      · rename_i f p0 a b c
        simp only [Bool.and_eq_true] at c
        have e := eq_of_beq c.1.2
        subst e
        obtain ⟨x, e1, h⟩ := Option.bind_eq_some_iff.mp h
        obtain ⟨y, e2, rfl⟩ := Option.map_eq_some_iff.mp h
        exact snd_range2 (glo_gl o c.1.1) (o.no _ (by decide)) c.2.1 c.2.2 (ih.E _ _ _ o _ _ e1) (ih.E _ _ _ o _ _ e2)
      · split at h
        · rename_i f p0 a b _ c
          simp only [Bool.and_eq_true] at c
          have e := eq_of_beq c.1.2
          subst e
          split at h
          · rename_i ht
            obtain ⟨x, e1, h⟩ := Option.bind_eq_some_iff.mp h
            obtain ⟨y, e2, rfl⟩ := Option.map_eq_some_iff.mp h
            cases tg <;> simp only [isTup, Bool.false_eq_true] at ht
            exact snd_zip (glo_gl o c.1.1) (o.no _ (by decide)) c.2.1 c.2.2 (ih.E _ _ _ o _ _ e1) (ih.E _ _ _ o _ _ e2)
          · cases h
        · exact seq _ _ h
    · split at h
      · rename_i f p0 a b cc c
        simp only [Bool.and_eq_true] at c
        have e := eq_of_beq c.1.2
        subst e
        obtain ⟨x, e1, h⟩ := Option.bind_eq_some_iff.mp h
        obtain ⟨y, e2, h⟩ := Option.bind_eq_some_iff.mp h
        obtain ⟨z, e3, rfl⟩ := Option.map_eq_some_iff.mp h
        exact snd_range3 (glo_gl o c.1.1) (o.no _ (by decide)) c.2.1 c.2.2.1 c.2.2.2 (ih.E _ _ _ o _ _ e1) (ih.E _ _ _ o _ _ e2) (ih.E _ _ _ o _ _ e3)
      · exact seq _ _ h
    · exact seq _ _ h
  | _ => exact seq _ _ (by simpa only [cI] using h)
theorem sall : ∀ n, SAll fa ca call G N n
  | 0 => ⟨fun _ _ _ _ _ _ h => by simp [cE] at h, fun _ _ _ _ _ _ _ _ h => by simp [cK] at h, fun _ _ _ _ _ _ h => by simp [cA] at h, fun _ _ _ _ _ _ h => by simp [cD] at h, fun _ _ _ _ _ _ h => by simp [cO] at h, fun _ _ _ _ _ _ _ h => by simp [cL] at h,
    fun _ _ _ _ _ _ _ h => by simp [cB] at h, fun _ _ _ _ _ _ h => by simp [cT] at h, fun _ _ _ _ _ _ _ h => by simp [cW] at h, fun _ _ _ _ _ _ h => by simp [cTs] at h, fun _ _ _ _ _ _ _ h => by simp [cI] at h⟩
  | n + 1 => by
    have ih := sall n
    refine ⟨sall_E ih, fun fn sc X o a ops cs d h pos => ?_, fun fn sc X o e d h => ?_, fun fn sc X o e d h => ?_, fun fn sc X o e d h => ?_, fun fn sc X o ops e d h => ?_, fun fn sc X o op e d h pos => ?_, fun fn sc X o e d h => ?_, fun fn sc X o op e d h pos => ?_, fun fn sc X o e d h => ?_, sall_I ih⟩
    · simp only [cK] at h
      split at h
      · split at h
        · cases h
        rename_i hm
        obtain ⟨f, e1, h⟩ := Option.bind_eq_some_iff.mp h
        obtain ⟨x, e2, h⟩ := Option.bind_eq_some_iff.mp h
        obtain ⟨y, e3, rfl⟩ := Option.map_eq_some_iff.mp h
        have s1 := ih.E _ _ _ o _ _ e2
        have s2 := ih.E _ _ _ o _ _ e3
        exact ⟨snd_cmp (copD_ok o.room e1) s1 s2 (by simpa using hm), sndT_cmp (copD_ok o.room e1) s1 s2 (by simpa using hm)⟩
      · split at h
        · cases h
        rename_i hm
        obtain ⟨x, e2, h⟩ := Option.bind_eq_some_iff.mp h
        obtain ⟨l, e3, rfl⟩ := Option.map_eq_some_iff.mp h
        have s1 := ih.E _ _ _ o _ _ e2
        have s2 := ih.L _ _ _ o _ _ _ e3
        exact ⟨snd_chain s1 s2 (by simpa using hm), sndT_chain s1 s2 (by simpa using hm)⟩
      · cases h
    · cases e with
      | nil => simp only [cA, Option.some.injEq] at h; subst h; exact sndA_nil
      | cons a es =>
        simp only [cA] at h
        split at h
        case isFalse => cases h
        rename_i c
        obtain ⟨x, e1, h⟩ := Option.bind_eq_some_iff.mp h
        obtain ⟨xs, e2, rfl⟩ := Option.map_eq_some_iff.mp h
        exact sndA_cons c (ih.E _ _ _ o _ _ e1) (ih.A _ _ _ o _ _ e2)
    · cases e with
      | nil => simp only [cD, Option.some.injEq] at h; subst h; exact sndD_nil
      | cons a es =>
        simp only [cD] at h
        split at h
        · obtain ⟨x, e1, h⟩ := Option.bind_eq_some_iff.mp h
          obtain ⟨xs, e2, rfl⟩ := Option.map_eq_some_iff.mp h
          exact sndD_star (ih.E _ _ _ o _ _ e1) (ih.D _ _ _ o _ _ e2)
        · split at h
          case isFalse => cases h
          rename_i c
          obtain ⟨x, e1, h⟩ := Option.bind_eq_some_iff.mp h
          obtain ⟨xs, e2, rfl⟩ := Option.map_eq_some_iff.mp h
          exact sndD_cons c (ih.E _ _ _ o _ _ e1) (ih.D _ _ _ o _ _ e2)
    · cases e with
      | none => simp only [cO, Option.some.injEq] at h; subst h; trivial
      | some a =>
        simp only [cO] at h
        obtain ⟨x, e1, rfl⟩ := Option.map_eq_some_iff.mp h
        exact ih.E _ _ _ o _ _ e1
    · cases ops with
      | nil =>
        cases e with
        | nil => simp only [cL, Option.some.injEq] at h; subst h; exact .nil
        | cons a es => simp [cL] at h
      | cons op ops =>
        cases e with
        | nil => simp [cL] at h
        | cons a es =>
          simp only [cL] at h
          obtain ⟨f, e0, h⟩ := Option.bind_eq_some_iff.mp h
          obtain ⟨x, e1, h⟩ := Option.bind_eq_some_iff.mp h
          obtain ⟨l, e2, rfl⟩ := Option.map_eq_some_iff.mp h
          exact .cons (copD_ok o.room e0) (ih.E _ _ _ o _ _ e1) (ih.L _ _ _ o _ _ _ e2)
    · simp only [cB] at h
      split at h
      · exact snd_one (ih.E _ _ _ o _ _ h)
      · obtain ⟨x, e1, h⟩ := Option.bind_eq_some_iff.mp h
        obtain ⟨y, e2, rfl⟩ := Option.map_eq_some_iff.mp h
        cases op with
        | And => exact snd_and (ih.E _ _ _ o _ _ e1) (ih.B _ _ _ o _ _ _ e2 pos)
        | Or => exact snd_or (ih.E _ _ _ o _ _ e1) (ih.B _ _ _ o _ _ _ e2 pos)
      · cases h
    · have val : ∀ (e : Expr) (d : Tst), isTest e = false → (cE call G N n sc e).map tOf = some d → SndT fa ca X e d := fun e d c h => by
        obtain ⟨x, e1, rfl⟩ := Option.map_eq_some_iff.mp h
        exact sndT_val (ih.E _ _ _ o _ _ e1) (test_val c)
      cases e with
      | UnaryOp op a pos =>
        cases op with
        | Not =>
          simp only [cT] at h
          obtain ⟨x, e1, rfl⟩ := Option.map_eq_some_iff.mp h
          exact sndT_not (ih.T _ _ _ o _ _ e1)
        | _ => exact val _ _ rfl (by simpa [cT, isTest] using h)
      | BoolOp op es pos =>
        simp only [cT] at h
        exact (ih.W _ _ _ o _ _ _ h pos).t
      | Compare a ops cs pos =>
        simp only [cT] at h
        obtain ⟨x, e1, rfl⟩ := Option.map_eq_some_iff.mp h
        exact (ih.K _ _ _ o _ _ _ _ e1 pos).2
      | IfExp c a b pos => simp [cT, isTest] at h
      | _ => exact val _ _ rfl (by simpa [cT, isTest] using h)
    · simp only [cW] at h
      split at h
      · cases op with
        | And => exact sndW_and1 (ih.T _ _ _ o _ _ h)
        | Or => exact sndW_or1 (ih.T _ _ _ o _ _ h)
      · obtain ⟨x, e1, h⟩ := Option.bind_eq_some_iff.mp h
        obtain ⟨y, e2, rfl⟩ := Option.map_eq_some_iff.mp h
        cases op with
        | And => exact sndW_and (ih.T _ _ _ o _ _ e1) (ih.W _ _ _ o _ _ _ e2 pos)
        | Or => exact sndW_or (ih.T _ _ _ o _ _ e1) (ih.W _ _ _ o _ _ _ e2 pos)
      · cases h
    · simp only [cTs] at h
      split at h
      · cases h; exact sndTs_nil
      · exact sndTs_one (ih.T _ _ _ o _ _ h)
      · cases h
end
end Rt
end
section
set_option linter.all false
set_option autoImplicit false
set_option Elab.async false
set_option maxRecDepth 100000
set_option maxHeartbeats 2000000
namespace Rt
open PySem PySem.Spec PyProof.Rows L2
def isLoc (sc : Scope) (x : Str) : Bool := match sc.names.lookup x with
  | some .local => true
  | _ => false
def isStar : Expr → Bool
  | .Starred _ _ => true
  | _ => false
def isCallN : Expr → Bool
  | .Call (.Name _ _) _ _ _ => true
  | _ => false
/-- [a, b] = .. two plain locals, stored from the right -/
def parOk (sc : Scope) (y z : Str) (py pz : Pos) (a b : Expr) : Bool :=
  isLoc sc y && (isLoc sc z && (py.line == pz.line && (!(y == z) && (notStar a && (notStar b && (!(foldedForSure 8 a && foldedForSure 8 b) && !(constantsAlone 8 a && constantsAlone 8 b)))))))
/-- .. one of them in a cell: stored through a pair -/
def parC (sc : Scope) (y z : Str) (a b : Expr) : Bool :=
  okT (fun _ => true) sc y && (okT (fun _ => true) sc z && ((!(isLoc sc y && isLoc sc z) || (foldedForSure 8 a && foldedForSure 8 b)) && (notStar a && notStar b)))
theorem okT_loc {sc : Scope} {y : Str} (h : okT (fun _ => true) sc y = true) : L2.Loc sc y := by
  simp only [okT, Bool.and_eq_true] at h
  have c2 := h.2
  unfold L2.Loc
  split at c2
  · exact .inl (by assumption)
  · exact .inr (by assumption)
  · cases c2
theorem parC_none {sc : Scope} {env : PySem.Env} {y z : Str} {py pz pt : Pos} {kt k2 : Nat} {pt2 : Pos} {a b : Expr} (e : env.scope = sc) (hk : sc.kind = .function) (h : parC sc y z a b = true) :
    swappedStores [.Tuple [.Name y py, .Name z pz] kt pt] (.Tuple [a, b] k2 pt2) env = pure none := by
  simp only [parC, Bool.and_eq_true, Bool.or_eq_true, Bool.not_eq_true', Bool.and_eq_false_iff] at h
  obtain ⟨_, _, h3, h5, h6⟩ := h
  have k3 : env.blockKind = .function := by unfold Env.blockKind; rw [e, hk]; rfl
  have nl : ∀ x : Str, isLoc sc x = false → (env.kindOf x == some NameKind.local) = false := fun x hx => by
    have : env.kindOf x = sc.names.lookup x := by show env.scope.names.lookup x = _; rw [e]
    rw [this]
    unfold isLoc at hx
    split at hx
    · cases hx
    · rename_i w
      cases q : sc.names.lookup x with
      | none => rfl
      | some k =>
        rw [q] at w
        cases k <;> first | rfl | exact absurd rfl (w · )
  unfold swappedStores
  simp only [List.length_cons, List.length_nil, k3, List.any_cons, List.any_nil, List.filterMap_cons, List.filterMap_nil, List.head?_cons, Option.map_some, Option.getD_some, Expr.pos]
  refine (if_neg (by decide)).trans ?_
  refine (if_neg (fun q => ?_)).trans ?_
  · simp only [Bool.or_eq_true, Bool.or_false] at q
    rcases q with q | q
    · cases a <;> first | exact absurd (show false = true from q) (by decide) | exact absurd (show false = true from h5) (by decide)
    · cases b <;> first | exact absurd (show false = true from q) (by decide) | exact absurd (show false = true from h6) (by decide)
  rcases h3 with h3 | hf
  · refine if_pos ?_
    rcases h3 with w | w
    · rw [nl y w]
      simp only [Bool.false_and, Bool.false_eq_true, if_false]
      by_cases q : (env.kindOf z == some NameKind.local && pz.line == py.line) = true
      · simp [q]
      · simp [q]
    · rw [nl z w]
      simp only [Bool.false_and, Bool.false_eq_true, if_false]
      by_cases q : env.kindOf y = some NameKind.local
      · simp [q]
      · simp [q]
  · obtain ⟨f1, f2⟩ := hf
    have ff : ∀ {α : Type} (c d : Prop) [Decidable c] [Decidable d] (x y : α), d → (if c then x else if d then x else y) = x := fun c d _ _ x y hd => by
      by_cases hc : c
      · rw [if_pos hc]
      · rw [if_neg hc, if_pos hd]
    exact ff _ _ _ _ (by simp [f1, f2])
theorem isLoc_of {sc : Scope} {x : Str} (h : isLoc sc x = true) : sc.names.lookup x = some .local := by
  unfold isLoc at h
  split at h
  · assumption
  · cases h
def par3Ok (sc : Scope) (y z w : Str) (py pz pw : Pos) (a b c : Expr) : Bool :=
  isLoc sc y && (isLoc sc z && (isLoc sc w && (py.line == pz.line && (py.line == pw.line && (!(y == z) && (!(y == w) && (!(z == w) && (notStar a && (notStar b && (notStar c && (!(foldedForSure 8 a && (foldedForSure 8 b && foldedForSure 8 c)) && !(constantsAlone 8 a && (constantsAlone 8 b && constantsAlone 8 c)))))))))))))
theorem par3_swap {sc : Scope} {env : PySem.Env} {y z w : Str} {py pz pw pt : Pos} {kt k2 : Nat} {pt2 : Pos} {a b c : Expr} (e : env.scope = sc) (hk : sc.kind = .function) (h : par3Ok sc y z w py pz pw a b c = true) :
    swappedStores [.Tuple [.Name y py, .Name z pz, .Name w pw] kt pt] (.Tuple [a, b, c] k2 pt2) env = pure (some [y, z, w]) := by
  simp only [par3Ok, Bool.and_eq_true, Bool.not_eq_true'] at h
  obtain ⟨h1, h2, h3, h4, h5, h6, h7, h8, h9, h10, h11, h12, h13⟩ := h
  have k1 : env.kindOf y = some .local := by show env.scope.names.lookup y = _; rw [e]; exact isLoc_of h1
  have k2 : env.kindOf z = some .local := by show env.scope.names.lookup z = _; rw [e]; exact isLoc_of h2
  have k2' : env.kindOf w = some .local := by show env.scope.names.lookup w = _; rw [e]; exact isLoc_of h3
  have k3 : env.blockKind = .function := by unfold Env.blockKind; rw [e, hk]; rfl
  have l3 : (pz.line == py.line) = true := by
    have := eq_of_beq h4
    rw [this]; exact beq_self_eq_true _
  have l4 : (pw.line == py.line) = true := by
    have := eq_of_beq h5
    rw [this]; exact beq_self_eq_true _
  unfold swappedStores
  simp only [List.length_cons, List.length_nil, k3, List.any_cons, List.any_nil, List.all_cons, List.all_nil, List.filterMap_cons, List.filterMap_nil, List.head?_cons, Option.map_some, Option.getD_some, Expr.pos]
  refine (if_neg (by decide)).trans ?_
  refine (if_neg (fun q => ?_)).trans ?_
  · simp only [Bool.or_eq_true, Bool.or_false] at q
    rcases q with q | q | q
    · cases a <;> first | exact absurd (show false = true from q) (by decide) | exact absurd (show false = true from h9) (by decide)
    · cases b <;> first | exact absurd (show false = true from q) (by decide) | exact absurd (show false = true from h10) (by decide)
    · cases c <;> first | exact absurd (show false = true from q) (by decide) | exact absurd (show false = true from h11) (by decide)
  simp only [k1, k2, k2', l3, l4, beq_self_eq_true, Bool.and_true, if_true]
  refine (if_neg (fun q => ?_)).trans ?_
  · have n1 : y ≠ z := fun q => by rw [q] at h6; simp at h6
    have n2 : y ≠ w := fun q => by rw [q] at h7; simp at h7
    have n3 : z ≠ w := fun q => by rw [q] at h8; simp at h8
    revert q
    simp [List.eraseDups_cons, n1, n2, n3, Ne.symm n1, Ne.symm n2, Ne.symm n3]
  refine (if_neg (fun q => ?_)).trans ?_
  · rw [q] at h12; cases h12
  refine (if_neg (fun q => ?_)).trans ?_
  · rw [q] at h13; cases h13
  rfl
theorem par_swap {sc : Scope} {env : PySem.Env} {y z : Str} {py pz pt : Pos} {kt k2 : Nat} {pt2 : Pos} {a b : Expr} (e : env.scope = sc) (hk : sc.kind = .function) (h : parOk sc y z py pz a b = true) :
    swappedStores [.Tuple [.Name y py, .Name z pz] kt pt] (.Tuple [a, b] k2 pt2) env = pure (some [y, z]) := by
  simp only [parOk, Bool.and_eq_true, Bool.not_eq_true', Bool.and_eq_false_iff] at h
  obtain ⟨h1, h2, h3, h4, h5, h6, h7, h8⟩ := h
  have k1 : env.kindOf y = some .local := by show env.scope.names.lookup y = _; rw [e]; exact isLoc_of h1
  have k2 : env.kindOf z = some .local := by show env.scope.names.lookup z = _; rw [e]; exact isLoc_of h2
  have k3 : env.blockKind = .function := by unfold Env.blockKind; rw [e, hk]; rfl
  have st : ∀ x : Expr, notStar x = true → (match x with | .Starred .. => true | _ => false) = false := fun x hx => by
    cases x <;> first | rfl | exact absurd hx (by simp [notStar])
  have l3 : (pz.line == py.line) = true := by
    have := eq_of_beq h3
    rw [this]; exact beq_self_eq_true _
  unfold swappedStores
  have n1 : ([.Name y py, .Name z pz] : List Expr).length = 2 := rfl
  simp only [List.length_cons, List.length_nil, k3, List.any_cons, List.any_nil, List.all_cons, List.all_nil, List.filterMap_cons, List.filterMap_nil, List.head?_cons, Option.map_some, Option.getD_some, Expr.pos]
  refine (if_neg (by decide)).trans ?_
  refine (if_neg (fun q => ?_)).trans ?_
  · simp only [Bool.or_eq_true, Bool.or_false] at q
    rcases q with q | q
    · cases a <;> first | exact absurd (show false = true from q) (by decide) | exact absurd (show false = true from h5) (by decide)
    · cases b <;> first | exact absurd (show false = true from q) (by decide) | exact absurd (show false = true from h6) (by decide)
  simp only [k1, k2, l3, beq_self_eq_true, Bool.and_true, if_true]
  refine (if_neg (fun q => ?_)).trans ?_
  · have ny : y ≠ z := fun w => by rw [w] at h4; simp at h4
    revert q
    simp [List.eraseDups_cons, h4, ny, Ne.symm ny]
  refine (if_neg (fun q => ?_)).trans ?_
  · rcases h7 with w | w <;> simp [w] at q
  refine (if_neg (fun q => ?_)).trans ?_
  · rcases h8 with w | w <;> simp [w] at q
  rfl
def hdF (nme : Str) : Stmt → Option HdF
  | .Return (some (.Attribute (.Name m _) f _)) _ => if m == nme && f == ("at" : Str) then some .at else none
  | .Return (some (.Tuple [.Constant (.str w) _ _, .Attribute (.Name m _) f _] _ _)) _ => if m == nme && f == ("at" : Str) then some (.word w) else none
  | _ => none
theorem hdF_ok {nme : Str} {st : Stmt} {f : HdF} (h : hdF nme st = some f) : f.ok nme st = true := by
  unfold hdF at h
  split at h
  · split at h
    · rename_i c
      cases h
      simp only [Bool.and_eq_true] at c
      have e := eq_of_beq c.2
      subst e
      exact c.1
    · cases h
  · split at h
    · rename_i c
      cases h
      simp only [Bool.and_eq_true] at c
      have e := eq_of_beq c.2
      subst e
      show (_ == _ && _ == _) = true
      rw [c.1, beq_self_eq_true]
      rfl
    · cases h
  · cases h
section
variable (call : Nat → Fn) (G : Gi) (N : List Str)
def cH (sc : Scope) : ExceptHandler → Option Hd
  | .ExceptHandler (some (.Name x _)) (some nme) [st] _ => if glo sc x && (okN x && (isLoc sc nme && okN nme)) then (ixOf G.cls x).bind fun h => (ixOf N nme).bind fun _ => (hdF nme st).map fun f => (fun c => G.up c h, f.val) else none
  | _ => none
def cHs (sc : Scope) : List ExceptHandler → Option (List Hd)
  | [] => some []
  | h :: hs => (cH G N sc h).bind fun x => (cHs sc hs).map fun xs => x :: xs
mutual
def cS : Nat → Scope → Stmt → Option Sm
  | 0, _, _ => none
  | n + 1, sc, st => match st with
    | .Pass _ => some sPass
    | .Expr e _ => (match e with
      | .Constant (.str _) _ _ => some sPass
      | .Call (.Attribute (.Name y p1) m p2) [a] [] p3 => if m == ("append" : Str) && (vis sc y && (okN y && (notStar a && p2.endLine == p3.line))) then (ixOf N y).bind fun i => (cE call G N n sc a).map (sApp i) else if m == ("extend" : Str) && (vis sc y && (okN y && (notStar a && p2.endLine == p3.line))) then (ixOf N y).bind fun i => (cE call G N n sc a).map (sExt i) else if m == ("remove" : Str) && (vis sc y && (okN y && (notStar a && p2.endLine == p3.line))) then (ixOf N y).bind fun i => (cE call G N n sc a).map (sRem i) else none
      | e => if plainV e then (cE call G N n sc e).map sExpr else none)
    | .Return e _ => (match e with
      | some e => (cE call G N n sc e).map sRet
      | none => some sRetN)
    | .Assign tgs e pos => (match tgs with
      | [.Name y p1] => if okT (fun _ => true) sc y then (ixOf N y).bind fun i => (match e with
          | .ListComp elt gs scope p2 => if isLoc sc y && p1.line == p2.line then (if scope.names.any fun (m, k) => m == y && (k == .local || k == .cell) then none else (cE call G N n sc (.ListComp elt gs scope p2)).map (sSet i)) else (cE call G N n sc (.ListComp elt gs scope p2)).map (sSet i)
          | e => if plainV e then (cE call G N n sc e).map (sSet i) else none) else none
      | [.Tuple ts k pt] => (match ts, e with
          | [.Name y py, .Name z pz], .Tuple [a, b] _ _ => if parOk sc y z py pz a b then (ixOf N y).bind fun i => (ixOf N z).bind fun j => if i == j then none else (cE call G N n sc a).bind fun x => (cE call G N n sc b).map fun w => (if isCallN a && isCallN b then sParU i j x w else sPar i j x w) else if parC sc y z a b then (ixOf N y).bind fun i => (ixOf N z).bind fun j => if i == j then none else (cE call G N n sc a).bind fun x => (cE call G N n sc b).map fun w => sPar i j x w else none
          | [.Name y py, .Name z pz, .Name w pw], .Tuple [a, b, c] _ _ => if par3Ok sc y z w py pz pw a b c then (ixOf N y).bind fun i => (ixOf N z).bind fun j => (ixOf N w).bind fun k => if i == j || (i == k || j == k) then none else (cE call G N n sc a).bind fun x => (cE call G N n sc b).bind fun u => (cE call G N n sc c).map fun v => sPar3 i j k x u v else none
          | ts, e => if plainV e && !isTup e then (cG N n (fun _ => true) sc (.Tuple ts k pt)).bind fun g => (cE call G N n sc e).map fun x => sTg g.2 x else none)
      | [.Subscript (.Name y p1) b p2] => if vis sc y && (okN y && (notSlice b && plainV e)) then (ixOf N y).bind fun i => (cE call G N n sc b).bind fun k => (cE call G N n sc e).map fun x => sPut i k x else none
      | _ => none)
    | .If c b o _ => (cT call G N n sc c).bind fun t => (cSs n sc b).bind fun x => (cSs n sc o).map fun y => sIf t x y
    | .For tg it b o _ => (match o with
      | [] => (match it with
        | .List es p => (cE call G N n sc (.List es p)).bind fun i => (cG N n (fun _ => true) sc tg).bind fun g => (cSs n sc b).map fun x => sFor g.2 (iSeqF i) x
        | it => if notSetE it then (cI call G N n sc (isTup tg) it).bind fun i => (cG N n (fun _ => true) sc tg).bind fun g => (cSs n sc b).map fun x => sFor g.2 i x else none)
      | _ => none)
    | .While c b o _ => (match o with
      | [] => (cT call G N n sc c).bind fun t => (cSs n sc b).map fun x => sWhile t x
      | _ => none)
    | .Raise e c _ => (match e, c with
      | some (.Call (.Name x _) [a] [] _), none => if glo sc x && (okN x && notStar a) then (ixOf G.cls x).bind fun c => (cE call G N n sc a).map fun y => sRaise c y else none
      | _, _ => none)
    | .Try b hs o f _ => (match hs, o, f with
      | h :: hs, [], [] => (cSs n sc b).bind fun x => (cHs G N sc (h :: hs)).map fun ds => sTry G.cls.length x ds
      | _, _, _ => none)
    | _ => none
def cSs : Nat → Scope → List Stmt → Option Sm
  | 0, _, _ => none
  | n + 1, sc, sts => (match sts with
    | [] => some sPass
    | [s] => cS n sc s
    | s :: s' :: r => (cS n sc s).bind fun x => (cSs n sc (s' :: r)).map fun y => sSeq x y)
end
end
/-- what statements want of the context -/
structure Oks (fa ca : Nat → Addr) (D0 fI : Addr) (G : Gi) (X : Cx) : Prop where
  stk : X.stack = X.env :: X.outer
  fr : X.env.frame = some X.env.locals
  pass : PassesOwn (model X.prog X.w) X.A X.env X.xe
  fnT : ∀ x, X.fn x = true
  eb : G.cls ≠ [] → ErrB X.prog X.K X.mg D0 fI
  ec : ∀ c x, G.cls[c]? = some x → X.mg x = some (.ref (ca c)) ∧ ErrC X.K D0 fI (ca c)
  em : ∀ c h, c < G.cls.length → h < G.cls.length → PySem.W.exmOne X.K (.ref (ca c)) (.ref (ca h)) = some (G.up c h)
section
variable {fa ca : Nat → Addr} {D0 fI : Addr} {call : Nat → Fn} {G : Gi} {N : List Str} {fn : Str → Bool} {sc : Scope} {X : Cx}
theorem Oks.tr (o : Oks fa ca D0 fI G X) {pn : List (Addr × Obj)} {xe : Value → Shared → Prop} (hp : PassesOwn (model X.prog X.w) X.A X.env xe) : Oks fa ca D0 fI G (X.tr pn xe) :=
  ⟨o.stk, o.fr, hp, o.fnT, o.eb, o.ec, o.em⟩
theorem Okx.tr (o : Okx fa ca call G N fn sc X) {pn : List (Addr × Obj)} {xe : Value → Shared → Prop} : Okx fa ca call G N fn sc (X.tr pn xe) where
  calm := o.calm
  nm := o.nm
  nd := o.nd
  scq := o.scq
  kind := o.kind
  cl := fun i x h => ⟨(o.cl i x h).1, (o.cl i x h).2.keep, (o.cl i x h).2.fn⟩
  co := o.co
  no := o.no
  gd := o.gd
  room := o.room
  gs := o.gs
  fnq := o.fnq
theorem cH_ok (o : Okx fa ca call G N fn sc X) (os : Oks fa ca D0 fI G X) {h : ExceptHandler} {hd : Hd} (e : cH G N sc h = some hd) : HdOk fa ca X D0 fI G.cls.length h hd := by
  unfold cH at e
  split at e
  · split at e
    case isFalse => cases e
    rename_i x _ nme st _ c
    simp only [Bool.and_eq_true] at c
    obtain ⟨c1, c2, c3, c4⟩ := c
    obtain ⟨h1, h2, h3⟩ := okN_of c2
    obtain ⟨n1, n2, n3⟩ := okN_of c4
    obtain ⟨hc, e1, e⟩ := Option.bind_eq_some_iff.mp e
    obtain ⟨i, e2, e⟩ := Option.bind_eq_some_iff.mp e
    obtain ⟨f, e3, e⟩ := Option.map_eq_some_iff.mp e
    subst e
    have g1 := ixOf_get e1
    refine ⟨x, nme, hc, i, _, _, st, f, rfl, ⟨glo_gl o c1, h1, .inl (os.ec hc x g1).1⟩, by rw [o.nm]; exact ixOf_get e2, by rw [o.scq]; exact isLoc_of c3, n1, n2, hdF_ok e3, fun _ => rfl, fun c lt => ?_⟩
    exact os.em c hc lt (List.getElem?_eq_some_iff.mp g1).1
  · cases e
theorem cHs_ok (o : Okx fa ca call G N fn sc X) (os : Oks fa ca D0 fI G X) : ∀ {hs : List ExceptHandler} {ds : List Hd}, cHs G N sc hs = some ds → HdsOkD fa ca X D0 fI G.cls.length hs ds
  | [], ds, e => by
    simp only [cHs, Option.some.injEq] at e
    subst e; exact .nil
  | h :: hs, ds, e => by
    simp only [cHs] at e
    obtain ⟨x, e1, e⟩ := Option.bind_eq_some_iff.mp e
    obtain ⟨xs, e2, rfl⟩ := Option.map_eq_some_iff.mp e
    exact .cons (cH_ok o os e1) (cHs_ok o os e2)
/-- a list comprehension, stored while its block runs -/
theorem lc_set {n : Nat} (o : Okx fa ca call G N fn sc X) {elt : Expr} {gens : List Comprehension} {scope : Scope} {p1 p2 pos : Pos} {d : Ex} {i : Nat} {y : Str} (h : cE call G N (n + 1) sc (.ListComp elt gens scope p2) = some d)
    (hy : X.N[i]? = some y) (hyl : X.env.scope.names.lookup y = some .local) (hsw : swapsWith (.ListComp elt gens scope p2) (some (.Name y p1)) pos.line X.env = pure true) : SndS fa ca X (.Assign [.Name y p1] (.ListComp elt gens scope p2) pos) (sSet i d) := by
  have ih := sall (fa := fa) (ca := ca) (call := call) (G := G) (N := N) n
  have nd : X.N.Nodup := by rw [o.nm]; exact o.nd
  simp only [cE] at h
  split at h
  · rename_i tg iter ifs
    split at h
    case isFalse => cases h
    rename_i c
    simp only [Bool.and_eq_true] at c
    obtain ⟨it, e1, h⟩ := Option.bind_eq_some_iff.mp h
    obtain ⟨⟨is, g⟩, e2, h⟩ := Option.bind_eq_some_iff.mp h
    obtain ⟨t, e3, h⟩ := Option.bind_eq_some_iff.mp h
    obtain ⟨x, e4, h⟩ := Option.bind_eq_some_iff.mp h
    split at h
    case isFalse => cases h
    rename_i c2
    cases h
    have bk := blkOk_by c.1
    exact sndS_setLc (own := ownOf N scope.names) o.calm nd hy hyl hsw (ih.I _ _ _ o tg iter it e1) (by rw [o.nm, o.scq]; exact bk) (fun i hi => by
        rw [List.all_eq_true] at c2
        simpa using c2 i hi) (fun s H C cl fp => ((sndG_ok n _ _ _ (o.blk bk.kind s H C cl fp)).1 tg is g e2).1) (fun s H C cl fp => ih.Ts _ _ _ (o.blk bk.kind s H C cl fp) ifs t e3)
      (fun s H C cl fp => ih.E _ _ _ (o.blk bk.kind s H C cl fp) elt x e4) (notSet_ok c.2)
  · rename_i tg iter ifs tg1 iter1 ifs1
    split at h
    case isFalse => cases h
    rename_i c
    simp only [Bool.and_eq_true] at c
    obtain ⟨it, e1, h⟩ := Option.bind_eq_some_iff.mp h
    obtain ⟨⟨is, g⟩, e2, h⟩ := Option.bind_eq_some_iff.mp h
    obtain ⟨t, e3, h⟩ := Option.bind_eq_some_iff.mp h
    obtain ⟨it1, e5, h⟩ := Option.bind_eq_some_iff.mp h
    obtain ⟨⟨js, g1⟩, e6, h⟩ := Option.bind_eq_some_iff.mp h
    obtain ⟨t1, e7, h⟩ := Option.bind_eq_some_iff.mp h
    obtain ⟨x, e4, h⟩ := Option.bind_eq_some_iff.mp h
    split at h
    case isFalse => cases h
    rename_i c2
    cases h
    rw [Bool.and_eq_true] at c2
    have bk := blkOk_by c.1
    exact sndS_setLc2 (own := ownOf N scope.names) o.calm nd hy hyl hsw (ih.I _ _ _ o tg iter it e1) (by rw [o.nm, o.scq]; exact bk) (fun i hi => by
        have z := c2.1
        rw [List.all_eq_true] at z
        simpa using z i hi) (fun i hi => by
        have z := c2.2
        rw [List.all_eq_true] at z
        simpa using z i hi) (fun s H C cl fp => ((sndG_ok n _ _ _ (o.blk bk.kind s H C cl fp)).1 tg is g e2).1) (fun s H C cl fp => ih.Ts _ _ _ (o.blk bk.kind s H C cl fp) ifs t e3)
      (fun s H C cl fp => ih.I _ _ _ (o.blk bk.kind s H C cl fp) tg1 iter1 it1 e5) (fun s H C cl fp => ((sndG_ok n _ _ _ (o.blk bk.kind s H C cl fp)).1 tg1 js g1 e6).1) (fun s H C cl fp => ih.Ts _ _ _ (o.blk bk.kind s H C cl fp) ifs1 t1 e7)
      (fun s H C cl fp => ih.E _ _ _ (o.blk bk.kind s H C cl fp) elt x e4) (notSet_ok c.2.1) (fun env => notSet_ok c.2.2)
  · cases h
theorem sw_lc {elt : Expr} {gs : List Comprehension} {scope : Scope} {pos py : Pos} {y : Str} {l : Nat} {env : PySem.Env} (e : env.scope = sc) (hk : sc.kind = .function) :
    swapsWith (.ListComp elt gs scope pos) (some (.Name y py)) l env = pure (isLoc sc y && py.line == pos.line && !(scope.names.any fun (m, k) => m == y && (k == .local || k == .cell))) := by
  have hb : env.blockKind = .function := by unfold Env.blockKind; rw [e, hk]; rfl
  have ky : (env.kindOf y == some .local) = isLoc sc y := by
    show (env.scope.names.lookup y == some .local) = isLoc sc y
    rw [e]
    unfold isLoc
    cases q : sc.names.lookup y with
    | none => rfl
    | some k => cases k <;> rfl
  show (pure (env.blockKind == .function && env.kindOf y == some .local && py.line == (Expr.ListComp elt gs scope pos).pos.line && !(scope.names.any fun (m, k) => m == y && (k == .local || k == .cell))) : Sem Bool) = _
  rw [hb, ky]
  rfl
structure SSt (fa ca : Nat → Addr) (D0 fI : Addr) (call : Nat → Fn) (G : Gi) (N : List Str) (n : Nat) : Prop where
  S : ∀ (fn : Str → Bool) (sc : Scope) (X : Cx), Okx fa ca call G N fn sc X → Oks fa ca D0 fI G X → ∀ (st : Stmt) (d : Sm), cS call G N n sc st = some d → SndS fa ca X st d
  Ss : ∀ (fn : Str → Bool) (sc : Scope) (X : Cx), Okx fa ca call G N fn sc X → Oks fa ca D0 fI G X → ∀ (st : List Stmt) (d : Sm), cSs call G N n sc st = some d → SndSs fa ca X st d
theorem sst : ∀ n, SSt fa ca D0 fI call G N n
  | 0 => ⟨fun _ _ _ _ _ _ _ h => by simp [cS] at h, fun _ _ _ _ _ _ _ h => by simp [cSs] at h⟩
  | n + 1 => by
    have ih := sst n
    have ihE := sall (fa := fa) (ca := ca) (call := call) (G := G) (N := N) n
    refine ⟨fun fn sc X o os st d h => ?_, fun fn sc X o os st d h => ?_⟩
    · have nd : X.N.Nodup := by rw [o.nm]; exact o.nd
      have oT : Okx fa ca call G N (fun _ => true) sc X := { o with fnq := fun x _ => os.fnT x }
      cases st with
      | Pass pos => simp only [cS, Option.some.injEq] at h; subst h; exact sndS_pass
      | Expr e pos =>
        simp only [cS] at h
        split at h
        · cases h; exact sndS_doc
        · split at h
          · rename_i y p1 m p2 a p3 c
            simp only [Bool.and_eq_true] at c
            obtain ⟨c1, c2, c3, c4, c5⟩ := c
            have e := eq_of_beq c1
            subst e
            obtain ⟨h1, h2, h3⟩ := okN_of c3
            obtain ⟨i, e1, h⟩ := Option.bind_eq_some_iff.mp h
            obtain ⟨x, e2, rfl⟩ := Option.map_eq_some_iff.mp h
            exact sndS_app (by rw [o.nm]; exact ixOf_get e1) (vis_vis o c2) h1 h2 c4 c5 (ihE.E _ _ _ o _ _ e2)
          · split at h
            case isFalse =>
              split at h
              case isFalse => cases h
              rename_i y p1 m p2 a p3 _ _ c
              simp only [Bool.and_eq_true] at c
              obtain ⟨c1, c2, c3, c4, c5⟩ := c
              have e := eq_of_beq c1
              subst e
              obtain ⟨h1, h2, h3⟩ := okN_of c3
              obtain ⟨i, e1, h⟩ := Option.bind_eq_some_iff.mp h
              obtain ⟨x, e2, rfl⟩ := Option.map_eq_some_iff.mp h
              exact sndS_rem (by rw [o.nm]; exact ixOf_get e1) (vis_vis o c2) h1 h2 c4 c5 (ihE.E _ _ _ o _ _ e2)
            rename_i y p1 m p2 a p3 _ c
            simp only [Bool.and_eq_true] at c
            obtain ⟨c1, c2, c3, c4, c5⟩ := c
            have e := eq_of_beq c1
            subst e
            obtain ⟨h1, h2, h3⟩ := okN_of c3
            obtain ⟨i, e1, h⟩ := Option.bind_eq_some_iff.mp h
            obtain ⟨x, e2, rfl⟩ := Option.map_eq_some_iff.mp h
            exact sndS_ext (by rw [o.nm]; exact ixOf_get e1) (vis_vis o c2) h1 h2 c4 c5 (ihE.E _ _ _ o _ _ e2)
        · split at h
          case isFalse => cases h
          rename_i c
          obtain ⟨x, e2, rfl⟩ := Option.map_eq_some_iff.mp h
          exact sndS_expr (ihE.E _ _ _ o _ _ e2) c
      | Return e pos =>
        simp only [cS] at h
        split at h
        · obtain ⟨x, e2, rfl⟩ := Option.map_eq_some_iff.mp h
          exact sndS_ret (ihE.E _ _ _ o _ _ e2)
        · cases h; exact sndS_retN
      | Assign tgs e pos =>
        simp only [cS] at h
        split at h
        · rename_i y p1
          split at h
          case isFalse => cases h
          rename_i c
          simp only [okT, Bool.and_eq_true] at c
          obtain ⟨i, e1, h⟩ := Option.bind_eq_some_iff.mp h
          have hi : X.N[i]? = some y := by rw [o.nm]; exact ixOf_get e1
          have lc : L2.Loc X.env.scope y := by
            have c2 := c.2
            unfold L2.Loc
            rw [o.scq]
            split at c2
            · exact .inl (by assumption)
            · exact .inr (by assumption)
            · cases c2
          split at h
          · rename_i elt gs scope p2 _
            have sw := sw_lc (elt := elt) (gs := gs) (scope := scope) (pos := p2) (py := p1) (y := y) (l := pos.line) o.scq o.kind
            split at h
            · rename_i c3
              simp only [Bool.and_eq_true] at c3
              split at h
              · cases h
              rename_i c4
              obtain ⟨x, e2, rfl⟩ := Option.map_eq_some_iff.mp h
              cases n with
              | zero => simp [cE] at e2
              | succ m =>
                refine lc_set o e2 hi (by rw [o.scq]; exact isLoc_of c3.1) ?_
                rw [sw, c3.1, c3.2]
                simp only [Bool.true_and, Bool.not_eq_true] at c4 ⊢
                rw [c4]
                rfl
            · rename_i c3
              obtain ⟨x, e2, rfl⟩ := Option.map_eq_some_iff.mp h
              refine sndS_set nd hi lc (ihE.E _ _ _ o _ _ e2) ?_ (.inl (os.fnT y))
              rw [sw]
              have c4 : (isLoc sc y && p1.line == p2.line) = false := by simpa using c3
              rw [c4]
              rfl
          · split at h
            case isFalse => cases h
            rename_i c3
            obtain ⟨x, e2, rfl⟩ := Option.map_eq_some_iff.mp h
            exact sndS_set nd hi lc (ihE.E _ _ _ o _ _ e2) (swaps_plain c3) (.inl (os.fnT y))
        · rename_i ts k pt
          split at h
          · rename_i y py z pz a b k2 pt2
            split at h
            case isFalse =>
              split at h
              case isFalse => cases h
              rename_i c
              have sw := parC_none (py := py) (pz := pz) (pt := pt) (kt := k) (k2 := k2) (pt2 := pt2) o.scq o.kind c
              simp only [parC, Bool.and_eq_true] at c
              obtain ⟨i, e1, h⟩ := Option.bind_eq_some_iff.mp h
              obtain ⟨j, e2, h⟩ := Option.bind_eq_some_iff.mp h
              split at h
              · cases h
              rename_i ne
              obtain ⟨x, e3, h⟩ := Option.bind_eq_some_iff.mp h
              obtain ⟨w, e4, rfl⟩ := Option.map_eq_some_iff.mp h
              exact sndS_parC o.calm nd (by rw [o.nm]; exact ixOf_get e1) (by rw [o.nm]; exact ixOf_get e2) (by rw [o.scq]; exact okT_loc c.1) (by rw [o.scq]; exact okT_loc c.2.1) (.inl (os.fnT y)) (.inl (os.fnT z)) c.2.2.2.1 c.2.2.2.2 rfl sw (ihE.E _ _ _ o _ _ e3) (ihE.E _ _ _ o _ _ e4)
            rename_i c
            have sw := par_swap (pt := pt) (kt := k) (k2 := k2) (pt2 := pt2) o.scq o.kind c
            simp only [parOk, Bool.and_eq_true] at c
            obtain ⟨i, e1, h⟩ := Option.bind_eq_some_iff.mp h
            obtain ⟨j, e2, h⟩ := Option.bind_eq_some_iff.mp h
            split at h
            · cases h
            rename_i ne
            obtain ⟨x, e3, h⟩ := Option.bind_eq_some_iff.mp h
            obtain ⟨w, e4, rfl⟩ := Option.map_eq_some_iff.mp h
            split
            · exact sndS_parU o.calm nd (by rw [o.nm]; exact ixOf_get e1) (by rw [o.nm]; exact ixOf_get e2) (by simpa using ne) (by rw [o.scq]; exact isLoc_of c.1) (by rw [o.scq]; exact isLoc_of c.2.1) c.2.2.2.2.1 c.2.2.2.2.2.1 sw (ihE.E _ _ _ o _ _ e3) (ihE.E _ _ _ o _ _ e4)
            · exact sndS_par o.calm nd (by rw [o.nm]; exact ixOf_get e1) (by rw [o.nm]; exact ixOf_get e2) (by simpa using ne) (by rw [o.scq]; exact isLoc_of c.1) (by rw [o.scq]; exact isLoc_of c.2.1) c.2.2.2.2.1 c.2.2.2.2.2.1 sw (ihE.E _ _ _ o _ _ e3) (ihE.E _ _ _ o _ _ e4)
          · split at h
            case isFalse => cases h
            rename_i c
            have sw := fun k2 pt2 => par3_swap (pt := pt) (kt := k) (k2 := k2) (pt2 := pt2) o.scq o.kind c
            simp only [par3Ok, Bool.and_eq_true] at c
            obtain ⟨i, e1, h⟩ := Option.bind_eq_some_iff.mp h
            obtain ⟨j, e2, h⟩ := Option.bind_eq_some_iff.mp h
            obtain ⟨l, e3, h⟩ := Option.bind_eq_some_iff.mp h
            split at h
            · cases h
            rename_i ne
            simp only [Bool.or_eq_true, beq_iff_eq, not_or] at ne
            obtain ⟨x, e4, h⟩ := Option.bind_eq_some_iff.mp h
            obtain ⟨u, e5, h⟩ := Option.bind_eq_some_iff.mp h
            obtain ⟨v, e6, rfl⟩ := Option.map_eq_some_iff.mp h
            exact sndS_par3 o.calm nd (by rw [o.nm]; exact ixOf_get e1) (by rw [o.nm]; exact ixOf_get e2) (by rw [o.nm]; exact ixOf_get e3) ne.1 ne.2.1 ne.2.2 (by rw [o.scq]; exact isLoc_of c.1) (by rw [o.scq]; exact isLoc_of c.2.1) (by rw [o.scq]; exact isLoc_of c.2.2.1) c.2.2.2.2.2.2.2.2.1 c.2.2.2.2.2.2.2.2.2.1 c.2.2.2.2.2.2.2.2.2.2.1 (sw _ _) (ihE.E _ _ _ o _ _ e4) (ihE.E _ _ _ o _ _ e5) (ihE.E _ _ _ o _ _ e6)
          · split at h
            case isFalse => cases h
            rename_i c
            simp only [Bool.and_eq_true, Bool.not_eq_true'] at c
            obtain ⟨⟨is, g⟩, e1, h⟩ := Option.bind_eq_some_iff.mp h
            obtain ⟨x, e2, rfl⟩ := Option.map_eq_some_iff.mp h
            refine sndS_tg ((sndG_ok n _ _ _ oT).1 _ is g e1).1 (ihE.E _ _ _ o _ _ e2) (sole_plain c.1) ?_ rfl
            cases e <;> first | rfl | exact absurd (show true = false from c.2) (by decide)
        · split at h
          case isFalse => cases h
          rename_i y p1 b p2 c
          simp only [Bool.and_eq_true] at c
          obtain ⟨c1, c2, c3, c4⟩ := c
          obtain ⟨h1, h2, h3⟩ := okN_of c2
          obtain ⟨i, e1, h⟩ := Option.bind_eq_some_iff.mp h
          obtain ⟨x, e2, h⟩ := Option.bind_eq_some_iff.mp h
          obtain ⟨w, e3, rfl⟩ := Option.map_eq_some_iff.mp h
          obtain ⟨kk, hr⟩ := o.room
          exact sndS_put hr (by rw [o.nm]; exact ixOf_get e1) (vis_vis o c1) h1 h2 (ihE.E _ _ _ o _ _ e2) (ihE.E _ _ _ o _ _ e3) c3 c4
        · cases h
      | If c b f pos =>
        simp only [cS] at h
        obtain ⟨t, e1, h⟩ := Option.bind_eq_some_iff.mp h
        obtain ⟨x, e2, h⟩ := Option.bind_eq_some_iff.mp h
        obtain ⟨y, e3, rfl⟩ := Option.map_eq_some_iff.mp h
        exact sndS_if (ihE.T _ _ _ o _ _ e1) (ih.Ss _ _ _ o os _ _ e2) (ih.Ss _ _ _ o os _ _ e3)
      | For tg it b f pos =>
        simp only [cS] at h
        split at h
        case h_2 => cases h
        split at h
        · obtain ⟨t, e1, h⟩ := Option.bind_eq_some_iff.mp h
          obtain ⟨⟨is, g⟩, e2, h⟩ := Option.bind_eq_some_iff.mp h
          obtain ⟨y, e3, rfl⟩ := Option.map_eq_some_iff.mp h
          exact sndS_for os.pass o.calm (snd_seqF (ihE.E _ _ _ o _ _ e1)) ((sndG_ok n _ _ _ oT).1 _ is g e2).1 (ih.Ss _ _ _ o os _ _ e3) (fun x => rfl)
        split at h
        case isFalse => cases h
        rename_i c
        obtain ⟨t, e1, h⟩ := Option.bind_eq_some_iff.mp h
        obtain ⟨⟨is, g⟩, e2, h⟩ := Option.bind_eq_some_iff.mp h
        obtain ⟨y, e3, rfl⟩ := Option.map_eq_some_iff.mp h
        exact sndS_for os.pass o.calm (ihE.I _ _ _ o _ _ _ e1).toJ ((sndG_ok n _ _ _ oT).1 _ is g e2).1 (ih.Ss _ _ _ o os _ _ e3) (notSet_ok c)
      | While c b f pos =>
        simp only [cS] at h
        split at h
        case h_2 => cases h
        obtain ⟨t, e1, h⟩ := Option.bind_eq_some_iff.mp h
        obtain ⟨y, e3, rfl⟩ := Option.map_eq_some_iff.mp h
        exact sndS_while os.pass (ihE.T _ _ _ o _ _ e1) (ih.Ss _ _ _ o os _ _ e3)
      | Raise e c pos =>
        simp only [cS] at h
        split at h
        · split at h
          case isFalse => cases h
          rename_i x _ a _ c
          simp only [Bool.and_eq_true] at c
          obtain ⟨c1, c2, c3⟩ := c
          obtain ⟨h1, h2, h3⟩ := okN_of c2
          obtain ⟨i, e1, h⟩ := Option.bind_eq_some_iff.mp h
          obtain ⟨y, e2, rfl⟩ := Option.map_eq_some_iff.mp h
          have g1 := ixOf_get e1
          obtain ⟨q1, q2⟩ := os.ec i x g1
          have hd : X.A.depth + 1 < recursionLimit := by
            obtain ⟨k, hr⟩ := o.room
            have := hr.dp
            omega
          exact sndS_raise (os.eb fun z => by rw [z] at g1; simp at g1) q2 q1 o.calm hd (glo_gl o c1) h1 c3 (ihE.E _ _ _ o _ _ e2)
        · cases h
      | Try b hs f g pos =>
        simp only [cS] at h
        split at h
        · obtain ⟨x, e1, h⟩ := Option.bind_eq_some_iff.mp h
          obtain ⟨ds, e2, rfl⟩ := Option.map_eq_some_iff.mp h
          exact sndS_try os.stk os.fr nd (cHs_ok o os e2) (fun c lt => (os.ec c _ (List.getElem?_eq_getElem lt)).2) (fun _ => rfl) fun pn xe hp => ih.Ss _ _ _ o.tr (os.tr hp) _ _ e1
        · cases h
      | _ => simp [cS] at h
    · simp only [cSs] at h
      split at h
      · cases h; exact sndSs_nil
      · exact sndSs_one (ih.S _ _ _ o os _ _ h)
      · obtain ⟨x, e1, h⟩ := Option.bind_eq_some_iff.mp h
        obtain ⟨y, e2, rfl⟩ := Option.map_eq_some_iff.mp h
        exact sndSs_cons (ih.S _ _ _ o os _ _ e1) (ih.Ss _ _ _ o os _ _ e2)
end
end Rt
end
section
set_option linter.all false
set_option autoImplicit false
set_option Elab.async false
set_option maxRecDepth 100000
set_option maxHeartbeats 2000000
namespace Rt
open PySem PySem.Spec PyProof.Rows L2
/-! ## A law's table of defs -/
structure Dd where
  nm : Str
  st : Stmt
  N : List Str
  body : Body
def Dd.ps (d : Dd) : List Str := (defArgs d.st).args.map (·.arg)
def Dd.df (d : Dd) : Df := ⟨d.ps.length, d.N.length, d.body⟩
def Dd.at_ (d : Dd) : He.DefD := ⟨(d.nm, none), d.nm, d.nm, defArgs d.st, defBody d.st, defScope d.st, [], []⟩
def tblT (l : List Dd) : Nat → Option Df := fun i => (l[i]?).map Dd.df
def scopeB (N ps : List Str) (sc : Scope) : Bool := (match sc.kind with | .function => true | _ => false) && (!sc.isCoroutine && (!sc.isGenerator && (decide N.Nodup && (decide (N.take ps.length = ps) && ((ps.all fun x => match sc.names.lookup x with | some .local => true | some .cell => true | _ => false) && sc.names.all fun y => match y.2 with | .free => false | _ => true)))))
theorem scopeB_ok {N ps : List Str} {sc : Scope} (h : scopeB N ps sc = true) : FnScope N ps sc := by
  simp only [scopeB, Bool.and_eq_true, Bool.not_eq_true', decide_eq_true_eq, List.all_eq_true] at h
  obtain ⟨h1, h2, h3, h4, h5, h6, h7⟩ := h
  refine ⟨?_, h2, h3, h4, h5, fun x hx => ?_, fun y hy e => ?_⟩
  · split at h1
    · assumption
    · cases h1
  · have q := h6 x hx
    split at q
    · exact .inl (by assumption)
    · exact .inr (by assumption)
    · cases q
  · have q := h7 y hy
    rw [e] at q
    cases q
structure Dd.good (G : Gi) (d : Dd) : Prop where
  sc : scopeB d.N d.ps (defScope d.st) = true
  bd : ∀ (kV doc pm : Value) (an : Option Addr) (cdv ct : Value) (us : List Value), us.length = d.ps.length → bindArgs (PySem.W.fnOf d.nm d.nm (defArgs d.st) (defBody d.st) (defScope d.st) .none kV doc pm an cdv ct) ⟨us, []⟩ = pure (d.ps.zip us)
  cm : ∃ fuel, ∀ call, cSs call G d.N fuel (defScope d.st) (defBody d.st) = some (d.body call)
/-- the module's names, as the reading tells them -/
structure Mg (fa ca : Nat → Addr) (D0 fI : Addr) (P : Program) (K : PySem.W.Frag) (mg : Str → Option Value) (G : Gi) : Prop where
  fn : ∀ i x, G.fns[i]? = some x → mg x = some (.ref (fa i))
  co : ∀ x d, lkC G.cons x = some d → ∃ v u, mg x = some u ∧ RelV v u ∧ ∀ Z, Rep fa K Z d v
  no : ∀ x, bltNames.contains x = true → mg x = none
  gd : G.gcd = true → mg "gcd" = some (.builtin "math.gcd")
  eb : G.cls ≠ [] → ErrB P K mg D0 fI
  ec : ∀ c x, G.cls[c]? = some x → mg x = some (.ref (ca c)) ∧ ErrC K D0 fI (ca c)
  em : ∀ c h, c < G.cls.length → h < G.cls.length → PySem.W.exmOne K (.ref (ca c)) (.ref (ca h)) = some (G.up c h)
theorem all_fns {fa ca : Nat → Addr} {D0 fI : Addr} {P : Program} {w : World} {K : PySem.W.Frag} {mg : Str → Option Value} {base : Heap} {G : Gi} {l : List Dd} (M : Mg fa ca D0 fI P K mg G) (hG : G.fns = l.map Dd.nm) (good : ∀ d ∈ l, d.good G)
    (hF : ∀ (i : Nat) (d : Dd), l[i]? = some d → ∃ fd, FunD K d.nm d.nm (defArgs d.st) (defBody d.st) (defScope d.st) [] [] (fa i) fd) :
    ∀ (n i : Nat) (d : Dd), l[i]? = some d → ∃ fd, FunD K d.nm d.nm (defArgs d.st) (defBody d.st) (defScope d.st) [] [] (fa i) fd ∧ FnG P w K mg base n (fa i) fd d.ps (spF fa ca K (run (tblT l) n i) d.ps.length) ∧ Binds K fd d.ps [] := by
  have binds : ∀ (i : Nat) (d : Dd), l[i]? = some d → ∀ fd, FunD K d.nm d.nm (defArgs d.st) (defBody d.st) (defScope d.st) [] [] (fa i) fd → Binds K fd d.ps [] := fun i d e fd F => by
    exact F.bindsN (good d (List.mem_of_getElem? e)).bd
  have nobad : ∀ (n i : Nat) (d : Dd), l[i]? = some d → ∀ ds, ds.length ≠ d.ps.length → run (tblT l) n i ds = .bad := fun n i d e ds hl => by
    cases n with
    | zero => rfl
    | succ n =>
      unfold run tblT
      rw [e]
      show (if ds.length = d.ps.length then _ else R.bad) = .bad
      rw [if_neg hl]
  intro n
  induction n with
  | zero =>
    intro i d e
    obtain ⟨fd, F⟩ := hF i d e
    refine ⟨fd, F, ⟨fun vs H Q E ⟨U, ds, _, _, _, z⟩ => False.elim z, fun A outer s H args us vs Q E _ _ _ _ _ ⟨U, ds, _, _, _, z⟩ => False.elim z⟩, binds i d e fd F⟩
  | succ n ih =>
    intro i d e
    obtain ⟨fd, F⟩ := hF i d e
    have gd := good d (List.mem_of_getElem? e)
    refine ⟨fd, F, ?_, binds i d e fd F⟩
    obtain ⟨oc, od, dV, kV, doc, pm, an, cdv, ct, osl, efd, lk, hcd, _, _⟩ := F.ex
    have S := scopeB_ok gd.sc
    obtain ⟨fuel, cm⟩ := gd.cm
    have er : run (tblT l) (n + 1) i = fun ds => if ds.length = d.ps.length then ends (d.body (run (tblT l) n) (begin_ d.N.length ds)) else .bad := by
      funext ds
      show (match tblT l i with | some f => if ds.length = f.arity then ends (f.body (run (tblT l) n) (begin_ f.slots ds)) else .bad | none => .bad) = _
      unfold tblT
      rw [e]
      rfl
    rw [er, efd]
    rw [efd] at lk
    refine fnG_body lk hcd S fun A outer s H E hr hg => ?_
    have okx : Okx fa ca (run (tblT l) n) G d.N (fun _ => true) (defScope d.st) (cxOf (CX P w) P w K mg base d.N d.nm (defScope d.st) (fa i) cdv A outer s H E) :=
      { calm := rfl, nm := rfl, nd := S.nd, scq := rfl, kind := S.kind, co := M.co, no := M.no, gd := M.gd, room := ⟨n, hr⟩, gs := hg, fnq := fun _ _ => rfl
        cl := fun j x hj => by
          refine ⟨M.fn j x hj, ?_⟩
          rw [hG, List.getElem?_map] at hj
          obtain ⟨dj, ej, _⟩ := Option.map_eq_some_iff.mp hj
          obtain ⟨fdj, Fj, Gj, Bj⟩ := ih j dj ej
          exact ⟨Fj.kp, n, fdj, dj.ps, Gj, Bj, hr, nobad n j dj ej⟩ }
    have oks : Oks fa ca D0 fI G (cxOf (CX P w) P w K mg base d.N d.nm (defScope d.st) (fa i) cdv A outer s H E) :=
      ⟨rfl, rfl, passes_of rfl, fun _ => rfl, M.eb, M.ec, M.em⟩
    exact (sst fuel).Ss _ _ _ okx oks _ _ (cm (run (tblT l) n))
/-- the law's own end -/
theorem law_sp {fa ca : Nat → Addr} {K : PySem.W.Frag} {F : Fn} {H : Hp} {a : Addr} {ns : List Int} (hF : F [.scr ns] = .ok (.bl true, false)) (only : Only H) (sq : SqL K H a (ns.map V.int)) : spF fa ca K F 1 [.ref a] H (fun v _ => v = .bl true) fun _ _ _ => False := by
  refine ⟨fun _ => False, [.scr ns], fun b z => z.elim, .one ?_, rfl, ?_⟩
  · simp only [Rep]
    refine ⟨a, rfl, ?_⟩
    rcases sq with q | q
    · refine .inl ?_
      rcases q with q | ⟨o, q⟩
      · rcases only a with z | ⟨o, xs, z⟩
        · rw [q] at z; cases z
        · rw [q] at z; cases z
      · refine .inr ⟨o, ?_⟩
        have e : hide H (fun _ => False) a = some (.frz o (.lst (ns.map V.int))) := by
          rw [hide_at fun z => z]
          exact q
        simp only [e]
    · exact .inr q
  · rw [hF]
    intro v H' _ r
    have r' : Rep fa K (hide H' fun _ => False) (.bl true) v := r
    simpa only [Rep] using r'
end Rt
end
section
set_option linter.all false
set_option autoImplicit false
set_option Elab.async false
set_option maxRecDepth 100000
set_option maxHeartbeats 2000000
namespace Rt
open PySem PySem.Spec PyProof.Rows L2
open PySem.W (Frag nsIn findIn keepIn subIn typeIn hasDictIn clsIn mroIn codeIn exmOne ks_superIn)
/-! ## What the head leaves, checked -/
def scN : Str := "ScheduleError"
def gaN (K : Frag) (l : List Str) (i : Nat) : Addr := match l[i]? with
  | some x => He.ga K x
  | none => 0
mutual
/-- the constant is the tree -/
def conB (K : Frag) : D → Value → Bool
  | .int i, .int j _ => decide (i = j)
  | .str x, .str y _ => decide (x = y)
  | .bl b, .bool c => b == c
  | .non, .none => true
  | .tup ds, .ref a => (match K.lookup a with
    | some ⟨.type c, _, .seq its _, _⟩ => decide (c = "tuple") && (decide (its.size ≤ sizeLine) && conBL K ds its.toList)
    | _ => false)
  | _, _ => false
def conBL (K : Frag) : List D → List Value → Bool
  | [], [] => true
  | d :: ds, u :: us => conB K d u && conBL K ds us
  | _, _ => false
end
mutual
theorem conB_ok {fa : Nat → Addr} {K : Frag} : ∀ (d : D) (u : Value), conB K d u = true → ∃ v, RelV v u ∧ ∀ Z, Rep fa K Z d v
  | .int i, u, h => by
    cases u <;> simp only [conB, decide_eq_true_eq, Bool.false_eq_true] at h
    subst h
    exact ⟨.int i, ⟨_, rfl⟩, fun Z => by simp only [Rep]⟩
  | .str i, u, h => by
    cases u <;> simp only [conB, decide_eq_true_eq, Bool.false_eq_true] at h
    subst h
    exact ⟨.str i, ⟨_, rfl⟩, fun Z => by simp only [Rep]⟩
  | .bl i, u, h => by
    cases u <;> simp only [conB, beq_iff_eq, Bool.false_eq_true] at h
    subst h
    exact ⟨.bl i, rfl, fun Z => by simp only [Rep]⟩
  | .non, u, h => by
    cases u <;> simp only [conB, Bool.false_eq_true] at h
    exact ⟨.non, rfl, fun Z => by simp only [Rep]⟩
  | .tup ds, u, h => by
    cases u with
    | ref a => ?_
    | _ => simp [conB] at h
    simp only [conB] at h
    split at h
    · rename_i c od its n sl e
      simp only [Bool.and_eq_true, decide_eq_true_eq] at h
      obtain ⟨rfl, hz, hl⟩ := h
      obtain ⟨vs, q1, q2⟩ := conBL_ok (fa := fa) ds its.toList hl
      refine ⟨.ref a, rfl, fun Z => ?_⟩
      simp only [Rep]
      exact ⟨a, vs, rfl, .inr ⟨_, its, n, e, rfl, rfl, hz, q1⟩, q2 Z⟩
    · cases h
  | .lst _, u, h => by cases u <;> simp [conB] at h
  | .dct _ _, u, h => by cases u <;> simp [conB] at h
  | .set _, u, h => by cases u <;> simp [conB] at h
  | .rep _, u, h => by cases u <;> simp [conB] at h
  | .fn _, u, h => by cases u <;> simp [conB] at h
  | .scr _, u, h => by cases u <;> simp [conB] at h
theorem conBL_ok {fa : Nat → Addr} {K : Frag} : ∀ (ds : List D) (us : List Value), conBL K ds us = true → ∃ vs, Vals vs us ∧ ∀ Z, RepL fa K Z ds vs
  | [], us, h => by
    cases us with
    | nil => exact ⟨[], .nil, fun Z => by simp [RepL]⟩
    | cons u us => simp [conBL] at h
  | d :: ds, us, h => by
    cases us with
    | nil => simp [conBL] at h
    | cons u us =>
      simp only [conBL, Bool.and_eq_true] at h
      obtain ⟨v, q1, q2⟩ := conB_ok (fa := fa) d u h.1
      obtain ⟨vs, q3, q4⟩ := conBL_ok (fa := fa) ds us h.2
      exact ⟨v :: vs, .cons q1 q3, fun Z => .cons_ (q2 Z) (q4 Z)⟩
end
def conG (K : Frag) (x : Str) (d : D) : Bool := match nsIn K mainGlobals x with
  | some (some u) => conB K d u
  | _ => false
def clsB (K : Frag) (C : Addr) : Bool := match K.lookup C with
  | some ⟨.type t, _, .cls cd, sl⟩ => decide (t = "type") && (match cd.mro, sl.toList with
    | .ref C' :: bm, [_, _, _, _, some (.builtin n), _] => decide (C' = C) && (decide (n = "ValueError.__new__") && (!cd.hasDel && (cd.hasDict && HandSPX.refsVE bm)))
    | _, _ => false)
  | _ => false
theorem clsB_ok {K : Frag} {C : Addr} (h : clsB K C = true) : ∃ nm q N bs bm sn sub ab col dd k0 k1 k2 k3 k5, K.lookup C = some (excClassObj nm q C N bs bm true sn sub ab col dd k0 k1 k2 k3 k5 "ValueError.__new__") ∧ HandSPX.refsVE bm = true := by
  unfold clsB at h
  split at h
  · rename_i t dd cd sl ho
    simp only [Bool.and_eq_true, decide_eq_true_eq] at h
    obtain ⟨rfl, h⟩ := h
    split at h
    · rename_i C' bm k0 k1 k2 k3 n k5 hm hs
      simp only [Bool.and_eq_true, decide_eq_true_eq, Bool.not_eq_true'] at h
      obtain ⟨rfl, rfl, h1, h2, h3⟩ := h
      obtain ⟨nm, bs, mro, ns, qn, hd, sn, sub, ab, col, del⟩ := cd
      dsimp only at hm h1 h2
      subst hm h1 h2
      have es : sl = #[k0, k1, k2, k3, some (.builtin "ValueError.__new__"), k5] := by
        obtain ⟨l⟩ := sl
        simp only at hs
        rw [hs]
      subst es
      exact ⟨nm, qn, ns, bs, bm, sn, sub, ab, col, dd, k0, k1, k2, k3, k5, ho, h3⟩
    · cases h
  · cases h
def errCB (K : Frag) (D0 fI C : Addr) : Bool :=
  clsB K C && (decide (findIn K (.ref C) "__setattr__" = some (some (.builtin "object.__setattr__"))) && (decide (findIn K (.ref C) "__getattribute__" = some (some (.builtin "BaseException.__getattribute__"))) && (decide (findIn K (.ref C) "__getattr__" = some none) &&
  (decide (findIn K (.ref C) "at" = some none) && (decide (findIn K (.ref C) "__init__" = some (some (.ref fI))) && (keepIn K (.ref C) && (decide (subIn K (.ref C) (.type "BaseException") = some true) && (decide (typeIn K (.ref C) = some (.type "type")) && (hasDictIn K C &&
  (decide (ks_superIn K C D0 "__init__" = some (some (.builtin "ValueError.__init__"))) && (decide (mroIn K C (.ref D0) = some true) && decide (subIn K (.ref C) (.type "ValueError") = some true))))))))))))
theorem errCB_ok {K : Frag} {D0 fI C : Addr} (h : errCB K D0 fI C = true) : ErrC K D0 fI C := by
  simp only [errCB, Bool.and_eq_true, decide_eq_true_eq] at h
  obtain ⟨h1, h2, h3, h4, h5, h6, h7, h8, h9, h10, h11, h12, h13⟩ := h
  exact ⟨clsB_ok h1, h2, h3, h4, h5, h6, h7, h8, h9, h10, h11, h12, h13⟩
/-- the base class's __init__ -/
abbrev InV : Type := Option (Str × Arguments × FuncBody × Scope × Addr × Value × Value × Addr)
def initV (K : Frag) (fI : Addr) : InV := match K.lookup fI with
  | some ⟨_, _, .func fd, _⟩ => some (fd.name, fd.params, fd.body, fd.scope, fd.globals, fd.defaults, fd.kwdefaults, fd.builtins)
  | _ => none
def clsInit (st : Stmt) : Stmt := match st with
  | .ClassDef _ _ _ (s :: _) _ _ _ _ _ _ _ => s
  | s => s
def initW (st : Stmt) : InV := some ("__init__", defArgs (clsInit st), .stmts (defBody (clsInit st)), defScope (clsInit st), mainGlobals, .none, .none, builtinsNs)
def errBB (P : Program) (K : Frag) (D0 fI : Addr) : Bool :=
  (match K.lookup fI with
  | some ⟨_, _, .func fd, _⟩ => (match fd.closure, fd.code with
    | [(n, cc)], .ref cda => decide (n = "__class__") && ((match K.lookup cc with
      | some ⟨_, _, .cell (some (.ref d)), _⟩ => decide (d = D0)
      | _ => false) && (codeIn K (.ref cda) fd.qualname && (match K.lookup cda with
      | some ⟨_, _, .fields vs, _⟩ => (match vs[2]? with
        | some (Value.str file _) => (P.main.file : Str) == file
        | _ => false)
      | _ => false)))
    | _, _ => false)
  | _ => false) && ((clsIn K D0).isSome && (decide (nsIn K cStatics "thirdparty.any" = some none) && (decide (nsIn K mainGlobals "super" = some none) && (!(P.main.scope.names.lookup ("super" : Str)).isSome && decide (typeIn K (.ref fI) = some (.type "function"))))))
theorem errBB_ok {P : Program} {K : Frag} {D0 fI : Addr} {h : Heap} {mg : Str → Option Value} (X : K.In h) (G : h.Ns mainGlobals mg) {st : Stmt} (e : initV K fI = initW st) (c : errBB P K D0 fI = true)
    (he : ∃ (p1 p2 q1 q2 q3 q4 q5 q6 q7 q8 q9 q10 : Pos), (q3.endLine == q5.line) = true ∧ defArgs (clsInit st) = eA p1 p2 ∧ defBody (clsInit st) = eB q1 q2 q3 q4 q5 q6 q7 q8 q9 q10 ∧ defScope (clsInit st) = eS) : ErrB P K mg D0 fI := by
  obtain ⟨p1, p2, q1, q2, q3, q4, q5, q6, q7, q8, q9, q10, hline, w1, w2, w3⟩ := he
  unfold errBB at c
  simp only [Bool.and_eq_true, decide_eq_true_eq, Bool.not_eq_true'] at c
  obtain ⟨c1, c2, c3, c4, c5, c6⟩ := c
  refine ⟨?_, Option.isSome_iff_exists.mp c2, c3, PySem.W.mg_none_of X G c4, c5, c6⟩
  unfold initV at e
  split at c1
  · rename_i oc od fd osl lk
    rw [lk] at e
    unfold initW at e
    rw [w1, w2, w3] at e
    obtain ⟨n1, n2, n3, n4, n5, n6, n7, n8, n9, n10, n11, n12, n13, n14, n15⟩ := fd
    dsimp only at e c1
    simp only [Option.some.injEq, Prod.mk.injEq] at e
    obtain ⟨r1, r2, r3, r4, r5, r6, r7, r8⟩ := e
    subst r1 r2 r3 r4 r5 r6 r7 r8
    split at c1
    · rename_i n cc cda
      simp only [Bool.and_eq_true, decide_eq_true_eq] at c1
      obtain ⟨rfl, d1, d2, d3⟩ := c1
      refine ⟨oc, od, _, _, _, _, cda, _, cc, osl, p1, p2, q1, q2, q3, q4, q5, q6, q7, q8, q9, q10, hline, lk, d2, ?_, ?_⟩
      · split at d3
        · rename_i ccl cdd vs ccs lk2
          split at d3
          · rename_i file tf hv
            exact ⟨ccl, cdd, vs, ccs, file, tf, lk2, hv, d3⟩
          · cases d3
        · cases d3
      · split at d1
        · rename_i cl cld d csl lk3
          have d1' := of_decide_eq_true d1
          subst d1'
          exact ⟨cl, cld, csl, lk3⟩
        · cases d1
    · cases c1
  · cases c1
/-- all of it -/
def factsB (P : Program) (K : Frag) (G : Gi) : Bool :=
  (G.fns.all fun x => decide (nsIn K mainGlobals x = some (some (.ref (He.ga K x))))) && ((bltNames.all fun x => decide (nsIn K mainGlobals x = some none)) && ((!G.gcd || decide (nsIn K mainGlobals "gcd" = some (some (.builtin "math.gcd")))) &&
  ((G.cons.all fun p => conG K p.1 p.2) && ((G.cls.isEmpty || errBB P K (He.ga K scN) (He.ma K (He.ga K scN) "__init__")) && ((G.cls.all fun x => decide (nsIn K mainGlobals x = some (some (.ref (He.ga K x)))) && errCB K (He.ga K scN) (He.ma K (He.ga K scN) "__init__") (He.ga K x)) &&
  ((List.range G.cls.length).all fun c => (List.range G.cls.length).all fun h => decide (exmOne K (.ref (gaN K G.cls c)) (.ref (gaN K G.cls h)) = some (G.up c h))))))))
abbrev AlR : Type := Bool × InV × List He.FnW
def obsR (P : Program) (G : Gi) (fn : List He.DefD) (K : Frag) : AlR := (factsB P K G && fn.all fun d => d.ok K, initV K (He.ma K (He.ga K scN) "__init__"), fn.map fun d => He.fnW K d.at_)
def valR (iv : InV) (fn : List He.DefD) : AlR := (true, iv, fn.map He.DefD.val)
def obsRG (P : Program) (G : Gi) (fn : List He.DefD) (n : Nat) (g : Addr → Option Obj) : AlR := obsR P G fn (He.frG g (cStatics :: He.asD g n))
def hookR (P : Program) (G : Gi) (iv : InV) (fn : List He.DefD) (n : Nat) : PySem.W.Hook where
  α := AlR
  obs := fun s => obsRG P G fn n s.heap.get?
  val := fun _ => valR iv fn
  says := fun _ h => ∃ K : Frag, K.In h ∧ obsR P G fn K = valR iv fn
  of := fun _ _ e => ⟨_, He.frG_in, e⟩
  keeps := fun _ _ _ ⟨K, hK, c⟩ k => ⟨K, PySem.W.Frag.In.keeps hK k, c⟩
theorem obsRG_eq {P : Program} {G : Gi} {iv : InV} {fn : List He.DefD} {n : Nat} {g : Addr → Option Obj} {s : Shared} (h : ∀ a, g a = s.heap.get? a) : obsRG P G fn n g = (hookR P G iv fn n).obs s := by
  have e : g = s.heap.get? := funext h
  rw [e] <;> rfl
theorem lkC_mem : ∀ {l : List (Str × D)} {x : Str} {d : D}, lkC l x = some d → (x, d) ∈ l
  | [], _, _, h => by cases h
  | (y, e) :: r, x, d, h => by
    unfold lkC at h
    split at h
    · rename_i c
      cases h
      rw [eq_of_beq c]
      exact List.mem_cons_self
    · exact List.mem_cons_of_mem _ (lkC_mem h)
theorem mg_of_says {P : Program} {G : Gi} {st : Stmt} {fn : List He.DefD} {K : Frag} {h : Heap} {mg : Str → Option Value} (X : K.In h) (Gm : h.Ns mainGlobals mg) (c : obsR P G fn K = valR (initW st) fn)
    (he : ∃ (p1 p2 q1 q2 q3 q4 q5 q6 q7 q8 q9 q10 : Pos), (q3.endLine == q5.line) = true ∧ defArgs (clsInit st) = eA p1 p2 ∧ defBody (clsInit st) = eB q1 q2 q3 q4 q5 q6 q7 q8 q9 q10 ∧ defScope (clsInit st) = eS) :
    Mg (gaN K G.fns) (gaN K G.cls) (He.ga K scN) (He.ma K (He.ga K scN) "__init__") P K mg G := by
  have c0 : (factsB P K G && fn.all fun d => d.ok K) = true := congrArg (fun z : AlR => z.1) c
  have c1 : initV K (He.ma K (He.ga K scN) "__init__") = initW st := congrArg (fun z : AlR => z.2.1) c
  have f := (Bool.and_eq_true_iff.mp c0).1
  simp only [factsB, Bool.and_eq_true, List.all_eq_true, decide_eq_true_eq, Bool.or_eq_true, Bool.not_eq_true', List.isEmpty_iff, List.mem_range] at f
  obtain ⟨f1, f2, f3, f4, f5, f6, f7⟩ := f
  have gN : ∀ {l : List Str} {i : Nat} {x : Str}, l[i]? = some x → gaN K l i = He.ga K x := fun e => by unfold gaN; rw [e]
  refine ⟨fun i x e => ?_, fun x d e => ?_, fun x e => ?_, fun e => ?_, fun e => ?_, fun i x e => ?_, fun c h hc hh => f7 c hc h hh⟩
  · rw [gN e]
    exact PySem.W.mg_of X Gm (f1 x (List.mem_of_getElem? e))
  · have q := f4 _ (lkC_mem e)
    unfold conG at q
    split at q
    · rename_i u hu
      obtain ⟨v, q1, q2⟩ := conB_ok (fa := gaN K G.fns) d u q
      exact ⟨v, u, PySem.W.mg_of X Gm hu, q1, q2⟩
    · cases q
  · exact PySem.W.mg_none_of X Gm (f2 x (by simpa using e))
  · rcases f3 with z | z
    · rw [e] at z; cases z
    · exact PySem.W.mg_of X Gm z
  · rcases f5 with z | z
    · exact (e z).elim
    · exact errBB_ok X Gm c1 z he
  · rw [gN e]
    obtain ⟨z1, z2⟩ := f6 x (List.mem_of_getElem? e)
    exact ⟨PySem.W.mg_of X Gm z1, errCB_ok z2⟩
theorem def_of_says {P : Program} {G : Gi} {iv : InV} {fn : List He.DefD} {K : Frag} (c : obsR P G fn K = valR iv fn) (i : Nat) {d : He.DefD} (h : fn[i]? = some d) : ∃ fd, FunD K d.name d.qual d.params d.body d.scope (d.dvs K) (d.kws K) (He.fAd K d.at_) fd := by
  have c0 : (factsB P K G && fn.all fun d => d.ok K) = true := congrArg (fun z : AlR => z.1) c
  have c2 := (Bool.and_eq_true_iff.mp c0).2
  have e : fn.map (fun d => He.fnW K d.at_) = fn.map He.DefD.val := congrArg (fun z : AlR => z.2.2) c
  have e2 : (fn.map fun d => He.fnW K d.at_)[i]? = (fn.map He.DefD.val)[i]? := by rw [e]
  rw [List.getElem?_map, List.getElem?_map, h] at e2
  exact He.DefD.funD (Option.some.inj e2) (List.all_eq_true.mp c2 d (List.mem_of_getElem? h))
/-- the law, from its plain form -/
theorem law_end {l : PySem.W.OpenLaw} {n iL : Nat} {q : Program} {loose : List Str} {XP : (Str → Option Value) → Heap → Prop} {d : DefRec} {G : Gi} {st : Stmt} {ds : List Dd} {dL : Dd} {x : Str} {m : Nat} (hn : l.most = some 63) (hdf : d.params.defaults = []) (hm : m ≤ 200)
    (hG : G.fns = ds.map Dd.nm) (good : ∀ d ∈ ds, d.good G) (he : ∃ (p1 p2 q1 q2 q3 q4 q5 q6 q7 q8 q9 q10 : Pos), (q3.endLine == q5.line) = true ∧ defArgs (clsInit st) = eA p1 p2 ∧ defBody (clsInit st) = eB q1 q2 q3 q4 q5 q6 q7 q8 q9 q10 ∧ defScope (clsInit st) = eS)
    (eL : ds[iL]? = some dL) (enm : dL.nm = d.name) (eps : dL.ps = [x])
    (plain : ∀ ns : List Int, ns.length ≤ 63 → run (tblT ds) m iL [.scr ns] = .ok (.bl true, false)) :
    PySem.W.WalkO q loose XP (hookR l.prog G (initW st) (ds.map Dd.at_) n).says l.row.toRowW d [] (fun f vs => PySem.call f vs) := by
  refine walk_G (n := 63) (k := m) (x := x) hn (by decide) hdf ⟨rfl, by show 301 + 3 * m + 5 < 1000; omega, by show 4 + 16 * m + 200 < 9900; omega⟩ fun w mg fl h Y Gm hmg => ?_
  obtain ⟨K, KX, c⟩ := Y
  have M := mg_of_says KX Gm c he
  have gN : ∀ {l : List Str} {i : Nat} {x : Str}, l[i]? = some x → gaN K l i = He.ga K x := fun e => by unfold gaN; rw [e]
  have hF : ∀ (i : Nat) (d : Dd), ds[i]? = some d → ∃ fd, FunD K d.nm d.nm (defArgs d.st) (defBody d.st) (defScope d.st) [] [] (gaN K G.fns i) fd := fun i d e => by
    obtain ⟨fd, F⟩ := def_of_says c i (d := d.at_) (by rw [List.getElem?_map, e]; rfl)
    refine ⟨fd, ?_⟩
    have e2 : gaN K G.fns i = He.fAd K (d.nm, none) := by
      rw [gN (x := d.nm) (by rw [hG, List.getElem?_map, e]; rfl)]
      rfl
    rw [e2]
    exact F
  have fns : ∀ (base : Heap), _ := fun base => all_fns (w := w) (base := base) M hG good hF m iL dL eL
  obtain ⟨fd, F, _, _⟩ := fns h
  have gL : mg d.name = some (.ref (gaN K G.fns iL)) := M.fn iL d.name (by rw [hG, List.getElem?_map, eL, ← enm]; rfl)
  have ef : fl = gaN K G.fns iL := by
    rw [hmg] at gL
    cases gL; rfl
  have gd := good dL (List.mem_of_getElem? eL)
  have bind := FunD.bindsA F gd.bd
  refine ⟨K, fd, spF (gaN K G.fns) (gaN K G.cls) K (run (tblT ds) m iL) 1, KX, fun s u => ?_, fun H a ns hl only sq => law_sp (plain ns hl) only sq, fun base kb gb => ?_⟩
  · have b := bind s [u] (by rw [eps]; rfl)
    rw [eps] at b
    exact b
  · obtain ⟨fd2, F2, G2, _⟩ := fns base
    have e3 : fd2 = fd := by
      obtain ⟨_, _, _, _, _, _, _, _, _, _, _, lk, _⟩ := F.ex
      obtain ⟨_, _, _, _, _, _, _, _, _, _, _, lk2, _⟩ := F2.ex
      rw [lk] at lk2
      cases lk2; rfl
    subst e3
    rw [ef]
    rw [eps] at G2
    exact G2
end Rt
end
section
set_option linter.all false
set_option autoImplicit false
set_option Elab.async false
set_option maxRecDepth 100000
set_option maxHeartbeats 2000000
namespace Rt
open PySem
/-! ## Combinators at work -/
section
variable (σ : Env) (a b : Ex) (t u : Tst)
@[simp] theorem xCon_eq (d : D) : xCon d σ = .ok ⟨d, .fz, []⟩ := nrfl
@[simp] theorem xBin_eq (f : D → D → Option (D × Bool)) : xBin f a b σ = (a σ).bd fun r => (b σ).bd fun s => match f r.d s.d with
  | some (d, fr) => .ok (mk fr d (r.kc ++ s.kc))
  | none => .bad := nrfl
@[simp] theorem xVar_eq (i : Nat) : xVar i σ = match σ[i]? with
  | some (some (d, true)) => .ok ⟨d, .sl i, []⟩
  | some (some (d, false)) => .ok ⟨d, .fz, []⟩
  | _ => .bad := nrfl
@[simp] theorem xNeg_eq : xNeg a σ = (a σ).bd fun r => match r.d with
  | .int i => .ok ⟨.int (-i), .fz, []⟩
  | _ => .bad := nrfl
@[simp] theorem xCmp_eq (o : Cop) : xCmp o a b σ = (a σ).bd fun r => (b σ).bd fun s => match cmpD o r.d s.d with
  | some k => .ok ⟨.bl k, .fz, []⟩
  | none => .bad := nrfl
@[simp] theorem xChain_eq (l : List (Cop × Ex)) : xChain a l σ = (a σ).bd fun r => chainGo r l σ := nrfl
@[simp] theorem chainGo_cons (r : Rv) (o : Cop) (rest : List (Cop × Ex)) : chainGo r ((o, b) :: rest) σ = (b σ).bd fun s => match cmpD o r.d s.d with
    | some k => linkK rest k (chainGo s rest σ)
    | none => .bad := nrfl
@[simp] theorem linkK_nil (k : Bool) (n : R Rv) : linkK [] k n = .ok ⟨.bl k, .fz, []⟩ := nrfl
@[simp] theorem linkK_t (p : Cop × Ex) (l : List (Cop × Ex)) (n : R Rv) : linkK (p :: l) true n = n := nrfl
@[simp] theorem linkK_f (p : Cop × Ex) (l : List (Cop × Ex)) (n : R Rv) : linkK (p :: l) false n = .ok ⟨.bl false, .fz, []⟩ := nrfl
@[simp] theorem tOf_eq : tOf a σ = (a σ).bd fun r => R.op (truth r.d) := nrfl
@[simp] theorem tNot_eq : tNot t σ = (t σ).bd fun k => .ok (!k) := nrfl
@[simp] theorem tAnd_eq : tAnd t u σ = (t σ).bd fun k => match k with | true => u σ | false => .ok false := nrfl
@[simp] theorem tOr_eq : tOr t u σ = (t σ).bd fun k => match k with | true => .ok true | false => u σ := nrfl
@[simp] theorem xNot_eq : xNot a σ = (a σ).bd fun r => match truth r.d with
  | some k => .ok ⟨.bl (!k), .fz, []⟩
  | none => .bad := nrfl
@[simp] theorem xAnd_eq : xAnd a b σ = (a σ).bd fun r => match truth r.d with
  | some true => b σ
  | some false => .ok r
  | none => .bad := nrfl
@[simp] theorem xOr_eq : xOr a b σ = (a σ).bd fun r => match truth r.d with
  | some true => .ok r
  | some false => b σ
  | none => .bad := nrfl
@[simp] theorem xIf_eq : xIf t a b σ = (t σ).bd fun k => match k with | true => a σ | false => b σ := nrfl
@[simp] theorem evs_nil : evs [] σ = .ok [] := nrfl
@[simp] theorem evs_cons (es : List Ex) : evs (a :: es) σ = (a σ).bd fun r => (evs es σ).bd fun rs => .ok (r :: rs) := nrfl
@[simp] theorem xCall_eq (f : Fn) (es : List Ex) : xCall f es σ = (evs es σ).bd fun rs => (f (dL rs)).bd fun p => .ok (mk p.2 p.1 (kpL rs)) := nrfl
@[simp] theorem xBi_eq (f : List D → Option (D × Bool)) (es : List Ex) : xBi f es σ = (evs es σ).bd fun rs => match f (dL rs) with
  | some (d, fr) => .ok (mk fr d (kcL rs))
  | none => .bad := nrfl
@[simp] theorem xCallV_eq (n : Nat) (call : Nat → Fn) (es : List Ex) : xCallV n call a es σ = (a σ).bd fun r => match r.d with
  | .fn i => if i < n then xCall (call i) es σ else .bad
  | _ => .bad := nrfl
@[simp] theorem xIdx_eq : xIdx a b σ = (a σ).bd fun r => (b σ).bd fun s => match dIdx r.d s.d with
  | some d => .ok (mkF d r.kc)
  | none => .bad := nrfl
@[simp] theorem spread_nil : spread [] σ = .ok ([], []) := nrfl
@[simp] theorem spread_f (es : List (Bool × Ex)) : spread ((false, a) :: es) σ = (a σ).bd fun r => (spread es σ).bd fun q => .ok (r.d :: q.1, r.kp ++ q.2) := nrfl
@[simp] theorem xLst_eq (es : List (Bool × Ex)) : xLst es σ = (spread es σ).bd fun q => if q.1.length ≤ line then .ok (mkN (.lst q.1) q.2) else .bad := nrfl
@[simp] theorem xTup_eq (es : List (Bool × Ex)) : xTup es σ = (spread es σ).bd fun q => if q.1.length ≤ line then .ok (mkF (.tup q.1) q.2) else .bad := nrfl
@[simp] theorem evO_none : evO none σ = .ok none := nrfl
@[simp] theorem evO_some : evO (some a) σ = (a σ).bd fun r => match r.d with
    | .int i => .ok (some i)
    | _ => .bad := nrfl
@[simp] theorem xSlice_eq (lo hi : Option Ex) : xSlice a lo hi σ = (a σ).bd fun r => (evO lo σ).bd fun l => (evO hi σ).bd fun h => match dSlice r.d l h with
  | some (d, fr) => .ok (mk fr d r.kc)
  | none => .bad := nrfl
@[simp] theorem iSeq_eq : iSeq a σ = (a σ).bd fun r => match r.d with
  | .lst xs => (noDep xs r.kc).bd fun q => .ok (q.1, r.kp)
  | .tup xs => (noDep xs r.kc).bd fun q => .ok (q.1, r.kp)
  | _ => .bad := nrfl
@[simp] theorem iRng1_eq : iRng1 a σ = (a σ).bd fun r => match r.d with
  | .int n => if okRng n then .ok ((upto 0 n.toNat).map .int, []) else .bad
  | _ => .bad := nrfl
@[simp] theorem iRng2_eq : iRng2 a b σ = (a σ).bd fun r => (b σ).bd fun s => match r.d, s.d with
  | .int m, .int n => if okRng m && okRng n then .ok ((upto m (n - m).toNat).map .int, []) else .bad
  | _, _ => .bad := nrfl
@[simp] theorem iEnum_eq : iEnum a σ = (a σ).bd fun r => match r.d with
  | .lst xs => (noDep xs r.kc).bd fun q => .ok (numbered 0 q.1, r.kp)
  | .tup xs => (noDep xs r.kc).bd fun q => .ok (numbered 0 q.1, r.kp)
  | _ => .bad := nrfl
@[simp] theorem iZip_eq : iZip a b σ = (a σ).bd fun r => (b σ).bd fun s => match r.d, s.d with
  | .lst xs, .lst ys => (noDep xs r.kc).bd fun q => (noDep ys s.kc).bd fun q' => .ok (paired q.1 q'.1, r.kp ++ s.kp)
  | .tup xs, .tup ys => (noDep xs r.kc).bd fun q => (noDep ys s.kc).bd fun q' => .ok (paired q.1 q'.1, r.kp ++ s.kp)
  | .tup xs, .lst ys => (noDep xs r.kc).bd fun q => (noDep ys s.kc).bd fun q' => .ok (paired q.1 q'.1, r.kp ++ s.kp)
  | _, _ => .bad := nrfl
@[simp] theorem noDep_nil (xs : List D) : noDep xs [] = .ok (xs, []) := nrfl
@[simp] theorem gName_eq (i : Nat) (d : D) : gName i d σ = if i < σ.length then some (σ.set i (some (d, false))) else none := nrfl
@[simp] theorem gAll_nil : gAll [] [] σ = some σ := nrfl
@[simp] theorem gAll_cons (g : Tg) (gs : List Tg) (d : D) (ds : List D) : gAll (g :: gs) (d :: ds) σ = (g d σ).bind fun σ' => gAll gs ds σ' := nrfl
@[simp] theorem gTup_eq (gs : List Tg) (ds : List D) : gTup gs (.tup ds) σ = gAll gs ds σ := nrfl
@[simp] theorem gTup_eqL (gs : List Tg) (ds : List D) : gTup gs (.lst ds) σ = gAll gs ds σ := nrfl
@[simp] theorem kp_fz (d : D) (p : List Nat) : Rv.kp ⟨d, .fz, p⟩ = p := nrfl
@[simp] theorem kp_nw (d : D) (p : List Nat) : Rv.kp ⟨d, .nw, p⟩ = p := nrfl
@[simp] theorem kp_sl (d : D) (p : List Nat) (i : Nat) : Rv.kp ⟨d, .sl i, p⟩ = [i] := nrfl
@[simp] theorem kc_fz (d : D) (p : List Nat) : Rv.kc ⟨d, .fz, p⟩ = p := nrfl
@[simp] theorem kc_nw (d : D) (p : List Nat) : Rv.kc ⟨d, .nw, p⟩ = p := nrfl
@[simp] theorem kc_sl (d : D) (p : List Nat) (i : Nat) : Rv.kc ⟨d, .sl i, p⟩ = [] := nrfl
@[simp] theorem isNw_fz (d : D) (p : List Nat) : Rv.isNw ⟨d, .fz, p⟩ = false := nrfl
@[simp] theorem isNw_nw (d : D) (p : List Nat) : Rv.isNw ⟨d, .nw, p⟩ = true := nrfl
@[simp] theorem isNw_sl (d : D) (p : List Nat) (i : Nat) : Rv.isNw ⟨d, .sl i, p⟩ = false := nrfl
@[simp] theorem mkF_nil (d : D) : mkF d [] = ⟨d, .fz, []⟩ := nrfl
@[simp] theorem mkN_nil (d : D) : mkN d [] = ⟨d, .nw, []⟩ := nrfl
@[simp] theorem mkF_int (i : Int) (p : List Nat) : mkF (.int i) p = ⟨.int i, .fz, []⟩ := by cases p <;> rfl
@[simp] theorem mkF_bl (i : Bool) (p : List Nat) : mkF (.bl i) p = ⟨.bl i, .fz, []⟩ := by cases p <;> rfl
@[simp] theorem mkF_non (p : List Nat) : mkF .non p = ⟨.non, .fz, []⟩ := by cases p <;> rfl
@[simp] theorem mkF_rep (d : D) (p : List Nat) : mkF (.rep d) p = ⟨.rep d, .fz, []⟩ := by cases p <;> rfl
@[simp] theorem mk_t (d : D) (p : List Nat) : mk true d p = mkN d p := nrfl
@[simp] theorem mk_f (d : D) (p : List Nat) : mk false d p = mkF d p := nrfl
@[simp] theorem dL_nil : dL [] = [] := nrfl
@[simp] theorem dL_cons (r : Rv) (rs : List Rv) : dL (r :: rs) = r.d :: dL rs := nrfl
@[simp] theorem kpL_nil : kpL [] = [] := nrfl
@[simp] theorem kpL_cons (r : Rv) (rs : List Rv) : kpL (r :: rs) = r.kp ++ kpL rs := nrfl
@[simp] theorem kcL_nil : kcL [] = [] := nrfl
@[simp] theorem kcL_cons (r : Rv) (rs : List Rv) : kcL (r :: rs) = r.kc ++ kcL rs := nrfl
/-! statements -/
variable (f g : Sm) (e : Ex)
@[simp] theorem sPass_eq : sPass σ = .nx σ := nrfl
@[simp] theorem sSeq_eq : sSeq f g σ = (f σ).bd g := nrfl
@[simp] theorem sExpr_eq : sExpr e σ = (e σ).to σ fun _ => .nx σ := nrfl
@[simp] theorem sRet_eq : sRet e σ = (e σ).to σ fun r => if fineAt [] σ r.kp then .rt r.d (match r.t with | .fz => false | _ => true) else .bad := nrfl
@[simp] theorem sRetN_eq : sRetN σ = .rt .non false := nrfl
@[simp] theorem sSet_eq (i : Nat) : sSet i e σ = (e σ).to σ fun r => frzO r.kp σ fun σ' => if i < σ.length then .nx (σ'.set i (some (r.d, r.isNw))) else .bad := nrfl
@[simp] theorem sTg_eq (g : Tg) : sTg g e σ = (e σ).to σ fun r => frzO r.kp σ fun σ' => match g r.d σ' with
  | some σ'' => .nx σ''
  | none => .bad := nrfl
@[simp] theorem sIf_eq : sIf t f g σ = (t σ).to σ fun k => match k with | true => f σ | false => g σ := nrfl
@[simp] theorem sApp_eq (i : Nat) : sApp i e σ = match σ[i]? with
  | some (some (.lst _, true)) => (e σ).to σ fun r => frzO r.kp σ fun σ' => (match σ'[i]? with
    | some (some (.lst xs, true)) => if xs.length < line then .nx (σ'.set i (some (.lst (xs ++ [r.d]), true))) else .bad
    | _ => .bad)
  | _ => .bad := nrfl
@[simp] theorem sFor_eq (g : Tg) (it : Itr) : sFor g it f σ = (it σ).to σ fun q => frzO q.2 σ fun σ' => forGo g f q.1 σ' := nrfl
@[simp] theorem forGo_nil (g : Tg) : forGo g f [] σ = .nx σ := nrfl
theorem forGo_cons (g : Tg) (d : D) (ds : List D) : forGo g f (d :: ds) σ = match g d σ with
    | none => .bad
    | some σ' => (f σ').bd (forGo g f ds) := rfl
@[simp] theorem sRaise_eq (c : Nat) : sRaise c e σ = (e σ).to σ fun r => match r.d with
  | .int i => .ex c (.int i) σ
  | _ => .bad := nrfl
@[simp] theorem sTry_eq (n : Nat) (hs : List Hd) : sTry n f hs σ = match f σ with
  | .ex c a σ' => if c < n then pick hs c a σ' else .bad
  | o => o := nrfl
@[simp] theorem pick_nil (c : Nat) (a : D) : pick [] c a σ = .ex c a σ := nrfl
@[simp] theorem pick_cons (h : Hd) (hs : List Hd) (c : Nat) (a : D) : pick (h :: hs) c a σ = if h.1 c then .rt (h.2 a) false else pick hs c a σ := nrfl
@[simp] theorem fine_nil (own : List Nat) : fineAt own σ [] = true := nrfl
@[simp] theorem fine_cons (own : List Nat) (i : Nat) (l : List Nat) : fineAt own σ (i :: l) = ((!own.contains i && (match σ[i]? with
  | some (some (_, true)) => true
  | _ => false)) && fineAt own σ l) := nrfl
end
/-! operations -/
@[simp] theorem dAdd_int (i j : Int) : dAdd (.int i) (.int j) = some (.int (i + j), false) := nrfl
@[simp] theorem dSub_int (i j : Int) : dSub (.int i) (.int j) = some (.int (i - j), false) := nrfl
theorem dMul_int (i j : Int) : dMul (.int i) (.int j) = if wideOk i j then some (.int (i * j), false) else none := rfl
theorem wide_r {i j : Int} (h : -(2 ^ 64) < j) (k : j < 2 ^ 64 - 1) : wideOk i j = true := by
  have e : below j 18446744073709551614 = true := below_iff.mpr (by omega)
  unfold wideOk
  rw [e]
  simp
theorem wide_l {i j : Int} (h : -(2 ^ 64) < i) (k : i < 2 ^ 64 - 1) : wideOk i j = true := by
  have e : below i 18446744073709551614 = true := below_iff.mpr (by omega)
  unfold wideOk
  rw [e]
  simp
theorem mul_r {i j : Int} (h : -(2 ^ 64) < j) (k : j < 2 ^ 64 - 1) : dMul (.int i) (.int j) = some (.int (i * j), false) := by rw [dMul_int, if_pos (wide_r h k)]
theorem mul_l {i j : Int} (h : -(2 ^ 64) < i) (k : i < 2 ^ 64 - 1) : dMul (.int i) (.int j) = some (.int (i * j), false) := by rw [dMul_int, if_pos (wide_l h k)]
theorem div_s {i j : Int} (h : 0 < j) (k : j < 2 ^ 64 - 1) : dDiv (.int i) (.int j) = some (.int (i / j), false) := by
  have e1 : posI j = true := posI_iff.mpr h
  have e2 : below j 18446744073709551614 = true := below_iff.mpr (by omega)
  show (if posI j && (below j 18446744073709551614 || decide (j.natAbs.log2 < 9000)) then _ else _) = _
  rw [e1, e2]
  rfl
theorem okRng_of {i : Int} (h : -4611686018427387904 ≤ i) (k : i ≤ 4611686018427387903) : okRng i = true := below_iff.mpr (by omega)
theorem dMod_int (i j : Int) : dMod (.int i) (.int j) = if 0 < j then some (.int (i % j), false) else none := rfl
theorem mod_s {i j : Int} (h : 0 < j) : dMod (.int i) (.int j) = some (.int (i % j), false) := by rw [dMod_int, if_pos h]
@[simp] theorem cmp_eqI (i j : Int) : cmpD .eq (.int i) (.int j) = some (decide (i = j)) := nrfl
@[simp] theorem cmp_neI (i j : Int) : cmpD .ne (.int i) (.int j) = some (!decide (i = j)) := nrfl
@[simp] theorem cmp_ltI (i j : Int) : cmpD .lt (.int i) (.int j) = some (decide (i < j)) := nrfl
@[simp] theorem cmp_leI (i j : Int) : cmpD .le (.int i) (.int j) = some (decide (i ≤ j)) := nrfl
@[simp] theorem cmp_gtI (i j : Int) : cmpD .gt (.int i) (.int j) = some (decide (j < i)) := nrfl
@[simp] theorem cmp_geI (i j : Int) : cmpD .ge (.int i) (.int j) = some (decide (j ≤ i)) := nrfl
@[simp] theorem truth_bl (b : Bool) : truth (.bl b) = some b := nrfl
@[simp] theorem truth_int (i : Int) : truth (.int i) = some (i != 0) := nrfl
@[simp] theorem bInt_int (i : Int) : bInt [.int i] = some (.int i, false) := nrfl
@[simp] theorem bInt_bl (b : Bool) : bInt [.bl b] = some (.int (if b then 1 else 0), false) := nrfl
@[simp] theorem bAbs_int (i : Int) : bAbs [.int i] = some (.int (i.natAbs : Int), false) := nrfl
@[simp] theorem bLen_lst (xs : List D) : bLen [.lst xs] = some (.int xs.length, false) := nrfl
@[simp] theorem bLen_tup (xs : List D) : bLen [.tup xs] = some (.int xs.length, false) := nrfl
@[simp] theorem bLen_scr (xs : List Int) : bLen [.scr xs] = some (.int xs.length, false) := nrfl
@[simp] theorem bMin_2 (i j : Int) : bMin [.int i, .int j] = some (.int (min i j), false) := nrfl
@[simp] theorem bMax_2 (i j : Int) : bMax [.int i, .int j] = some (.int (max i j), false) := nrfl
theorem asInts_map : ∀ (is : List Int), asInts (is.map .int) = some is
  | [] => rfl
  | i :: is => by simp [asInts, asInts_map is]
@[simp] theorem bSum_map (is : List Int) : bSum [.lst (is.map .int)] = some (.int is.sum, false) := by simp [bSum, asInts_map]
theorem place_nn {n : Nat} {i : Int} (h : 0 ≤ i) (k : i < n) : place n i = some i.toNat := by unfold place; rw [if_pos h, if_pos k]
theorem place_neg {n : Nat} {i : Int} (h : i < 0) (k : 0 ≤ i + n) : place n i = some (i + n).toNat := by unfold place; rw [if_neg (by omega), if_pos k]
theorem idx_lst {xs : List D} {i : Int} {k : Nat} {d : D} (h : place xs.length i = some k) (e : xs[k]? = some d) : dIdx (.lst xs) (.int i) = some d := by
  show (place xs.length i).bind (fun k => xs[k]?) = _
  rw [h]; exact e
theorem idx_tup {xs : List D} {i : Int} {k : Nat} {d : D} (h : place xs.length i = some k) (e : xs[k]? = some d) : dIdx (.tup xs) (.int i) = some d := by
  show (place xs.length i).bind (fun k => xs[k]?) = _
  rw [h]; exact e
theorem idx_scr {xs : List Int} {i : Int} {k : Nat} {d : Int} (h : place xs.length i = some k) (e : xs[k]? = some d) : dIdx (.scr xs) (.int i) = some (.int d) := by
  show (place xs.length i).bind (fun k => xs[k]?.map D.int) = _
  rw [h]
  show xs[k]?.map D.int = _
  rw [e]; rfl
/-- a call at some depth -/
theorem run_at {T : Nat → Option Df} {n i : Nat} {f : Df} (h : T i = some f) (ds : List D) (l : ds.length = f.arity) : run T (n + 1) i ds = ends (f.body (run T n) (begin_ f.slots ds)) := by
  unfold run
  rw [h]
  show (if ds.length = f.arity then _ else _) = _
  rw [if_pos l]
end Rt
end
section
set_option linter.all false
set_option maxRecDepth 100000
set_option autoImplicit false
set_option Elab.async false
set_option maxHeartbeats 2000000
namespace Rt
open PySem
theorem idx_ints {xs : List Int} {i : Int} (h : 0 ≤ i) (k : i < xs.length) : dIdx (.lst (xs.map .int)) (.int i) = some (.int (xs.getD i.toNat 0)) := by
  refine idx_lst (k := i.toNat) (by rw [List.length_map]; exact place_nn h k) ?_
  have lt : i.toNat < xs.length := by omega
  rw [List.getElem?_map, List.getElem?_eq_getElem lt]
  simp [List.getD_eq_getElem?_getD, List.getElem?_eq_getElem lt]
def B_mix : Sm :=
  (sSeq (sSet 3 (xCon (.int 0)))
  (sSeq (sIf (tOf (xCmp .gt (xBi bLen [(xVar 0)]) (xCon (.int 0))))
  (sSet 3 (xIdx (xVar 0) (xBin dMod (xBi bInt [(xVar 1)]) (xBi bLen [(xVar 0)]))))
  sPass)
  (sSeq (sIf (tOf (xCmp .lt (xVar 1) (xBi bLen [(xVar 0)])))
  (sRet (xBin dMod (xBi bInt [(xVar 3)]) (xVar 2)))
  sPass)
  (sRet (xBin dMod (xBi bInt [(xBin dDiv (xBi bInt [(xBin dAdd (xBin dMul (xVar 3) (xCon (.int 7919))) (xBin dMul (xVar 1) (xCon (.int 104729))))]) (xCon (.int 3)))]) (xVar 2))))))
def mixI (xs : List Int) (k many : Int) : Int :=
  if k < xs.length then (if 0 < xs.length then xs.getD (k % xs.length).toNat 0 else 0) % many else (((if 0 < xs.length then xs.getD (k % xs.length).toNat 0 else 0) * 7919 + k * 104729) / 3) % many
theorem mixI_nn {xs : List Int} {k many : Int} (h : 0 < many) : 0 ≤ mixI xs k many := by unfold mixI; split <;> exact Int.emod_nonneg _ (by omega)
theorem mixI_lt {xs : List Int} {k many : Int} (h : 0 < many) : mixI xs k many < many := by unfold mixI; split <;> exact Int.emod_lt_of_pos _ h
theorem mix_body (xs : List Int) (k many : Int) (hk : 0 ≤ k) (hm : 0 < many) : ends (B_mix (begin_ 4 [.lst (xs.map .int), .int k, .int many])) = .ok (.int (mixI xs k many), false) := by
  by_cases h : 0 < xs.length
  · have h' : (0 : Int) < xs.length := by omega
    have b1 := Int.emod_nonneg k (show (xs.length : Int) ≠ 0 by omega)
    have b2 := Int.emod_lt_of_pos k h'
    by_cases h2 : k < xs.length
    · simp [B_mix, begin_, h, h2, mod_s h', mod_s hm, idx_ints b1 b2, mixI]
    · simp [B_mix, begin_, h, h2, mod_s h', mod_s hm, idx_ints b1 b2, mul_r, div_s, mixI]
  · have h2 : ¬ k < xs.length := by omega
    simp [B_mix, begin_, h, h2, mod_s hm, mul_r, div_s, mixI]
def B_draws : Sm :=
  (sSeq (sSet 1 (xLst []))
  (sSeq (sFor (gName 2) (iRng1 (xBi bMin [(xCon (.int 63)), (xBi bLen [(xVar 0)])]))
  (sSeq (sSet 3 (xBi bAbs [(xIdx (xVar 0) (xVar 2))]))
  (sIf (tOf (xCmp .ge (xVar 3) (xBin dPow (xCon (.int 10)) (xCon (.int 18)))))
  (sFor (gName 4) (iRng1 (xCon (.int 60)))
  (sIf (tOf (xCmp .gt (xVar 3) (xCon (.int 0))))
  (sSeq (sApp 1 (xBin dMod (xBi bInt [(xVar 3)]) (xCon (.int 65536))))
  (sSet 3 (xBin dDiv (xVar 3) (xCon (.int 65536)))))
  sPass))
  (sSeq (sSet 5 (xBin dMod (xBi bInt [(xBin dAdd (xBin dMul (xVar 3) (xCon (.int 48271))) (xBin dMul (xBin dAdd (xVar 2) (xCon (.int 1))) (xCon (.int 69621))))]) (xCon (.int 2147483647))))
  (sSeq (sSet 5 (xBin dMod (xBi bInt [(xBin dAdd (xBin dAdd (xBin dMul (xVar 5) (xCon (.int 16807))) (xBin dMul (xCon (.int 11)) (xVar 2))) (xCon (.int 5)))]) (xCon (.int 2147483629))))
  (sSeq (sApp 1 (xBin dMod (xBi bInt [(xVar 5)]) (xCon (.int 65536))))
  (sApp 1 (xBin dMod (xBi bInt [(xBin dDiv (xVar 5) (xCon (.int 65536)))]) (xCon (.int 32768))))))))))
  (sRet (xVar 1))))
/-- the loop over the digits -/
theorem digits_loop (s : List Int) (k : D) (o5 : Slot) : ∀ (l : List Int) (xs : List Int) (rest : Int) (o4 : Slot), xs.length + l.length ≤ line → ∃ (ys : List Int) (r2 : Int) (p4 : Slot), ys.length ≤ xs.length + l.length ∧
    forGo (gName 4) (sIf (tOf (xCmp .gt (xVar 3) (xCon (.int 0))))
      (sSeq (sApp 1 (xBin dMod (xBi bInt [(xVar 3)]) (xCon (.int 65536))))
      (sSet 3 (xBin dDiv (xVar 3) (xCon (.int 65536)))))
      sPass) (l.map .int) [some (.scr s, false), some (.lst (xs.map .int), true), some (k, false), some (.int rest, false), o4, o5] =
      .nx [some (.scr s, false), some (.lst (ys.map .int), true), some (k, false), some (.int r2, false), p4, o5]
  | [], xs, rest, o4, h => ⟨xs, rest, o4, by simp, rfl⟩
  | i :: l, xs, rest, o4, h => by
    simp only [List.length_cons] at h
    by_cases h0 : 0 < rest
    · obtain ⟨ys, r2, p4, h1, h2⟩ := digits_loop s k o5 l (xs ++ [rest % 65536]) (rest / 65536) (some (.int i, false)) (by simp; omega)
      refine ⟨ys, r2, p4, by simp at h1 ⊢; omega, ?_⟩
      rw [← h2]
      rw [List.map_cons, forGo_cons]
      have hl : xs.length < line := by omega
      simp [h0, hl, mod_s, div_s]
    · obtain ⟨ys, r2, p4, h1, h2⟩ := digits_loop s k o5 l xs rest (some (.int i, false)) (by omega)
      refine ⟨ys, r2, p4, by simp; omega, ?_⟩
      rw [← h2]
      rw [List.map_cons, forGo_cons]
      simp [h0]
theorem idx_script {xs : List Int} {i : Int} (h : 0 ≤ i) (k : i < xs.length) : dIdx (.scr xs) (.int i) = some (.int (xs.getD i.toNat 0)) := by
  refine idx_scr (k := i.toNat) (place_nn h k) ?_
  have lt : i.toNat < xs.length := by omega
  simp [List.getD_eq_getElem?_getD, List.getElem?_eq_getElem lt]
theorem line_val : line = 16777216 := rfl
theorem upto_length (lo : Int) (n : Nat) : (upto lo n).length = n := by simp [upto]
theorem pow18 : dPow (.int 10) (.int 18) = some (.int 1000000000000000000, false) := by rfl
theorem okRng60 : okRng 60 = true := okRng_of (by decide) (by decide)
theorem draws_loop (s : List Int) : ∀ (l : List Int) (xs : List Int) (o2 o3 o4 o5 : Slot), (∀ i ∈ l, 0 ≤ i ∧ i < s.length) → xs.length + 60 * l.length ≤ 100000 → ∃ (ys : List Int) (p2 p3 p4 p5 : Slot), ys.length ≤ xs.length + 60 * l.length ∧
    forGo (gName 2) (sSeq (sSet 3 (xBi bAbs [(xIdx (xVar 0) (xVar 2))]))
  (sIf (tOf (xCmp .ge (xVar 3) (xBin dPow (xCon (.int 10)) (xCon (.int 18)))))
  (sFor (gName 4) (iRng1 (xCon (.int 60)))
  (sIf (tOf (xCmp .gt (xVar 3) (xCon (.int 0))))
  (sSeq (sApp 1 (xBin dMod (xBi bInt [(xVar 3)]) (xCon (.int 65536))))
  (sSet 3 (xBin dDiv (xVar 3) (xCon (.int 65536)))))
  sPass))
  (sSeq (sSet 5 (xBin dMod (xBi bInt [(xBin dAdd (xBin dMul (xVar 3) (xCon (.int 48271))) (xBin dMul (xBin dAdd (xVar 2) (xCon (.int 1))) (xCon (.int 69621))))]) (xCon (.int 2147483647))))
  (sSeq (sSet 5 (xBin dMod (xBi bInt [(xBin dAdd (xBin dAdd (xBin dMul (xVar 5) (xCon (.int 16807))) (xBin dMul (xCon (.int 11)) (xVar 2))) (xCon (.int 5)))]) (xCon (.int 2147483629))))
  (sSeq (sApp 1 (xBin dMod (xBi bInt [(xVar 5)]) (xCon (.int 65536))))
  (sApp 1 (xBin dMod (xBi bInt [(xBin dDiv (xVar 5) (xCon (.int 65536)))]) (xCon (.int 32768)))))))))
      (l.map .int) [some (.scr s, false), some (.lst (xs.map .int), true), o2, o3, o4, o5] =
      .nx [some (.scr s, false), some (.lst (ys.map .int), true), p2, p3, p4, p5]
  | [], xs, o2, o3, o4, o5, _, _ => ⟨xs, o2, o3, o4, o5, by simp, rfl⟩
  | i :: l, xs, o2, o3, o4, o5, hl, hz => by
    simp only [List.length_cons] at hz
    obtain ⟨h0, h1⟩ := hl i List.mem_cons_self
    have hl2 : ∀ j ∈ l, 0 ≤ j ∧ j < s.length := fun j hj => hl j (List.mem_cons_of_mem _ hj)
    have e := idx_script h0 h1
    generalize s.getD i.toNat 0 = c at e
    by_cases hb : (1000000000000000000 : Int) ≤ (c.natAbs : Int)
    · obtain ⟨ys, r2, p4, g1, g2⟩ := digits_loop s (.int i) o5 (upto 0 60) xs (c.natAbs : Int) o4 (by rw [upto_length, line_val]; omega)
      obtain ⟨zs, q2, q3, q4, q5, g3, g4⟩ := draws_loop s l ys (some (.int i, false)) (some (.int r2, false)) p4 o5 hl2 (by rw [upto_length] at g1; omega)
      refine ⟨zs, q2, q3, q4, q5, by rw [upto_length] at g1; simp only [List.length_cons]; omega, ?_⟩
      rw [← g4, List.map_cons, forGo_cons]
      simp [e, pow18, hb, okRng60, -List.map_map, g2]
    · have hl3 : xs.length < line := by rw [line_val]; omega
      have hl4 : xs.length + 1 < line := by rw [line_val]; omega
      obtain ⟨zs, q2, q3, q4, q5, g3, g4⟩ := draws_loop s l (xs ++ [((((c.natAbs : Int) * 48271 + (i + 1) * 69621) % 2147483647 * 16807 + 11 * i + 5) % 2147483629) % 65536, ((((c.natAbs : Int) * 48271 + (i + 1) * 69621) % 2147483647 * 16807 + 11 * i + 5) % 2147483629 / 65536) % 32768]) (some (.int i, false)) (some (.int (c.natAbs : Int), false)) o4 (some (.int ((((c.natAbs : Int) * 48271 + (i + 1) * 69621) % 2147483647 * 16807 + 11 * i + 5) % 2147483629), false)) hl2 (by simp; omega)
      refine ⟨zs, q2, q3, q4, q5, by simp at g3 ⊢; omega, ?_⟩
      rw [← g4, List.map_cons, forGo_cons]
      simp [e, pow18, hb, mul_r, mul_l, mod_s, div_s, hl3, hl4]
theorem draws_body (s : List Int) (h : s.length ≤ 63) : ∃ ys : List Int, ys.length ≤ 3780 ∧ ends (B_draws (begin_ 6 [.scr s])) = .ok (.lst (ys.map .int), true) := by
  obtain ⟨ys, p2, p3, p4, p5, g1, g2⟩ := draws_loop s (upto 0 s.length) [] none none none none (fun i hi => by
    simp only [upto, List.mem_map, List.mem_range] at hi
    obtain ⟨k, hk, rfl⟩ := hi
    omega) (by rw [upto_length]; simp; omega)
  refine ⟨ys, by rw [upto_length] at g1; simp at g1; omega, ?_⟩
  have em : min (63 : Int) s.length = s.length := by omega
  have er : okRng (s.length : Int) = true := okRng_of (by omega) (by omega)
  simp only [List.map_nil] at g2
  simp [B_draws, begin_, em, er, -List.map_map, g2]
end Rt
end
section
set_option linter.all false
set_option autoImplicit false
set_option Elab.async false
set_option maxRecDepth 100000
set_option maxHeartbeats 2000000
namespace Rt
open PySem
/-! ## Lists of ints: compared, shown, filtered -/
theorem pyL_ints : ∀ (l : List Int), D.pyL (l.map .int) = l.map PyData.int
  | [] => nrfl
  | i :: l => by simp [D.pyL, D.py, pyL_ints l]
theorem plain_ints : ∀ (l : List Int), PyData.plainAll (l.map .int) = true
  | [] => nrfl
  | i :: l => by simp [PyData.plainAll, PyData.plain, plain_ints l]
theorem depth_ints : ∀ (l : List Int), PyData.depthAll (l.map .int) = 0
  | [] => nrfl
  | i :: l => by simp [PyData.depthAll, PyData.depth, depth_ints l]
theorem eqv_ints : ∀ (a b : List Int), PyData.eqvAll (a.map .int) (b.map .int) = decide (a = b)
  | [], [] => by simp [PyData.eqvAll]
  | [], _ :: _ => by simp [PyData.eqvAll]
  | _ :: _, [] => by simp [PyData.eqvAll]
  | i :: a, j :: b => by
    simp only [List.map_cons, PyData.eqvAll, PyData.eqv, eqv_ints a b]
    by_cases h : i = j <;> simp [h]
theorem eq_lists (a b : List Int) : dEq (.lst (a.map .int)) (.lst (b.map .int)) = some (decide (a = b)) := by
  show (if okEq (D.lst (a.map .int)).py (D.lst (b.map .int)).py then some (PyData.eqv (D.lst (a.map .int)).py (D.lst (b.map .int)).py) else none) = _
  have e1 : ∀ l : List Int, (D.lst (l.map .int)).py = .list (l.map .int) := fun l => by simp [D.py, pyL_ints]
  rw [e1, e1]
  have ok : okEq (.list (a.map .int)) (.list (b.map .int)) = true := by simp [okEq, PyData.plain, plain_ints, PyData.depth, depth_ints]
  rw [if_pos ok]
  simp [PyData.eqv, eqv_ints]
theorem cmp_neL (a b : List Int) : cmpD .ne (.lst (a.map .int)) (.lst (b.map .int)) = some (!decide (a = b)) := by
  show (dEq _ _).map not = _
  rw [eq_lists]; rfl
mutual
theorem sameP_refl : ∀ (p : PyData), p.plain = true → sameP p p = true
  | .none, _ => nrfl
  | .bool b, _ => by simp [sameP]
  | .int i, _ => by simp [sameP]
  | .str x, _ => by simp [sameP]
  | .list xs, h => by simpa [sameP] using samePL_refl xs (by simpa [PyData.plain] using h)
  | .tuple xs, h => by simpa [sameP] using samePL_refl xs (by simpa [PyData.plain] using h)
  | .dict _, h => by simp [PyData.plain] at h
theorem samePL_refl : ∀ (ps : List PyData), PyData.plainAll ps = true → samePL ps ps = true
  | [], _ => nrfl
  | p :: ps, h => by
    have h2 : p.plain = true ∧ PyData.plainAll ps = true := by simpa [PyData.plainAll] using h
    simp [samePL, sameP_refl p h2.1, samePL_refl ps h2.2]
end
theorem cmp_neR (d : D) (h : okRep d.py = true) : cmpD .ne (D.rep d) (D.rep d) = some false := by
  simp only [okRep, Bool.and_eq_true] at h
  show (if sameP d.py d.py || sameD d.py d.py then some true else none).map not = _
  rw [sameP_refl _ h.1.1.1, Bool.true_or, if_pos rfl]
  rfl
theorem bRepr_of {d : D} (h : okRep d.py = true) : bRepr [d] = some (D.rep d, false) := by
  show (if okRep d.py || okRepD d then some (D.rep d, false) else none) = _
  rw [h, Bool.true_or, if_pos rfl]
theorem sameD_self {d : D} (h : okRepD d = true) : sameD d.py d.py = true := by
  cases d <;> simp only [okRepD, Bool.false_eq_true] at h
  rename_i ks vs
  simp only [okKv, Bool.and_eq_true, List.all_eq_true] at h
  have pa : ∀ (f : PyData × PyData → PyData) (l : List (PyData × PyData)), (∀ x ∈ l, (f x).plain = true) → samePL (l.map f) (l.map f) = true := fun f l => by
    induction l with
    | nil => intro _; rfl
    | cons x l ih =>
      intro k
      simp only [List.map_cons, samePL, Bool.and_eq_true]
      exact ⟨sameP_refl _ (k x List.mem_cons_self), ih fun y hy => k y (List.mem_cons_of_mem _ hy)⟩
  simp only [D.py, sameD, Bool.and_eq_true]
  exact ⟨pa _ _ fun x hx => (h.1.1.1 x hx).1, pa _ _ fun x hx => (h.1.1.1 x hx).2⟩
theorem cmp_neRD (d : D) (h : okRepD d = true) : cmpD .ne (D.rep d) (D.rep d) = some false := by
  show (if sameP d.py d.py || sameD d.py d.py then some true else none).map not = _
  rw [sameD_self h, Bool.or_true, if_pos rfl]
  rfl
theorem bRepr_ofD {d : D} (h : okRepD d = true) : bRepr [d] = some (D.rep d, false) := by
  show (if okRep d.py || okRepD d then some (D.rep d, false) else none) = _
  rw [h, Bool.or_true, if_pos rfl]
theorem log2_small {i : Int} (h : -(2 ^ 60) < i ∧ i < 2 ^ 60) : i.natAbs.log2 < 60 := by
  by_cases h0 : i.natAbs = 0
  · rw [h0]; decide
  · exact (Nat.log2_lt h0).mpr (by omega)
theorem rep_ints : ∀ (l : List Int), (∀ i ∈ l, -(2 ^ 60) < i ∧ i < 2 ^ 60) → PyData.showableAll (l.map .int) = true ∧ repWL (l.map .int) ≤ 70 * l.length
  | [], _ => ⟨nrfl, by simp [repWL]⟩
  | i :: l, h => by
    obtain ⟨h1, h2⟩ := rep_ints l fun j hj => h j (List.mem_cons_of_mem _ hj)
    have hi := log2_small (h i List.mem_cons_self)
    refine ⟨?_, ?_⟩
    · simp only [List.map_cons, PyData.showableAll, PyData.showable, h1, Bool.and_true, decide_eq_true_eq]
      omega
    · simp only [List.map_cons, repWL, repW, List.length_cons]
      omega
theorem okRep_list (l : List Int) (h : ∀ i ∈ l, -(2 ^ 60) < i ∧ i < 2 ^ 60) (z : l.length ≤ 100000) : okRep (D.lst (l.map .int)).py = true := by
  obtain ⟨h1, h2⟩ := rep_ints l h
  have e : (D.lst (l.map .int)).py = .list (l.map .int) := by simp [D.py, pyL_ints]
  rw [e]
  simp only [okRep, PyData.plain, plain_ints, PyData.showable, h1, PyData.depth, depth_ints, repW, Bool.true_and, Bool.and_true, Bool.and_eq_true, decide_eq_true_eq, line_val]
  exact ⟨by decide, decide_eq_true (by omega)⟩
theorem okRep_int (i : Int) (h : -(2 ^ 60) < i ∧ i < 2 ^ 60) : okRep (D.int i).py = true := by
  have hi := log2_small h
  simp only [D.py, okRep, PyData.plain, PyData.showable, PyData.depth, repW, Bool.true_and, Bool.and_true, Bool.and_eq_true, decide_eq_true_eq, line_val]
  omega
theorem okRep_bl (b : Bool) : okRep (D.bl b).py = true := by cases b <;> decide
/-! comprehensions -/
@[simp] theorem xLC_eq (own : List Nat) (it : Itr) (g : Tg) (t : Tst) (e : Ex) (σ : Env) : xLC own it g t e σ = (it σ).bd fun q =>
  match lcGo own g t e (wipeE own σ) q.1 with
  | .ok w => if w.1.length ≤ line then .ok (mkN (.lst w.1) w.2) else .bad
  | _ => .bad := nrfl
@[simp] theorem wipeE_nil (σ : Env) : wipeE [] σ = σ := nrfl
@[simp] theorem wipeE_cons (i : Nat) (l : List Nat) (σ : Env) : wipeE (i :: l) σ = (wipeE l σ).set i none := nrfl
@[simp] theorem lcGo_nil (own : List Nat) (g : Tg) (t : Tst) (e : Ex) (σ : Env) : lcGo own g t e σ [] = .ok ([], []) := nrfl
theorem lcGo_cons (own : List Nat) (g : Tg) (t : Tst) (e : Ex) (σ : Env) (x : D) (xs : List D) : lcGo own g t e σ (x :: xs) = match g x σ with
    | none => .bad
    | some σ' => match t σ' with
      | .ok true => (match e σ' with
        | .ok r => if fineAt own σ' r.kp then (lcGo own g t e σ xs).bd fun q => .ok (r.d :: q.1, r.kp ++ q.2) else .bad
        | _ => .bad)
      | .ok false => lcGo own g t e σ xs
      | _ => .bad := nrfl
@[simp] theorem tYesD_eq (σ : Env) : tYesD σ = .ok true := nrfl
/-- [x for x in l if x <= b] -/
theorem lc_filter {i j : Nat} {σ : Env} {b : Int} (hi : i < σ.length) (hj : σ[j]? = some (some (.int b, false))) (ij : i ≠ j) : ∀ l : List Int,
    lcGo [i] (gName i) (tOf (xCmp .le (xVar i) (xVar j))) (xVar i) σ (l.map .int) = .ok ((l.filter fun x => decide (x ≤ b)).map .int, [])
  | [] => nrfl
  | x :: l => by
    have s1 : (σ.set i (some (D.int x, false)))[i]? = some (some (.int x, false)) := List.getElem?_set_self hi
    have s2 : (σ.set i (some (D.int x, false)))[j]? = some (some (.int b, false)) := by rw [List.getElem?_set_ne ij]; exact hj
    rw [List.map_cons, lcGo_cons]
    by_cases h : x ≤ b
    · simp [hi, s1, s2, h, lc_filter hi hj ij l]
    · simp [hi, s1, s2, h, lc_filter hi hj ij l]
theorem upto_nat (m : Nat) : (upto 0 m).map D.int = (List.range m).map fun (k : Nat) => D.int k := by
  unfold upto
  rw [List.map_map]
  congr 1
  funext k
  simp
/-- a comprehension whose turns are told -/
theorem lc_map {own : List Nat} {g : Tg} {e : Ex} {σ : Env} {β : Type} {f : β → D} {v : β → D} (l : List β) (h : ∀ b ∈ l, ∃ σ', g (f b) σ = some σ' ∧ e σ' = .ok ⟨v b, .fz, []⟩) : lcGo own g tYesD e σ (l.map f) = .ok (l.map v, []) := by
  induction l with
  | nil => exact nrfl
  | cons b l ih =>
    obtain ⟨σ', h1, h2⟩ := h b List.mem_cons_self
    rw [List.map_cons, lcGo_cons, h1]
    simp [h2, ih fun c hc => h c (List.mem_cons_of_mem _ hc)]
theorem cut_to (xs : List D) (k : Nat) (h : k ≤ xs.length) : cutL xs none (some (k : Int)) = xs.take k := by
  unfold cutL sEnd
  have e : min (k : Int).toNat xs.length = k := by simp; omega
  simp [e]
end Rt
end
section
set_option linter.all false
set_option autoImplicit false
set_option Elab.async false
set_option maxRecDepth 100000
set_option maxHeartbeats 2000000
namespace Rt
open PySem
/-! ## in -/
theorem any_ints (i : Int) : ∀ l : List Int, ((l.map PyData.int).any fun z => PyData.eqv z (.int i)) = decide (i ∈ l)
  | [] => by simp
  | j :: l => by
    rw [List.map_cons, List.any_cons, any_ints i l]
    simp only [PyData.eqv, List.mem_cons]
    by_cases h : j = i
    · subst h; simp
    · have h2 : ¬ i = j := fun e => h e.symm
      simp [h, h2]
theorem okIn_ints (i : Int) (l : List Int) : okIn (.int i) (l.map .int) = true := by
  simp [okIn, D.py, pyL_ints, PyData.plain, plain_ints, PyData.depth, depth_ints]
theorem in_ints (i : Int) (l : List Int) : dIn (.int i) (.lst (l.map .int)) = some (decide (i ∈ l)) := by
  show (if okIn (.int i) (l.map .int) then some ((D.pyL (l.map .int)).any fun z => PyData.eqv z (D.int i).py) else none) = _
  rw [if_pos (okIn_ints i l), pyL_ints]
  show some ((l.map PyData.int).any fun z => PyData.eqv z (.int i)) = _
  rw [any_ints]
theorem cmp_inI (i : Int) (l : List Int) : cmpD .inn (.int i) (.lst (l.map .int)) = some (decide (i ∈ l)) := in_ints i l
theorem cmp_ninI (i : Int) (l : List Int) : cmpD .nin (.int i) (.lst (l.map .int)) = some (!decide (i ∈ l)) := by
  show (dIn _ _).map not = _
  rw [in_ints]; rfl
/-! ## What may be shown -/
structure Sh (k w : Nat) (d : D) : Prop where
  pl : d.py.plain = true
  sh : d.py.showable = true
  dp : d.py.depth ≤ k
  wd : repW d.py ≤ w
structure ShL (k w : Nat) (ds : List D) : Prop where
  pl : PyData.plainAll (D.pyL ds) = true
  sh : PyData.showableAll (D.pyL ds) = true
  dp : PyData.depthAll (D.pyL ds) ≤ k
  wd : repWL (D.pyL ds) ≤ w
theorem sh_int {i : Int} (h : -(2 ^ 60) < i ∧ i < 2 ^ 60) : Sh 0 70 (.int i) := by
  have hi := log2_small h
  refine ⟨nrfl, ?_, by simp [D.py, PyData.depth], ?_⟩
  · simp only [D.py, PyData.showable, decide_eq_true_eq]; omega
  · simp only [D.py, repW]; omega
theorem shl_nil : ShL 0 0 [] := ⟨nrfl, nrfl, by simp [D.pyL, PyData.depthAll], by simp [D.pyL, repWL]⟩
theorem Sh.mono {k w k' w' : Nat} {d : D} (h : Sh k w d) (a : k ≤ k') (b : w ≤ w') : Sh k' w' d := ⟨h.pl, h.sh, Nat.le_trans h.dp a, Nat.le_trans h.wd b⟩
theorem shl_cons {k w u : Nat} {d : D} {ds : List D} (h : Sh k w d) (hs : ShL k u ds) : ShL k (w + 2 + u) (d :: ds) := by
  refine ⟨?_, ?_, ?_, ?_⟩
  · simp [D.pyL, PyData.plainAll, h.pl, hs.pl]
  · simp [D.pyL, PyData.showableAll, h.sh, hs.sh]
  · have a := h.dp; have b := hs.dp
    simp only [D.pyL, PyData.depthAll]; omega
  · have a := h.wd; have b := hs.wd
    simp only [D.pyL, repWL]; omega
theorem ShL.mono {k w k' w' : Nat} {d : List D} (h : ShL k w d) (a : k ≤ k') (b : w ≤ w') : ShL k' w' d := ⟨h.pl, h.sh, Nat.le_trans h.dp a, Nat.le_trans h.wd b⟩
theorem sh_tup {k w : Nat} {ds : List D} (h : ShL k w ds) : Sh (k + 1) (w + 3) (.tup ds) := by
  refine ⟨?_, ?_, ?_, ?_⟩
  · simpa [D.py, PyData.plain] using h.pl
  · simpa [D.py, PyData.showable] using h.sh
  · have a := h.dp
    simp only [D.py, PyData.depth]; omega
  · have a := h.wd
    simp only [D.py, repW]; omega
theorem sh_lst {k w : Nat} {ds : List D} (h : ShL k w ds) : Sh (k + 1) (w + 3) (.lst ds) := by
  refine ⟨?_, ?_, ?_, ?_⟩
  · simpa [D.py, PyData.plain] using h.pl
  · simpa [D.py, PyData.showable] using h.sh
  · have a := h.dp
    simp only [D.py, PyData.depth]; omega
  · have a := h.wd
    simp only [D.py, repW]; omega
theorem shl_map {k w : Nat} {β : Type} {f : β → D} : ∀ (l : List β), (∀ x ∈ l, Sh k w (f x)) → ShL k ((w + 2) * l.length) (l.map f)
  | [], _ => ⟨nrfl, nrfl, by simp [D.pyL, PyData.depthAll], by simp [D.pyL, repWL]⟩
  | x :: l, h => by
    have := shl_cons (h x List.mem_cons_self) (shl_map l fun y hy => h y (List.mem_cons_of_mem _ hy))
    refine this.mono (Nat.le_refl _) ?_
    rw [List.length_cons, Nat.mul_succ]; omega
theorem Sh.ok {k w : Nat} {d : D} (h : Sh k w d) (a : k ≤ 60) (b : w ≤ 16777216) : okRep d.py = true := by
  have hd := h.dp; have hw := h.wd
  show (d.py.plain && d.py.showable && decide (d.py.depth ≤ 60) && decide (repW d.py ≤ line)) = true
  rw [h.pl, h.sh, decide_eq_true (by omega), decide_eq_true (by rw [line_val]; omega)]
  rfl
theorem cmp_eqR (d : D) (h : okRep d.py = true) : cmpD .eq (D.rep d) (D.rep d) = some true := by
  simp only [okRep, Bool.and_eq_true] at h
  show (if sameP d.py d.py || sameD d.py d.py then some true else none) = _
  rw [sameP_refl _ h.1.1.1, Bool.true_or, if_pos rfl]
/-! ## Pairs of ints -/
def PR (p : Int × Int) : D := .tup [.int p.1, .int p.2]
theorem sh_pr {p : Int × Int} (h : (-(2 ^ 60) < p.1 ∧ p.1 < 2 ^ 60) ∧ -(2 ^ 60) < p.2 ∧ p.2 < 2 ^ 60) : Sh 1 147 (PR p) :=
  (sh_tup (shl_cons (sh_int h.1) (shl_cons (sh_int h.2) shl_nil))).mono (Nat.le_refl _) (by decide)
theorem okRep_prs (l : List (Int × Int)) (h : ∀ p ∈ l, (-(2 ^ 60) < p.1 ∧ p.1 < 2 ^ 60) ∧ -(2 ^ 60) < p.2 ∧ p.2 < 2 ^ 60) (z : l.length ≤ 100000) : okRep (D.lst (l.map PR)).py = true :=
  (sh_lst (shl_map l fun p hp => sh_pr (h p hp))).ok (by decide) (by omega)
theorem paired_map : ∀ (a b : List Int), paired (a.map .int) (b.map .int) = (a.zip b).map PR
  | [], _ => rfl
  | _ :: _, [] => rfl
  | x :: a, y :: b => by
    show _ :: paired (a.map .int) (b.map .int) = _
    rw [paired_map a b]; rfl
theorem cmp_neN {xs : List D} {k w : Nat} (h : ShL k w xs) : cmpD .ne (.lst xs) (.lst []) = some (!xs.isEmpty) := by
  show (dEq (.lst xs) (.lst [])).map not = _
  have e : dEq (.lst xs) (.lst []) = some xs.isEmpty := by
    show (if okEq (D.lst xs).py (D.lst []).py then some (PyData.eqv (D.lst xs).py (D.lst []).py) else none) = _
    have ok : okEq (D.lst xs).py (D.lst []).py = true := by
      simp [okEq, D.py, D.pyL, PyData.plain, h.pl, PyData.plainAll, PyData.depth, PyData.depthAll]
    rw [if_pos ok]
    congr 1
    cases xs <;> simp [D.py, D.pyL, PyData.eqv, PyData.eqvAll]
  rw [e]; rfl
/-! ## Places -/
@[simp] theorem spread_t (a : Ex) (es : List (Bool × Ex)) (σ : Env) : spread ((true, a) :: es) σ = (a σ).bd fun r => (match r.d with
    | .lst xs => (spread es σ).bd fun q => .ok (xs ++ q.1, r.kc ++ q.2)
    | .tup xs => (spread es σ).bd fun q => .ok (xs ++ q.1, r.kc ++ q.2)
    | _ => .bad) := nrfl
theorem idx_map {β : Type} [Inhabited β] {f : β → D} {xs : List β} {i : Int} (h : 0 ≤ i) (k : i < xs.length) : dIdx (.lst (xs.map f)) (.int i) = some (f (xs.getD i.toNat default)) := by
  refine idx_lst (k := i.toNat) (by rw [List.length_map]; exact place_nn h k) ?_
  have lt : i.toNat < xs.length := by omega
  rw [List.getElem?_map, List.getElem?_eq_getElem lt]
  simp [List.getD_eq_getElem?_getD, List.getElem?_eq_getElem lt]
theorem idx_end (xs : List D) (a : D) : dIdx (.lst (xs ++ [a])) (.int (-1)) = some a := by
  refine idx_lst (k := xs.length) ?_ ?_
  · have : (xs ++ [a]).length = xs.length + 1 := by simp
    rw [this, place_neg (by omega) (by omega)]
    congr 1
    omega
  · simp
theorem pair_0 (a b : D) : dIdx (.tup [a, b]) (.int 0) = some a := by rfl
theorem pair_1 (a b : D) : dIdx (.tup [a, b]) (.int 1) = some b := by rfl
theorem le2_ : (2 : Nat) ≤ line := by decide
theorem cut_from (xs : List D) (k : Nat) : cutL xs (some (k : Int)) none = xs.drop k := by
  show (xs.drop (if 0 ≤ (k : Int) then min (k : Int).toNat xs.length else ((k : Int) + xs.length).toNat)).take (xs.length - (if 0 ≤ (k : Int) then min (k : Int).toNat xs.length else ((k : Int) + xs.length).toNat)) = _
  rw [if_pos (by omega), Int.toNat_natCast]
  by_cases h : k ≤ xs.length
  · rw [Nat.min_eq_left h]
    exact List.take_of_length_le (by simp)
  · rw [Nat.min_eq_right (by omega), List.drop_length, List.drop_eq_nil_of_le (by omega)]
    simp
theorem numbered_map {β : Type} (f : β → D) : ∀ (l : List β) (k : Nat), numbered k (l.map f) = (l.zipIdx k).map fun p => .tup [.int p.2, f p.1]
  | [], k => rfl
  | x :: l, k => by
    show .tup [.int k, f x] :: numbered (k + 1) (l.map f) = _
    rw [numbered_map f l (k + 1)]; rfl
/-! ## Comprehensions, loops -/
theorem lc_fm {own : List Nat} {g : Tg} {t : Tst} {e : Ex} {σ : Env} {β : Type} (f : β → D) (p : β → Bool) (v : β → D) (l : List β) (h : ∀ b ∈ l, ∃ σ', g (f b) σ = some σ' ∧ t σ' = .ok (p b) ∧ (p b = true → e σ' = .ok ⟨v b, .fz, []⟩)) : lcGo own g t e σ (l.map f) = .ok ((l.filter p).map v, []) := by
  induction l with
  | nil => exact nrfl
  | cons b l ih =>
    obtain ⟨σ', h1, h2, h3⟩ := h b List.mem_cons_self
    have ih' := ih fun c hc => h c (List.mem_cons_of_mem _ hc)
    rw [List.map_cons, lcGo_cons, h1]
    cases hp : p b with
    | true =>
      rw [hp] at h2
      simp [h2, h3 hp, ih', hp]
    | false =>
      rw [hp] at h2
      simp [h2, ih', hp]
theorem seq_r (a b c : Sm) : sSeq (sSeq a b) c = sSeq a (sSeq b c) := by
  funext σ
  show ((a σ).bd b).bd c = (a σ).bd fun σ => (b σ).bd c
  cases a σ <;> rfl
def stp (g : Tg) (b : Sm) (d : D) : Sm := fun σ => match g d σ with
  | none => .bad
  | some σ' => b σ'
theorem forGo_stp (g : Tg) (b : Sm) (d : D) (ds : List D) (σ : Env) : forGo g b (d :: ds) σ = (stp g b d σ).bd (forGo g b ds) := by
  rw [forGo_cons, stp]
  cases g d σ <;> rfl
theorem for_ind {g : Tg} {b : Sm} {β : Type} {f : β → D} {l : List β} (R : List β → Env → Prop) (h : ∀ pre x post σ, l = pre ++ x :: post → R pre σ → ∃ σ', stp g b (f x) σ = .nx σ' ∧ R (pre ++ [x]) σ') {σ : Env} (h0 : R [] σ) : ∃ σ', forGo g b (l.map f) σ = .nx σ' ∧ R l σ' := by
  have key : ∀ (post pre : List β) (σ : Env), l = pre ++ post → R pre σ → ∃ σ', forGo g b (post.map f) σ = .nx σ' ∧ R l σ' := by
    intro post
    induction post with
    | nil =>
      intro pre σ e r
      rw [List.append_nil] at e
      subst e
      exact ⟨σ, rfl, r⟩
    | cons x post ih =>
      intro pre σ e r
      obtain ⟨σ', e1, r1⟩ := h pre x post σ e r
      obtain ⟨σ'', e2, r2⟩ := ih (pre ++ [x]) σ' (by rw [e, List.append_assoc]; rfl) r1
      refine ⟨σ'', ?_, r2⟩
      rw [List.map_cons, forGo_stp, e1, O.bd_nx, e2]
  exact key l [] σ rfl h0
theorem for_upto {g : Tg} {b : Sm} {lo : Int} {n : Nat} (R : Nat → Env → Prop) (h : ∀ i σ, i < n → R i σ → ∃ σ', stp g b (.int (lo + (i : Int))) σ = .nx σ' ∧ R (i + 1) σ') {σ : Env} (h0 : R 0 σ) : ∃ σ', forGo g b ((upto lo n).map .int) σ = .nx σ' ∧ R n σ' := by
  have e : (upto lo n).map D.int = (List.range n).map fun (k : Nat) => D.int (lo + (k : Int)) := by
    unfold upto
    rw [List.map_map]; rfl
  rw [e]
  obtain ⟨σ', e1, r⟩ := for_ind (g := g) (b := b) (f := fun (k : Nat) => D.int (lo + (k : Int))) (l := List.range n) (fun pre σ => R pre.length σ) (fun pre x post σ q r => by
    have hl := congrArg List.length q
    simp at hl
    have hx : x = pre.length := by
      have := congrArg (fun l => l[pre.length]?) q
      simp at this
      rw [List.getElem?_range (by omega)] at this
      exact (Option.some.inj this).symm
    subst hx
    obtain ⟨σ', a, b⟩ := h pre.length σ (by omega) r
    exact ⟨σ', a, by simpa using b⟩) (σ := σ) h0
  exact ⟨σ', e1, by simpa using r⟩
theorem while_ind {t : Tst} {b : Sm} {n : Nat} (hn : n < fuel) (R : Nat → Env → Prop) (h : ∀ i σ, i < n → R i σ → t σ = .ok true ∧ ∃ σ', b σ = .nx σ' ∧ R (i + 1) σ') (hz : ∀ σ, R n σ → t σ = .ok false) {σ : Env} (h0 : R 0 σ) : ∃ σ', sWhile t b σ = .nx σ' ∧ R n σ' := by
  have key : ∀ (k i fu : Nat) (σ : Env), i + k = n → k < fu → R i σ → ∃ σ', whileGo t b fu σ = .nx σ' ∧ R n σ' := by
    intro k
    induction k with
    | zero =>
      intro i fu σ e l r
      obtain ⟨fu, rfl⟩ : ∃ m, fu = m + 1 := ⟨fu - 1, by omega⟩
      have e : i = n := by omega
      subst e
      refine ⟨σ, ?_, r⟩
      show (t σ).to σ _ = _
      rw [hz σ r]; rfl
    | succ k ih =>
      intro i fu σ e l r
      obtain ⟨fu, rfl⟩ : ∃ m, fu = m + 1 := ⟨fu - 1, by omega⟩
      obtain ⟨e1, σ', e2, r2⟩ := h i σ (by omega) r
      obtain ⟨σ'', e3, r3⟩ := ih (i + 1) fu σ' (by omega) (by omega) r2
      refine ⟨σ'', ?_, r3⟩
      show (t σ).to σ _ = _
      rw [e1]
      show (b σ).bd (whileGo t b fu) = _
      rw [e2]; exact e3
  exact key n 0 fuel σ (by omega) hn h0
theorem bMax_ints (a : Int) (l : List Int) : bMax [.lst (.int a :: l.map .int)] = some (.int (l.foldl max a), false) := by
  have : asInts (.int a :: l.map .int) = some (a :: l) := asInts_map (a :: l)
  simp only [bMax, this, greatI, Option.map_some]
theorem bMin_ints (a : Int) (l : List Int) : bMin [.lst (.int a :: l.map .int)] = some (.int (l.foldl min a), false) := by
  have : asInts (.int a :: l.map .int) = some (a :: l) := asInts_map (a :: l)
  simp only [bMin, this, leastI, Option.map_some]
@[simp] theorem sPut_eq (i : Nat) (k e : Ex) (σ : Env) : sPut i k e σ = match σ[i]? with
  | some (some (.lst _, true)) => (e σ).to σ fun r => (k σ).to σ fun s => frzO r.kp σ fun σ' => (match s.d, σ'[i]? with
    | .int j, some (some (.lst xs, true)) => (match place xs.length j with
      | some n => .nx (σ'.set i (some (.lst (xs.set n r.d), true)))
      | none => .bad)
    | _, _ => .bad)
  | some (some (.dct _ _, true)) => (e σ).to σ fun r => (k σ).to σ fun s => frzO r.kp σ fun σ' => (match σ'[i]? with
    | some (some (.dct ks vs, true)) => if isKey s.d && decide (ks.length < line) then .nx (σ'.set i (some (.dct (dkPut ks vs s.d r.d).1 (dkPut ks vs s.d r.d).2, true))) else .bad
    | _ => .bad)
  | _ => .bad := nrfl
@[simp] theorem sExt_eq (i : Nat) (e : Ex) (σ : Env) : sExt i e σ = match σ[i]? with
  | some (some (.lst _, true)) => (e σ).to σ fun r => (match r.d with
    | .lst ys => frzO r.kc σ fun σ' => (match σ'[i]? with
      | some (some (.lst xs, true)) => if xs.length + ys.length ≤ line then .nx (σ'.set i (some (.lst (xs ++ ys), true))) else .bad
      | _ => .bad)
    | _ => .bad)
  | _ => .bad := nrfl
@[simp] theorem sRem_eq (i : Nat) (e : Ex) (σ : Env) : sRem i e σ = match σ[i]? with
  | some (some (.lst _, true)) => (e σ).to σ fun r => (match r.d with
    | .int k => frzO r.kp σ fun σ' => (match σ'[i]? with
      | some (some (.lst xs, true)) => (match asInts xs with
        | some is => (match firstAt k is with
          | some j => .nx (σ'.set i (some (.lst ((is.eraseIdx j).map .int), true)))
          | none => .bad)
        | none => .bad)
      | _ => .bad)
    | _ => .bad)
  | _ => .bad := nrfl
@[simp] theorem xGet_eq (a : Ex) (es : List Ex) (σ : Env) : xGet a es σ = (a σ).bd fun r => match r.d with
  | .dct ks vs => (evs es σ).bd fun rs => (match dGet ks vs (dL rs) with
    | some d => .ok (mkF d (r.kp ++ kpL rs))
    | none => .bad)
  | _ => .bad := nrfl
@[simp] theorem iSeqF_eq (a : Ex) (σ : Env) : iSeqF a σ = (a σ).bd fun r => match r.d, r.t with
  | .lst xs, .nw => .ok (xs, r.p)
  | _, _ => .bad := nrfl
@[simp] theorem xDC_eq (own : List Nat) (it : Itr) (g : Tg) (t : Tst) (k e : Ex) (σ : Env) : xDC own it g t k e σ = (it σ).bd fun q =>
  match dcGo g t k e (wipeE own σ) q.1 [] [] with
  | .ok w => .ok (mkN (.dct w.1 w.2) [])
  | _ => .bad := nrfl
@[simp] theorem xLC2_eq (own js : List Nat) (it : Itr) (g : Tg) (t : Tst) (it1 : Itr) (g1 : Tg) (t1 : Tst) (e : Ex) (σ : Env) : xLC2 own js it g t it1 g1 t1 e σ = (it σ).bd fun q =>
  match lc2Go js g t it1 g1 t1 e (wipeE own σ) q.1 with
  | .ok w => if w.length ≤ line then .ok (mkN (.lst w) []) else .bad
  | _ => .bad := nrfl
/-! dicts of ints by ints -/
def getP : List (Int × Int) → Int → Option Int
  | [], _ => none
  | p :: l, k => if p.1 = k then some p.2 else getP l k
def putP : List (Int × Int) → Int → Int → List (Int × Int)
  | [], k, v => [(k, v)]
  | p :: l, k, v => if p.1 = k then (k, v) :: l else p :: putP l k v
def DP (l : List (Int × Int)) : D := .dct (l.map fun p => .int p.1) (l.map fun p => .int p.2)
theorem dkGet_DP (k : Int) : ∀ l : List (Int × Int), dkGet (l.map fun p => D.int p.1) (l.map fun p => D.int p.2) (.int k) = (getP l k).map .int
  | [] => rfl
  | p :: l => by
    show (if sameKey (.int p.1) (.int k) then some (D.int p.2) else dkGet (l.map fun p => D.int p.1) (l.map fun p => D.int p.2) (.int k)) = _
    rw [dkGet_DP k l]
    show _ = (if p.1 = k then some p.2 else getP l k).map D.int
    by_cases c : p.1 = k
    · rw [if_pos c, if_pos (by simp [sameKey, c])]; rfl
    · rw [if_neg c, if_neg (by simp [sameKey, c])]
theorem dkPut_DP (k v : Int) (l : List (Int × Int)) (nd : l.Pairwise (·.1 ≠ ·.1)) : dkPut (l.map fun p => D.int p.1) (l.map fun p => D.int p.2) (.int k) (.int v) = ((putP l k v).map (fun p => D.int p.1), (putP l k v).map fun p => D.int p.2) := by
  have a : ∀ l : List (Int × Int), ((l.map fun p => D.int p.1).any fun z => sameKey z (.int k)) = l.any fun p => decide (p.1 = k) := fun l => by
    rw [List.any_map]; rfl
  have s1 : ∀ l : List (Int × Int), (∀ p ∈ l, p.1 ≠ k) → dkSet (l.map fun p => D.int p.1) (l.map fun p => D.int p.2) (.int k) (.int v) = l.map fun p => D.int p.2 := fun l => by
    induction l with
    | nil => intro _; rfl
    | cons p l ih =>
      intro h
      show (if sameKey (.int p.1) (.int k) then D.int v else .int p.2) :: dkSet _ _ _ _ = _
      rw [ih fun q hq => h q (List.mem_cons_of_mem _ hq), if_neg (by simp [sameKey, h p List.mem_cons_self])]; rfl
  have s2 : ∀ l : List (Int × Int), l.Pairwise (·.1 ≠ ·.1) → (l.any fun p => decide (p.1 = k)) = true → dkSet (l.map fun p => D.int p.1) (l.map fun p => D.int p.2) (.int k) (.int v) = ((putP l k v).map fun p => D.int p.2) ∧ ((putP l k v).map fun p => D.int p.1) = l.map fun p => D.int p.1 := fun l => by
    induction l with
    | nil => intro _ h; cases h
    | cons p l ih =>
      intro nd h
      have nd' := List.pairwise_cons.mp nd
      unfold putP
      show (if sameKey (.int p.1) (.int k) then D.int v else .int p.2) :: dkSet _ _ _ _ = _ ∧ _
      by_cases c : p.1 = k
      · rw [if_pos (by simp [sameKey, c]), if_pos c, s1 l fun q hq e => nd'.1 q hq (c.trans e.symm)]
        exact ⟨rfl, by rw [List.map_cons, List.map_cons, c]⟩
      · rw [if_neg (by simp [sameKey, c]), if_neg c]
        rw [List.any_cons, decide_eq_false c, Bool.false_or] at h
        obtain ⟨i1, i2⟩ := ih nd'.2 h
        exact ⟨by rw [i1]; rfl, by rw [List.map_cons, i2]; rfl⟩
  have s3 : ∀ l : List (Int × Int), (l.any fun p => decide (p.1 = k)) = false → putP l k v = l ++ [(k, v)] := fun l => by
    induction l with
    | nil => intro _; rfl
    | cons p l ih =>
      intro h
      rw [List.any_cons, Bool.or_eq_false_iff] at h
      unfold putP
      rw [if_neg (of_decide_eq_false h.1), ih h.2]; rfl
  unfold dkPut
  rw [a]
  cases q : l.any fun p => decide (p.1 = k) with
  | true =>
    rw [if_pos rfl]
    obtain ⟨i1, i2⟩ := s2 l nd q
    rw [i1, i2]
  | false =>
    rw [if_neg (by simp), s3 l q]
    simp
theorem okRepD_DP (l : List (Int × Int)) (h : ∀ p ∈ l, (-(2 ^ 60) < p.1 ∧ p.1 < 2 ^ 60) ∧ -(2 ^ 60) < p.2 ∧ p.2 < 2 ^ 60) (z : l.length ≤ 10000) : okRepD (DP l) = true := by
  have e : (D.pyL (l.map fun p => D.int p.1)).zip (D.pyL (l.map fun p => D.int p.2)) = l.map fun p => (PyData.int p.1, PyData.int p.2) := by
    clear h z
    induction l with
    | nil => rfl
    | cons p l ih =>
      simp only [List.map_cons, D.pyL, D.py, List.zip_cons_cons]
      rw [ih]
  show okKv ((D.pyL (l.map fun p => D.int p.1)).zip (D.pyL (l.map fun p => D.int p.2))) = true
  rw [e]
  have si : ∀ i : Int, (-(2 ^ 60) < i ∧ i < 2 ^ 60) → (PyData.int i).showable = true ∧ repW (.int i) ≤ 70 := fun i hi => by
    have g := sh_int hi
    have g1 := g.sh
    have g2 := g.wd
    simp only [D.py] at g1 g2
    exact ⟨g1, by omega⟩
  have ha : ∀ l : List (Int × Int), (∀ p ∈ l, (-(2 ^ 60) < p.1 ∧ p.1 < 2 ^ 60) ∧ -(2 ^ 60) < p.2 ∧ p.2 < 2 ^ 60) → (l.map fun p => (PyData.int p.1, PyData.int p.2)).all (fun kv => kv.1.plain && kv.2.plain) = true ∧ PyData.showableKv (l.map fun p => (PyData.int p.1, PyData.int p.2)) = true ∧ PyData.depthKv (l.map fun p => (PyData.int p.1, PyData.int p.2)) ≤ 1 ∧ repWK (l.map fun p => (PyData.int p.1, PyData.int p.2)) ≤ 144 * l.length := fun l => by
    induction l with
    | nil => intro _; exact ⟨rfl, by simp [PyData.showableKv], by simp [PyData.depthKv], by simp [repWK]⟩
    | cons p l ih =>
      intro h
      obtain ⟨i1, i2, i3, i4⟩ := ih fun q hq => h q (List.mem_cons_of_mem _ hq)
      have hp := h p List.mem_cons_self
      obtain ⟨a1, a2⟩ := si _ hp.1
      obtain ⟨b1, b2⟩ := si _ hp.2
      refine ⟨?_, ?_, ?_, ?_⟩
      · rw [List.map_cons, List.all_cons, i1]; rfl
      · simp only [List.map_cons, PyData.showableKv, a1, b1, i2]; rfl
      · simp only [List.map_cons, PyData.depthKv, PyData.depth]; omega
      · simp only [List.map_cons, repWK, List.length_cons]; omega
  obtain ⟨h1, h2, h3, h4⟩ := ha l h
  have h2' : PyData.showable (.dict (l.map fun p => (PyData.int p.1, PyData.int p.2))) = true := by simp only [PyData.showable, h2]
  have h3' : (PyData.dict (l.map fun p => (PyData.int p.1, PyData.int p.2))).depth ≤ 60 := by simp only [PyData.depth]; omega
  unfold okKv
  rw [h1, h2', decide_eq_true h3', decide_eq_true (by rw [line_val]; omega)]; rfl
@[simp] theorem xDct0_eq (σ : Env) : xDct0 σ = .ok ⟨.dct [] [], .nw, []⟩ := nrfl
@[simp] theorem xMt_eq (f : List D → List D → Option (D × Bool)) (a : Ex) (es : List Ex) (σ : Env) : xMt f a es σ = (a σ).bd fun r => match r.d with
  | .lst xs => (evs es σ).bd fun rs => (match f xs (dL rs) with
    | some (d, fr) => .ok (mk fr d (r.kc ++ kcL rs))
    | none => .bad)
  | _ => .bad := nrfl
@[simp] theorem iRng3_eq (a b c : Ex) (σ : Env) : iRng3 a b c σ = (a σ).bd fun r => (b σ).bd fun s => (c σ).bd fun t => match r.d, s.d, t.d with
  | .int i, .int j, .int k => (match stepI i j k with
    | some l => .ok (l.map .int, [])
    | none => .bad)
  | _, _, _ => .bad := nrfl
@[simp] theorem xLRg1_eq (a : Ex) (σ : Env) : xLRg1 a σ = (a σ).bd fun r => match r.d with
  | .int n => if okRl n then .ok ⟨.lst ((upto 0 n.toNat).map .int), .nw, []⟩ else .bad
  | _ => .bad := nrfl
theorem okRl_of {i : Int} (h : 0 ≤ i) (k : i ≤ 16777216) : okRl i = true := by
  unfold okRl
  rw [decide_eq_true h, below_iff.mpr (by omega)]; rfl
theorem mIndex_ints (l : List Int) (k : Int) : mIndex (l.map .int) [.int k] = (firstAt k l).map fun j => (.int (j : Nat), false) := by
  simp [mIndex, asInts_map]
theorem mCount_ints (l : List Int) (k : Int) : mCount (l.map .int) [.int k] = some (.int (l.count k : Nat), false) := by
  simp [mCount, asInts_map]
theorem idx2 (a b m : Int) (h : 0 ≤ m) (k : m < 2) : dIdx (.lst [.int a, .int b]) (.int m) = some (.int ([a, b].getD m.toNat 0)) := idx_ints (xs := [a, b]) h (by simpa using k)
theorem idx3 (a b c m : Int) (h : 0 ≤ m) (k : m < 3) : dIdx (.lst [.int a, .int b, .int c]) (.int m) = some (.int ([a, b, c].getD m.toNat 0)) := idx_ints (xs := [a, b, c]) h (by simpa using k)
theorem getD2 (a b m : Int) (h : 0 ≤ m) (k : m < 2) : [a, b].getD m.toNat 0 = a ∨ [a, b].getD m.toNat 0 = b := by
  have : m = 0 ∨ m = 1 := by omega
  rcases this with rfl | rfl <;> simp
theorem getD3 (a b c m : Int) (h : 0 ≤ m) (k : m < 3) : [a, b, c].getD m.toNat 0 = a ∨ [a, b, c].getD m.toNat 0 = b ∨ [a, b, c].getD m.toNat 0 = c := by
  have : m = 0 ∨ m = 1 ∨ m = 2 := by omega
  rcases this with rfl | rfl | rfl <;> simp
/-! ## One part, then the rest -/
theorem seq_ex {U V : Sm} {σ : Env} {Q : Env → Prop} {r : R (D × Bool)} (h : ∃ σ', U σ = .nx σ' ∧ Q σ') (k : ∀ σ', Q σ' → ends (V σ') = r) : ends (sSeq U V σ) = r := by
  obtain ⟨σ', e, q⟩ := h
  rw [sSeq_eq, e, O.bd_nx]
  exact k σ' q
theorem seq_e {U V : Sm} {σ σ' : Env} {r : R (D × Bool)} (h : U σ = .nx σ') (k : ends (V σ') = r) : ends (sSeq U V σ) = r := by
  rw [sSeq_eq, h, O.bd_nx]
  exact k
theorem seq_nx {U V : Sm} {σ : Env} {Q S : Env → Prop} (h : ∃ σ', U σ = .nx σ' ∧ Q σ') (k : ∀ σ', Q σ' → ∃ σ'', V σ' = .nx σ'' ∧ S σ'') : ∃ σ'', sSeq U V σ = .nx σ'' ∧ S σ'' := by
  obtain ⟨σ', e, q⟩ := h
  rw [sSeq_eq, e, O.bd_nx]
  exact k σ' q
theorem seq_nx1 {U V : Sm} {σ σ' : Env} {S : Env → Prop} (h : U σ = .nx σ') (k : ∃ σ'', V σ' = .nx σ'' ∧ S σ'') : ∃ σ'', sSeq U V σ = .nx σ'' ∧ S σ'' := by
  rw [sSeq_eq, h, O.bd_nx]
  exact k
end Rt
end
section
set_option linter.all false
set_option autoImplicit false
set_option Elab.async false
set_option maxRecDepth 100000
set_option maxHeartbeats 2000000
namespace Rt
open PySem
/-! ## Lists of pairs of ints: plain, compared, sorted, cut -/
theorem py_pr (p : Int × Int) : (PR p).py = .tuple [.int p.1, .int p.2] := by simp [PR, D.py, D.pyL]
theorem pyL_prs : ∀ L : List (Int × Int), D.pyL (L.map PR) = L.map fun p => PyData.tuple [.int p.1, .int p.2]
  | [] => rfl
  | p :: L => by
    show (PR p).py :: D.pyL (L.map PR) = _
    rw [pyL_prs L, py_pr]; rfl
theorem plain_prs : ∀ L : List (Int × Int), PyData.plainAll (D.pyL (L.map PR)) = true
  | [] => by simp [D.pyL, PyData.plainAll]
  | p :: L => by
    show PyData.plainAll ((PR p).py :: D.pyL (L.map PR)) = true
    rw [py_pr]
    simp [PyData.plainAll, PyData.plain, plain_prs L]
theorem depth_prs : ∀ L : List (Int × Int), PyData.depthAll (D.pyL (L.map PR)) ≤ 1
  | [] => by simp [D.pyL, PyData.depthAll]
  | p :: L => by
    show PyData.depthAll ((PR p).py :: D.pyL (L.map PR)) ≤ 1
    have := depth_prs L
    rw [py_pr]
    simp only [PyData.depthAll, PyData.depth]
    omega
theorem eqv_prs : ∀ L M : List (Int × Int), PyData.eqvAll (D.pyL (L.map PR)) (D.pyL (M.map PR)) = decide (L = M)
  | [], [] => by simp [D.pyL, PyData.eqvAll]
  | [], q :: M => by
    show PyData.eqvAll [] ((PR q).py :: D.pyL (M.map PR)) = _
    simp [PyData.eqvAll]
  | p :: L, [] => by
    show PyData.eqvAll ((PR p).py :: D.pyL (L.map PR)) [] = _
    simp [PyData.eqvAll]
  | p :: L, q :: M => by
    show PyData.eqvAll ((PR p).py :: D.pyL (L.map PR)) ((PR q).py :: D.pyL (M.map PR)) = _
    have e : PyData.eqv (PR p).py (PR q).py = decide (p = q) := by
      rw [py_pr, py_pr]
      obtain ⟨p1, p2⟩ := p
      obtain ⟨q1, q2⟩ := q
      simp only [PyData.eqv, PyData.eqvAll, Prod.mk.injEq, Bool.and_true, Bool.decide_and]
      rfl
    simp only [PyData.eqvAll, e, eqv_prs L M, List.cons.injEq]
    by_cases h : p = q <;> simp [h]
theorem okEq_prs (L M : List (Int × Int)) : okEq (D.lst (L.map PR)).py (D.lst (M.map PR)).py = true := by
  have d := depth_prs L
  have h : decide ((D.lst (L.map PR)).py.depth ≤ 60) = true := decide_eq_true (by simp only [D.py, PyData.depth]; omega)
  unfold okEq
  rw [h]
  simp [D.py, PyData.plain, plain_prs]
theorem dEq_prs (L M : List (Int × Int)) : dEq (.lst (L.map PR)) (.lst (M.map PR)) = some (decide (L = M)) := by
  show (if okEq (D.lst (L.map PR)).py (D.lst (M.map PR)).py then some (PyData.eqv (D.lst (L.map PR)).py (D.lst (M.map PR)).py) else none) = _
  rw [if_pos (okEq_prs L M)]
  congr 1
  have e := eqv_prs L M
  simpa [D.py, PyData.eqv] using e
theorem cmp_nePR (L M : List (Int × Int)) : cmpD .ne (.lst (L.map PR)) (.lst (M.map PR)) = some (!decide (L = M)) := by
  show (dEq _ _).map not = _
  rw [dEq_prs]; rfl
theorem cmp_eqPR (L M : List (Int × Int)) : cmpD .eq (.lst (L.map PR)) (.lst (M.map PR)) = some (decide (L = M)) := dEq_prs L M
theorem cmp_neN_pr (L : List (Int × Int)) : cmpD .ne (.lst (L.map PR)) (.lst []) = some (!L.isEmpty) := by
  have := cmp_nePR L []
  rw [List.map_nil] at this
  rw [this]
  cases L <;> rfl
theorem asInts_pr (p : Int × Int) (l : List D) : asInts (PR p :: l) = none := rfl
theorem alike_pr (p q : Int × Int) : PySem.W.alike (PR p).py (PR q).py = true := by
  rw [py_pr, py_pr]; simp [PySem.W.alike, PySem.W.alikeAll]
theorem okSort_prs (L : List (Int × Int)) : okSort (L.map PR) = true := by
  have d := depth_prs L
  have d' : PyData.depthAll (D.pyL (L.map PR)) ≤ 50 := by omega
  have t : (L.map PR).all (fun x => tupC x.py) = true := by
    rw [List.all_eq_true]
    intro x hx
    obtain ⟨p, _, rfl⟩ := List.mem_map.mp hx
    rw [py_pr]; rfl
  have a : ((L.map PR).all fun x => (L.map PR).all fun y => PySem.W.alike x.py y.py) = true := by
    rw [List.all_eq_true]
    intro x hx
    rw [List.all_eq_true]
    intro y hy
    obtain ⟨p, _, rfl⟩ := List.mem_map.mp hx
    obtain ⟨q, _, rfl⟩ := List.mem_map.mp hy
    exact alike_pr p q
  unfold okSort
  rw [plain_prs, a, t, decide_eq_true d']
  rfl
def leP (p q : Int × Int) : Bool := decide (p.1 < q.1 ∨ (p.1 = q.1 ∧ p.2 ≤ q.2))
theorem leD_pr (p q : Int × Int) : leD (PR p) (PR q) = leP p q :=
  congrFun (congrFun (PySem.W.dataLe_ii (β := Int × Int) (fun p => p.1) (fun p => p.2)) p) q
theorem sort_prs (L : List (Int × Int)) : bSorted [.lst (L.map PR)] = some (.lst ((L.mergeSort leP).map PR), true) := by
  cases L with
  | nil =>
    have : ([] : List (Int × Int)).mergeSort leP = [] := by simp
    rw [this]; rfl
  | cons p L =>
    have e : bSorted [.lst ((p :: L).map PR)] = (if okSort ((p :: L).map PR) then some (.lst (((p :: L).map PR).mergeSort leD), true) else none) := rfl
    rw [e, if_pos (okSort_prs _)]
    rw [← List.map_mergeSort (r := leP) (s := leD) (f := PR) (l := p :: L) (fun a _ b _ => (leD_pr a b).symm)]
theorem sort_prs_id {L : List (Int × Int)} (h : L.Pairwise fun p q => leP p q = true) : bSorted [.lst (L.map PR)] = some (.lst (L.map PR), true) := by
  rw [sort_prs, List.mergeSort_of_pairwise h]
/-! cuts -/
theorem cut_all (n : Nat) (lo hi : Option Int) : ∃ i j : Nat, ∀ {α : Type} (xs : List α), xs.length = n → cutL xs lo hi = (xs.drop i).take j :=
  ⟨sEnd n 0 lo, sEnd n n hi - sEnd n 0 lo, fun xs h => by unfold cutL; rw [h]⟩
theorem cut_map {β : Type} (f : β → D) (l : List β) (lo hi : Option Int) : cutL (l.map f) lo hi = (cutL l lo hi).map f := by
  obtain ⟨i, j, h⟩ := cut_all l.length lo hi
  rw [h _ (by simp), h _ rfl, List.map_take, List.map_drop]
theorem cut_sub {β : Type} {l : List β} {lo hi : Option Int} {x : β} (h : x ∈ cutL l lo hi) : x ∈ l := by
  obtain ⟨i, j, e⟩ := cut_all l.length lo hi
  rw [e _ rfl] at h
  exact List.mem_of_mem_drop (List.mem_of_mem_take h)
theorem cut_len {β : Type} (l : List β) (lo hi : Option Int) : (cutL l lo hi).length ≤ l.length := by
  obtain ⟨i, j, e⟩ := cut_all l.length lo hi
  rw [e _ rfl, List.length_take, List.length_drop]
  omega
theorem cut_last {β : Type} (l : List β) (x : β) : cutL (l ++ [x]) none (some (-1)) = l := by
  have n : (l ++ [x]).length = l.length + 1 := by simp
  have m : (-1 + ((l.length : Int) + 1)).toNat = l.length := by omega
  unfold cutL sEnd
  rw [n]
  simp [m]
theorem set_last {α : Type} {xs : List α} {x v : α} : (xs ++ [x]).set xs.length v = xs ++ [v] := by simp
theorem place_last (n : Nat) : place (n + 1) (-1) = some n := by
  rw [place_neg (by omega) (by omega)]
  congr 1
  omega
theorem dAdd_lst {xs ys : List D} (h : xs.length + ys.length ≤ line) : dAdd (.lst xs) (.lst ys) = some (.lst (xs ++ ys), true) := if_pos h
@[simp] theorem dSlice_lst (xs : List D) (lo hi : Option Int) : dSlice (.lst xs) lo hi = some (.lst (cutL xs lo hi), true) := nrfl
theorem immL_prs : ∀ l : List (Int × Int), D.immL (l.map PR) = true
  | [] => rfl
  | p :: l => by
    show (D.imm (PR p) && D.immL (l.map PR)) = true
    rw [immL_prs l]; rfl
theorem mkN_prs (l : List (Int × Int)) (p : List Nat) : mkN (.lst (l.map PR)) p = ⟨.lst (l.map PR), .nw, []⟩ := by
  cases p with
  | nil => rfl
  | cons i p =>
    show (⟨.lst (l.map PR), .nw, if D.immL (l.map PR) then [] else _⟩ : Rv) = _
    rw [immL_prs]; rfl
theorem immL_ints : ∀ l : List Int, D.immL (l.map D.int) = true
  | [] => rfl
  | p :: l => by
    show (D.imm (D.int p) && D.immL (l.map D.int)) = true
    rw [immL_ints l]; rfl
theorem mkN_ints (l : List Int) (p : List Nat) : mkN (.lst (l.map D.int)) p = ⟨.lst (l.map D.int), .nw, []⟩ := by
  cases p with
  | nil => rfl
  | cons i p =>
    show (⟨.lst (l.map D.int), .nw, if D.immL (l.map D.int) then [] else _⟩ : Rv) = _
    rw [immL_ints]; rfl
/-- a loop that returns at the first x with c x -/
theorem for_find {g : Tg} {b : Sm} {β : Type} {f : β → D} (c : β → Bool) (v : β → D) (R : Env → Prop) : ∀ {l : List β} {σ : Env}, (∀ x ∈ l, ∀ σ, R σ → (c x = true → stp g b (f x) σ = .rt (v x) false) ∧ (c x = false → ∃ σ', stp g b (f x) σ = .nx σ' ∧ R σ')) → R σ →
    (∀ x, l.find? c = some x → forGo g b (l.map f) σ = .rt (v x) false) ∧ (l.find? c = none → ∃ σ', forGo g b (l.map f) σ = .nx σ' ∧ R σ')
  | [], σ, _, h0 => ⟨(fun x e => by cases e), fun _ => ⟨σ, rfl, h0⟩⟩
  | y :: l, σ, h, h0 => by
    obtain ⟨a1, a2⟩ := h y List.mem_cons_self σ h0
    rw [List.map_cons, forGo_stp]
    cases q : c y with
    | true =>
      rw [List.find?_cons, q, a1 q]
      exact ⟨(fun x e => by cases e; rfl), fun e => by cases e⟩
    | false =>
      obtain ⟨σ', e, r⟩ := a2 q
      rw [List.find?_cons, q, e]
      exact for_find c v R (fun x hx => h x (List.mem_cons_of_mem _ hx)) r
end Rt
end
section
set_option linter.all false
set_option autoImplicit false
set_option Elab.async false
set_option maxRecDepth 100000
set_option maxHeartbeats 2000000
set_option exponentiation.threshold 20000
namespace Rt
open PySem
/-! ## Fractions in least terms are rational numbers -/
def dF (x : Rat) : D := .tup [.int x.num, .int x.den]
def Sz (k : Nat) (x : Rat) : Prop := x.num.natAbs < 2 ^ k ∧ x.den < 2 ^ k
theorem log2_le {n k : Nat} (h : n < 2 ^ k) : n.log2 ≤ k := by
  by_cases h0 : n = 0
  · subst h0; exact Nat.zero_le _
  · have := (Nat.log2_lt h0).mpr h; omega
theorem wide_sz {i j : Int} {a b : Nat} (h : i.natAbs < 2 ^ a) (k : j.natAbs < 2 ^ b) (z : a + b < 1000000) : wideOk i j = true := by
  have h1 := log2_le h
  have h2 := log2_le k
  have e : decide (i.natAbs.log2 + j.natAbs.log2 < 1000000) = true := decide_eq_true (by omega)
  unfold wideOk
  rw [e, Bool.or_true]
theorem mul_sz {i j : Int} {a b : Nat} (h : i.natAbs < 2 ^ a) (k : j.natAbs < 2 ^ b) (z : a + b < 1000000) : dMul (.int i) (.int j) = some (.int (i * j), false) := by rw [dMul_int, if_pos (wide_sz h k z)]
theorem div_sz {i j : Int} {a : Nat} (h : 0 < j) (k : j.natAbs < 2 ^ a) (z : a < 9000) : dDiv (.int i) (.int j) = some (.int (i / j), false) := by
  have e1 : posI j = true := posI_iff.mpr h
  have e2 : decide (j.natAbs.log2 < 9000) = true := decide_eq_true (by have := log2_le k; omega)
  show (if posI j && (below j 18446744073709551614 || decide (j.natAbs.log2 < 9000)) then _ else _) = _
  rw [e1, e2, Bool.or_true]
  rfl
theorem low_num {a b : Int} (hb : 0 < b) : (Rat.divInt a b).num = a / (Int.gcd a b : Int) := by
  rw [Rat.num_divInt, Int.sign_eq_one_of_pos hb, Int.one_mul, Int.gcd_comm]
theorem low_den {a b : Int} (hb : 0 < b) : ((Rat.divInt a b).den : Int) = b / (Int.gcd a b : Int) := by
  rw [Rat.den_divInt, if_neg (by omega), Int.gcd_comm, Int.natCast_ediv]
  congr 1
  omega
theorem gcd_pos {a b : Int} (hb : 0 < b) : 0 < Int.gcd a b := Int.gcd_pos_of_ne_zero_right _ (by omega)
theorem gcd_sz {a b : Int} {k : Nat} (hb : 0 < b) (h : b.natAbs < 2 ^ k) : (Int.gcd a b : Int).natAbs < 2 ^ k := by
  have : Int.gcd a b ≤ b.natAbs := Nat.le_of_dvd (by omega) (Int.gcd_dvd_natAbs_right a b)
  simp
  omega
def B_frac : Sm :=
  (sSeq (sIf (tOf (xCmp .lt (xVar 1) (xCon (.int 0))))
  (sPar 0 1 (xNeg (xVar 0)) (xNeg (xVar 1)))
  sPass)
  (sSeq (sSet 2 (xBi bGcd [(xVar 0), (xVar 1)]))
  (sRet (xTup [(false, (xBin dDiv (xVar 0) (xVar 2))), (false, (xBin dDiv (xVar 1) (xVar 2)))]))))
theorem bGcd_2 (i j : Int) : bGcd [.int i, .int j] = some (.int (Int.gcd i j : Nat), false) := rfl
theorem le2' : (2 : Nat) ≤ line := by decide
theorem frac_body {a b : Int} (hb : 0 < b) (sz : b.natAbs < 2 ^ 8000) : ends (B_frac (begin_ 3 [.int a, .int b])) = .ok (dF (Rat.divInt a b), false) := by
  have h0 : ¬ b < 0 := by omega
  have g : (0 : Int) < (Int.gcd a b : Nat) := by have := gcd_pos (a := a) hb; omega
  have gs := gcd_sz (a := a) hb sz
  have d1 := div_sz (i := a) g gs (by decide)
  have d2 := div_sz (i := b) g gs (by decide)
  unfold dF
  rw [low_num hb, low_den hb]
  generalize (2 ^ 8000 : Nat) = Z at *
  simp [B_frac, begin_, h0, bGcd_2, d1, d2, le2']
/-! the divisor by Euclid -/
def B_gcdL : Sm := (sTg (gTup [(gName 0), (gName 1)]) (xLst [(false, (xVar 1)), (false, (xBin dMod (xBi bInt [(xVar 0)]) (xVar 1)))]))
def B_gcdT : Tst := tOf (xCmp .ne (xVar 1) (xCon (.int 0)))
theorem gcd_step {a b : Int} (hb : 0 < b) (n : Nat) : whileGo B_gcdT B_gcdL (n + 1) [some (.int a, false), some (.int b, false)] = whileGo B_gcdT B_gcdL n [some (.int b, false), some (.int (a % b), false)] := by
  have h0 : b ≠ 0 := by omega
  show (B_gcdT _).to _ _ = _
  simp [B_gcdT, B_gcdL, h0, mod_s hb, le2']
theorem gcd_end (a : Int) (n : Nat) : whileGo B_gcdT B_gcdL (n + 1) [some (.int a, false), some (.int 0, false)] = .nx [some (.int a, false), some (.int 0, false)] := by
  show (B_gcdT _).to _ _ = _
  simp [B_gcdT]
theorem gcd_mod (a b : Int) : Int.gcd b (a % b) = Int.gcd a b := by
  rw [Int.gcd_comm, Int.emod_def, Int.gcd_sub_mul_left_left]
theorem gcd_loop : ∀ (k : Nat) (a b : Int) (n : Nat), 0 ≤ b → b < 2 ^ k → 2 * k + 1 ≤ n → ∃ g : Int, g.natAbs = Int.gcd a b ∧ whileGo B_gcdT B_gcdL n [some (.int a, false), some (.int b, false)] = .nx [some (.int g, false), some (.int 0, false)]
  | 0, a, b, n + 1, h0, h1, _ => by
    have : b = 0 := by simp at h1; omega
    subst this
    exact ⟨a, by simp, gcd_end a n⟩
  | k + 1, a, b, n + 3, h0, h1, h2 => by
    by_cases hb : b = 0
    · subst hb
      exact ⟨a, by simp, gcd_end a _⟩
    · have pb : 0 < b := by omega
      have r0 := Int.emod_nonneg a hb
      have r1 := Int.emod_lt_of_pos a pb
      rw [gcd_step pb]
      by_cases hr : a % b = 0
      · rw [hr]
        refine ⟨b, ?_, gcd_end b _⟩
        rw [← gcd_mod, hr]
        simp
      · have pr : 0 < a % b := by omega
        have s0 := Int.emod_nonneg b hr
        have s1 := Int.emod_lt_of_pos b pr
        have s2 : b % (a % b) + (a % b) ≤ b := by
          have e := Int.emod_add_mul_ediv b (a % b)
          have q : 1 ≤ b / (a % b) := by
            exact Int.le_ediv_of_mul_le pr (by omega)
          have m : (a % b) * 1 ≤ (a % b) * (b / (a % b)) := Int.mul_le_mul_of_nonneg_left q (by omega)
          omega
        rw [gcd_step pr]
        obtain ⟨g, g1, g2⟩ := gcd_loop k (a % b) (b % (a % b)) (n + 1) s0 (by rw [Int.pow_succ] at h1; omega) (by omega)
        exact ⟨g, by rw [g1, gcd_mod, gcd_mod], g2⟩
def B_gcd : Sm :=
  (sSeq (sWhile (tOf (xCmp .ne (xVar 1) (xCon (.int 0))))
  (sTg (gTup [(gName 0), (gName 1)]) (xLst [(false, (xVar 1)), (false, (xBin dMod (xBi bInt [(xVar 0)]) (xVar 1)))])))
  (sRet (xBi bAbs [(xVar 0)])))
theorem gcd_body {a b : Int} (hb : 0 ≤ b) (sz : b < 2 ^ 8000) : ends (B_gcd (begin_ 2 [.int a, .int b])) = .ok (.int (Int.gcd a b : Nat), false) := by
  obtain ⟨g, g1, g2⟩ := gcd_loop 8000 a b fuel hb sz (by decide)
  have e : B_gcd (begin_ 2 [.int a, .int b]) = (whileGo B_gcdT B_gcdL fuel [some (.int a, false), some (.int b, false)]).bd (sRet (xBi bAbs [(xVar 0)])) := rfl
  rw [e, g2]
  simp [g1]
def B_low (f : Fn) : Sm :=
  (sSeq (sSet 2 (xCall f [(xVar 0), (xVar 1)]))
  (sSeq (sIf (tOf (xCmp .lt (xVar 1) (xCon (.int 0))))
  (sSet 2 (xNeg (xVar 2)))
  sPass)
  (sRet (xTup [(false, (xBi bInt [(xBin dDiv (xVar 0) (xVar 2))])), (false, (xBi bInt [(xBin dDiv (xVar 1) (xVar 2))]))]))))
theorem low_body {f : Fn} {a b : Int} (hb : 0 < b) (sz : b.natAbs < 2 ^ 8000) (hf : f [.int a, .int b] = .ok (.int (Int.gcd a b : Nat), false)) : ends (B_low f (begin_ 3 [.int a, .int b])) = .ok (dF (Rat.divInt a b), false) := by
  have h0 : ¬ b < 0 := by omega
  have g : (0 : Int) < (Int.gcd a b : Nat) := by have := gcd_pos (a := a) hb; omega
  have gs := gcd_sz (a := a) hb sz
  have d1 := div_sz (i := a) g gs (by decide)
  have d2 := div_sz (i := b) g gs (by decide)
  unfold dF
  rw [low_num hb, low_den hb]
  generalize (2 ^ 8000 : Nat) = Z at *
  simp [B_low, begin_, h0, hf, d1, d2, le2']
/-! sizes -/
theorem sz_low {a b : Int} {k : Nat} (hb : 0 < b) (ha : a.natAbs < 2 ^ k) (h : b.natAbs < 2 ^ k) : Sz k (Rat.divInt a b) := by
  have g := gcd_pos (a := a) hb
  have e1 := low_num (a := a) hb
  have e2 := low_den (a := a) hb
  refine ⟨?_, ?_⟩
  · rw [e1]
    have : (a / (Int.gcd a b : Int)).natAbs ≤ a.natAbs := Int.natAbs_ediv_le_natAbs _ _
    omega
  · have : (b / (Int.gcd a b : Int)) ≤ b := Int.ediv_le_self _ (by omega)
    omega
theorem Sz.mono {k l : Nat} {x : Rat} (h : Sz k x) (z : k ≤ l) : Sz l x :=
  have := Nat.pow_le_pow_right (n := 2) (by decide) z
  ⟨Nat.lt_of_lt_of_le h.1 this, Nat.lt_of_lt_of_le h.2 this⟩
theorem two_pow_add (k l : Nat) : 2 ^ (k + l) = 2 ^ k * 2 ^ l := Nat.pow_add ..
theorem den_pos' (x : Rat) : (0 : Int) < x.den := by have := x.den_pos; omega
theorem eq_div (x : Rat) : x = Rat.divInt x.num x.den := (Rat.num_divInt_den x).symm
theorem mul_div (x y : Rat) : Rat.divInt (x.num * y.num) ((x.den : Int) * y.den) = x * y := by
  rw [← Rat.divInt_mul_divInt, Rat.num_divInt_den, Rat.num_divInt_den]
theorem add_div (x y : Rat) : Rat.divInt (x.num * y.den + y.num * x.den) ((x.den : Int) * y.den) = x + y := by
  have hx := den_pos' x
  have hy := den_pos' y
  rw [← Rat.divInt_add_divInt _ _ (by omega) (by omega), Rat.num_divInt_den, Rat.num_divInt_den]
theorem sub_div (x y : Rat) : Rat.divInt (x.num * y.den - y.num * x.den) ((x.den : Int) * y.den) = x - y := by
  have hx := den_pos' x
  have hy := den_pos' y
  rw [← Rat.divInt_sub_divInt _ _ (by omega) (by omega), Rat.num_divInt_den, Rat.num_divInt_den]
theorem natAbs_mul_lt {i j : Int} {a b : Nat} (h : i.natAbs < 2 ^ a) (k : j.natAbs < 2 ^ b) : (i * j).natAbs < 2 ^ (a + b) := by
  rw [Int.natAbs_mul, Nat.pow_add]
  exact Nat.mul_lt_mul'' h k
theorem sz_mul {k l : Nat} {x y : Rat} (h : Sz k x) (g : Sz l y) : Sz (k + l) (x * y) := by
  rw [← mul_div]
  exact sz_low (Int.mul_pos (den_pos' x) (den_pos' y)) (natAbs_mul_lt h.1 g.1) (natAbs_mul_lt (by simpa using h.2) (by simpa using g.2))
theorem sz_add {k l : Nat} {x y : Rat} (h : Sz k x) (g : Sz l y) : Sz (k + l + 1) (x + y) := by
  rw [← add_div]
  have a1 := natAbs_mul_lt h.1 (show ((y.den : Int)).natAbs < 2 ^ l by simpa using g.2)
  have a2 := natAbs_mul_lt (show ((x.den : Int)).natAbs < 2 ^ k by simpa using h.2) g.1
  have a3 := natAbs_mul_lt (show ((x.den : Int)).natAbs < 2 ^ k by simpa using h.2) (show ((y.den : Int)).natAbs < 2 ^ l by simpa using g.2)
  rw [Int.mul_comm] at a2
  refine sz_low (Int.mul_pos (den_pos' x) (den_pos' y)) ?_ ?_ <;> rw [Nat.pow_succ] <;> omega
theorem sz_sub {k l : Nat} {x y : Rat} (h : Sz k x) (g : Sz l y) : Sz (k + l + 1) (x - y) := by
  rw [← sub_div]
  have a1 := natAbs_mul_lt h.1 (show ((y.den : Int)).natAbs < 2 ^ l by simpa using g.2)
  have a2 := natAbs_mul_lt (show ((x.den : Int)).natAbs < 2 ^ k by simpa using h.2) g.1
  have a3 := natAbs_mul_lt (show ((x.den : Int)).natAbs < 2 ^ k by simpa using h.2) (show ((y.den : Int)).natAbs < 2 ^ l by simpa using g.2)
  rw [Int.mul_comm] at a2
  refine sz_low (Int.mul_pos (den_pos' x) (den_pos' y)) ?_ ?_ <;> rw [Nat.pow_succ] <;> omega
/-! the four ways to reckon -/
def B_plus (f : Fn) : Sm :=
  (sRet (xCall f [(xBin dAdd (xBin dMul (xIdx (xVar 0) (xCon (.int 0))) (xIdx (xVar 1) (xCon (.int 1)))) (xBin dMul (xIdx (xVar 1) (xCon (.int 0))) (xIdx (xVar 0) (xCon (.int 1))))), (xBin dMul (xIdx (xVar 0) (xCon (.int 1))) (xIdx (xVar 1) (xCon (.int 1))))]))
def B_minus (f : Fn) : Sm :=
  (sRet (xCall f [(xBin dSub (xBin dMul (xIdx (xVar 0) (xCon (.int 0))) (xIdx (xVar 1) (xCon (.int 1)))) (xBin dMul (xIdx (xVar 1) (xCon (.int 0))) (xIdx (xVar 0) (xCon (.int 1))))), (xBin dMul (xIdx (xVar 0) (xCon (.int 1))) (xIdx (xVar 1) (xCon (.int 1))))]))
def B_times (f : Fn) : Sm :=
  (sRet (xCall f [(xBin dMul (xIdx (xVar 0) (xCon (.int 0))) (xIdx (xVar 1) (xCon (.int 0)))), (xBin dMul (xIdx (xVar 0) (xCon (.int 1))) (xIdx (xVar 1) (xCon (.int 1))))]))
def B_less : Sm :=
  (sRet (xCmp .lt (xBin dMul (xIdx (xVar 0) (xCon (.int 0))) (xIdx (xVar 1) (xCon (.int 1)))) (xBin dMul (xIdx (xVar 1) (xCon (.int 0))) (xIdx (xVar 0) (xCon (.int 1))))))
theorem dF_0 (x : Rat) : dIdx (dF x) (.int 0) = some (.int x.num) := by rfl
theorem dF_1 (x : Rat) : dIdx (dF x) (.int 1) = some (.int x.den) := by rfl
theorem mkF_dF (x : Rat) (p : List Nat) : mkF (dF x) p = ⟨dF x, .fz, []⟩ := by cases p <;> rfl
/-- a function that brings to least terms -/
def Low (f : Fn) : Prop := ∀ a b : Int, 0 < b → b.natAbs < 2 ^ 8000 → f [.int a, .int b] = .ok (dF (Rat.divInt a b), false)
section
variable {f : Fn} {x y : Rat} (hx : Sz 4000 x) (hy : Sz 4000 y)
include hx hy
theorem den_sz : ((x.den : Int) * y.den).natAbs < 2 ^ 8000 := natAbs_mul_lt (a := 4000) (b := 4000) (by simpa using hx.2) (by simpa using hy.2)
theorem den_p : 0 < (x.den : Int) * y.den := Int.mul_pos (den_pos' x) (den_pos' y)
theorem times_body (hf : Low f) : ends (B_times f (begin_ 2 [dF x, dF y])) = .ok (dF (x * y), false) := by
  have m1 := mul_sz hx.1 hy.1 (by decide)
  have m2 := mul_sz (show ((x.den : Int)).natAbs < 2 ^ 4000 by simpa using hx.2) (show ((y.den : Int)).natAbs < 2 ^ 4000 by simpa using hy.2) (by decide)
  have q := hf (x.num * y.num) _ (den_p hx hy) (den_sz hx hy)
  rw [mul_div] at q
  simp [B_times, begin_, dF_0, dF_1, m1, m2, q, mkF_dF]
theorem plus_body (hf : Low f) : ends (B_plus f (begin_ 2 [dF x, dF y])) = .ok (dF (x + y), false) := by
  have m1 := mul_sz hx.1 (show ((y.den : Int)).natAbs < 2 ^ 4000 by simpa using hy.2) (by decide)
  have m3 := mul_sz hy.1 (show ((x.den : Int)).natAbs < 2 ^ 4000 by simpa using hx.2) (by decide)
  have m2 := mul_sz (show ((x.den : Int)).natAbs < 2 ^ 4000 by simpa using hx.2) (show ((y.den : Int)).natAbs < 2 ^ 4000 by simpa using hy.2) (by decide)
  have q := hf (x.num * y.den + y.num * x.den) _ (den_p hx hy) (den_sz hx hy)
  rw [add_div] at q
  simp [B_plus, begin_, dF_0, dF_1, m1, m2, m3, q, mkF_dF]
theorem minus_body (hf : Low f) : ends (B_minus f (begin_ 2 [dF x, dF y])) = .ok (dF (x - y), false) := by
  have m1 := mul_sz hx.1 (show ((y.den : Int)).natAbs < 2 ^ 4000 by simpa using hy.2) (by decide)
  have m3 := mul_sz hy.1 (show ((x.den : Int)).natAbs < 2 ^ 4000 by simpa using hx.2) (by decide)
  have m2 := mul_sz (show ((x.den : Int)).natAbs < 2 ^ 4000 by simpa using hx.2) (show ((y.den : Int)).natAbs < 2 ^ 4000 by simpa using hy.2) (by decide)
  have q := hf (x.num * y.den - y.num * x.den) _ (den_p hx hy) (den_sz hx hy)
  rw [sub_div] at q
  simp [B_minus, begin_, dF_0, dF_1, m1, m2, m3, q, mkF_dF]
theorem less_body : ends (B_less (begin_ 2 [dF x, dF y])) = .ok (.bl (decide (x < y)), false) := by
  have m1 := mul_sz hx.1 (show ((y.den : Int)).natAbs < 2 ^ 4000 by simpa using hy.2) (by decide)
  have m3 := mul_sz hy.1 (show ((x.den : Int)).natAbs < 2 ^ 4000 by simpa using hx.2) (by decide)
  have e : decide (x < y) = decide (x.num * y.den < y.num * x.den) := by rw [decide_eq_decide]; exact Rat.lt_iff x y
  simp [B_less, begin_, dF_0, dF_1, m1, m3, e]
end
end Rt
end
section
set_option linter.all false
set_option autoImplicit false
set_option Elab.async false
set_option maxRecDepth 100000
set_option maxHeartbeats 2000000
namespace Rt
open PySem
/-! ## The least one of a list -/
theorem argBest_le (bt : Nat → Nat → Bool) : ∀ k, argBest bt k ≤ k
  | 0 => Nat.le_refl _
  | k + 1 => by
    unfold argBest
    split
    · exact Nat.le_refl _
    · exact Nat.le_succ_of_le (argBest_le bt k)
theorem argBest_least {bt : Nat → Nat → Bool} (irr : ∀ i, bt i i = false) (tr : ∀ i j k, bt i j = false → bt k j = true → bt i k = false) : ∀ k i, i ≤ k → bt i (argBest bt k) = false
  | 0, i, h => by
    have : i = 0 := by omega
    subst this
    exact irr 0
  | k + 1, i, h => by
    unfold argBest
    by_cases c : bt (k + 1) (argBest bt k) = true
    · rw [if_pos c]
      by_cases e : i = k + 1
      · subst e; exact irr _
      · exact tr i (argBest bt k) (k + 1) (argBest_least irr tr k i (by omega)) c
    · rw [if_neg c]
      by_cases e : i = k + 1
      · subst e; simpa using c
      · exact argBest_least irr tr k i (by omega)
/-! ## Triples of ints -/
abbrev T3 := Int × Int × Int
def TR (p : T3) : D := .tup [.int p.1, .int p.2.1, .int p.2.2]
theorem tr0 (p : T3) : dIdx (TR p) (.int 0) = some (.int p.1) := rfl
theorem tr1 (p : T3) : dIdx (TR p) (.int 1) = some (.int p.2.1) := rfl
theorem tr2 (p : T3) : dIdx (TR p) (.int 2) = some (.int p.2.2) := rfl
theorem py_tr (p : T3) : (TR p).py = .tuple [.int p.1, .int p.2.1, .int p.2.2] := by simp [TR, D.py, D.pyL]
def lt3 (p q : T3) : Bool := decide (p.1 < q.1 ∨ (p.1 = q.1 ∧ (p.2.1 < q.2.1 ∨ (p.2.1 = q.2.1 ∧ p.2.2 < q.2.2))))
theorem ltD_tr (p q : T3) : ltD (TR p) (TR q) = lt3 p q := by
  unfold ltD
  rw [py_tr, py_tr, PySem.W.dataLt_tuple, PySem.W.dataLt_cons (by simp [PySem.W.alike]), PySem.W.dataLt_cons (by simp [PySem.W.alike]), PySem.W.dataLt_cons (by simp [PySem.W.alike]), PySem.W.dataLt_int, PySem.W.dataLt_int, PySem.W.dataLt_int]
  rw [PyProof.Rows.lex_irrefl]
  unfold lt3
  simp only [PyData.eqv, beq_iff_eq]
  by_cases h1 : p.1 = q.1 <;> by_cases h2 : p.2.1 = q.2.1 <;> by_cases h3 : p.2.2 = q.2.2 <;> simp [h1, h2, h3]
theorem plain_trs : ∀ L : List T3, PyData.plainAll (D.pyL (L.map TR)) = true
  | [] => by simp [D.pyL, PyData.plainAll]
  | p :: L => by
    show PyData.plainAll ((TR p).py :: D.pyL (L.map TR)) = true
    rw [py_tr]
    simp [PyData.plainAll, PyData.plain, plain_trs L]
theorem depth_trs : ∀ L : List T3, PyData.depthAll (D.pyL (L.map TR)) ≤ 1
  | [] => by simp [D.pyL, PyData.depthAll]
  | p :: L => by
    show PyData.depthAll ((TR p).py :: D.pyL (L.map TR)) ≤ 1
    have := depth_trs L
    rw [py_tr]
    simp only [PyData.depthAll, PyData.depth]
    omega
theorem okSort_trs (L : List T3) : okSort (L.map TR) = true := by
  have d := depth_trs L
  have d' : PyData.depthAll (D.pyL (L.map TR)) ≤ 50 := by omega
  have t : (L.map TR).all (fun x => tupC x.py) = true := by
    rw [List.all_eq_true]
    intro x hx
    obtain ⟨p, _, rfl⟩ := List.mem_map.mp hx
    rw [py_tr]; rfl
  have a : ((L.map TR).all fun x => (L.map TR).all fun y => PySem.W.alike x.py y.py) = true := by
    rw [List.all_eq_true]
    intro x hx
    rw [List.all_eq_true]
    intro y hy
    obtain ⟨p, _, rfl⟩ := List.mem_map.mp hx
    obtain ⟨q, _, rfl⟩ := List.mem_map.mp hy
    rw [py_tr, py_tr]; simp [PySem.W.alike, PySem.W.alikeAll]
  unfold okSort
  rw [plain_trs, a, t, decide_eq_true d']
  rfl
def placeT (L : List T3) : Nat := argBest (fun i k => lt3 (L.getD i (0, 0, 0)) (L.getD k (0, 0, 0))) (L.length - 1)
def mnT (L : List T3) : T3 := L.getD (placeT L) (0, 0, 0)
theorem mnT_spec {L : List T3} (h : L ≠ []) : mnT L ∈ L ∧ ∀ q ∈ L, lt3 q (mnT L) = false := by
  have pos : 0 < L.length := List.length_pos_iff.mpr h
  have lt : placeT L < L.length := by
    have := argBest_le (fun i k => lt3 (L.getD i (0, 0, 0)) (L.getD k (0, 0, 0))) (L.length - 1)
    unfold placeT
    omega
  have g : ∀ i (h : i < L.length), L.getD i (0, 0, 0) = L[i] := fun i h => by rw [List.getD_eq_getElem?_getD, List.getElem?_eq_getElem h]; rfl
  refine ⟨by unfold mnT; rw [g _ lt]; exact List.getElem_mem lt, fun q hq => ?_⟩
  obtain ⟨i, hi, rfl⟩ := List.mem_iff_getElem.mp hq
  have := argBest_least (bt := fun i k => lt3 (L.getD i (0, 0, 0)) (L.getD k (0, 0, 0))) (fun i => by unfold lt3; simp) (fun i j k h1 h2 => by
    unfold lt3 at *
    rw [decide_eq_false_iff_not] at *
    rw [decide_eq_true_eq] at h2
    omega) (L.length - 1) i (by omega)
  rw [← g i hi]
  exact this
theorem argBest_congr {b c : Nat → Nat → Bool} : ∀ k, (∀ i j, i ≤ k → j ≤ k → b i j = c i j) → argBest b k = argBest c k
  | 0, _ => rfl
  | k + 1, h => by
    unfold argBest
    rw [argBest_congr k fun i j hi hj => h i j (by omega) (by omega), h (k + 1) (argBest c k) (Nat.le_refl _) (Nat.le_succ_of_le (argBest_le c k))]
theorem bMin_trs {L : List T3} (h : L ≠ []) : bMin [.lst (L.map TR)] = some (TR (mnT L), false) := by
  have pos : 0 < L.length := List.length_pos_iff.mpr h
  have e0 : asInts (L.map TR) = none := by
    cases L with
    | nil => exact absurd rfl h
    | cons p L => rfl
  have e : bMin [.lst (L.map TR)] = (if okSort (L.map TR) then (bestAt ltD (L.map TR)).map fun d => (d, false) else none) := by
    show (match asInts (L.map TR) with
      | some is => _
      | none => _) = _
    rw [e0]
  rw [e, if_pos (okSort_trs L)]
  have g : ∀ i, i < L.length → (L.map TR).getD i .non = TR (L.getD i (0, 0, 0)) := fun i h => by
    rw [List.getD_eq_getElem?_getD, List.getElem?_map, List.getElem?_eq_getElem h, List.getD_eq_getElem?_getD, List.getElem?_eq_getElem h]; rfl
  have eb : bestAt ltD (L.map TR) = some (TR (mnT L)) := by
    unfold bestAt
    rw [List.length_map, argBest_congr (c := fun i k => lt3 (L.getD i (0, 0, 0)) (L.getD k (0, 0, 0))) (L.length - 1) fun i j hi hj => by rw [g i (by omega), g j (by omega), ltD_tr]]
    have lt : placeT L < L.length := by
      have := argBest_le (fun i k => lt3 (L.getD i (0, 0, 0)) (L.getD k (0, 0, 0))) (L.length - 1)
      unfold placeT
      omega
    show (L.map TR)[placeT L]? = _
    rw [List.getElem?_map, List.getElem?_eq_getElem lt]
    unfold mnT
    rw [List.getD_eq_getElem?_getD, List.getElem?_eq_getElem lt]
    rfl
  rw [eb]; rfl
theorem sh_tr {p : T3} (h : (-(2 ^ 60) < p.1 ∧ p.1 < 2 ^ 60) ∧ (-(2 ^ 60) < p.2.1 ∧ p.2.1 < 2 ^ 60) ∧ -(2 ^ 60) < p.2.2 ∧ p.2.2 < 2 ^ 60) : Sh 1 219 (TR p) :=
  (sh_tup (shl_cons (sh_int h.1) (shl_cons (sh_int h.2.1) (shl_cons (sh_int h.2.2) shl_nil)))).mono (Nat.le_refl _) (by decide)
theorem immL_trs : ∀ l : List T3, D.immL (l.map TR) = true
  | [] => rfl
  | p :: l => by
    show (D.imm (TR p) && D.immL (l.map TR)) = true
    rw [immL_trs l]; rfl
theorem mkN_trs (l : List T3) (p : List Nat) : mkN (.lst (l.map TR)) p = ⟨.lst (l.map TR), .nw, []⟩ := by
  cases p with
  | nil => rfl
  | cons i p =>
    show (⟨.lst (l.map TR), .nw, if D.immL (l.map TR) then [] else _⟩ : Rv) = _
    rw [immL_trs]; rfl
theorem idx_tr {l : List T3} {i : Int} (h : 0 ≤ i) (k : i < l.length) : dIdx (.lst (l.map TR)) (.int i) = some (TR (l.getD i.toNat (0, 0, 0))) := by
  have lt : i.toNat < l.length := by omega
  refine idx_lst (k := i.toNat) (by rw [List.length_map]; exact place_nn h k) ?_
  rw [List.getElem?_map, List.getElem?_eq_getElem lt, List.getD_eq_getElem?_getD, List.getElem?_eq_getElem lt]
  rfl
theorem cmp_neN_tr (L : List T3) : cmpD .ne (.lst (L.map TR)) (.lst []) = some (!L.isEmpty) := by
  show (dEq (.lst (L.map TR)) (.lst [])).map not = _
  have e : dEq (.lst (L.map TR)) (.lst []) = some L.isEmpty := by
    show (if okEq (D.lst (L.map TR)).py (D.lst []).py then some (PyData.eqv (D.lst (L.map TR)).py (D.lst []).py) else none) = _
    have ok : okEq (D.lst (L.map TR)).py (D.lst []).py = true := by
      simp [okEq, D.py, D.pyL, PyData.plain, plain_trs, PyData.plainAll, PyData.depth, PyData.depthAll]
    rw [if_pos ok]
    congr 1
    cases L with
    | nil => simp [D.py, D.pyL, PyData.eqv, PyData.eqvAll]
    | cons x L => simp [D.py, D.pyL, PyData.eqv, PyData.eqvAll]
  rw [e]; rfl
end Rt
end
section
set_option linter.all false
set_option autoImplicit false
set_option Elab.async false
set_option maxRecDepth 100000
set_option maxHeartbeats 4000000
namespace Rt
open PySem
abbrev P2 := Int × Int
/-! the least pair -/
def lt2 (p q : P2) : Bool := decide (p.1 < q.1 ∨ (p.1 = q.1 ∧ p.2 < q.2))
theorem ltD_pr (p q : P2) : ltD (PR p) (PR q) = lt2 p q := by
  unfold ltD
  rw [py_pr, py_pr, PySem.W.dataLt_tuple, PySem.W.dataLt_cons (by simp [PySem.W.alike]), PySem.W.dataLt_cons (by simp [PySem.W.alike]), PySem.W.dataLt_int, PySem.W.dataLt_int]
  rw [PyProof.Rows.lex_irrefl]
  unfold lt2
  simp only [PyData.eqv, beq_iff_eq]
  by_cases h1 : p.1 = q.1 <;> by_cases h2 : p.2 = q.2 <;> simp [h1, h2]
def placeP (L : List P2) : Nat := argBest (fun i k => lt2 (L.getD i (0, 0)) (L.getD k (0, 0))) (L.length - 1)
def mnP (L : List P2) : P2 := L.getD (placeP L) (0, 0)
theorem mnP_spec {L : List P2} (h : L ≠ []) : mnP L ∈ L ∧ ∀ q ∈ L, lt2 q (mnP L) = false := by
  have pos : 0 < L.length := List.length_pos_iff.mpr h
  have lt : placeP L < L.length := by
    have := argBest_le (fun i k => lt2 (L.getD i (0, 0)) (L.getD k (0, 0))) (L.length - 1)
    unfold placeP
    omega
  have g : ∀ i (h : i < L.length), L.getD i (0, 0) = L[i] := fun i h => by rw [List.getD_eq_getElem?_getD, List.getElem?_eq_getElem h]; rfl
  refine ⟨by unfold mnP; rw [g _ lt]; exact List.getElem_mem lt, fun q hq => ?_⟩
  obtain ⟨i, hi, rfl⟩ := List.mem_iff_getElem.mp hq
  have := argBest_least (bt := fun i k => lt2 (L.getD i (0, 0)) (L.getD k (0, 0))) (fun i => by unfold lt2; simp) (fun i j k h1 h2 => by
    unfold lt2 at *
    rw [decide_eq_false_iff_not] at *
    rw [decide_eq_true_eq] at h2
    omega) (L.length - 1) i (by omega)
  rw [← g i hi]
  exact this
theorem bMin_prs {L : List P2} (h : L ≠ []) : bMin [.lst (L.map PR)] = some (PR (mnP L), false) := by
  have pos : 0 < L.length := List.length_pos_iff.mpr h
  have e0 : asInts (L.map PR) = none := by
    cases L with
    | nil => exact absurd rfl h
    | cons p L => rfl
  have e : bMin [.lst (L.map PR)] = (if okSort (L.map PR) then (bestAt ltD (L.map PR)).map fun d => (d, false) else none) := by
    show (match asInts (L.map PR) with
      | some is => _
      | none => _) = _
    rw [e0]
  rw [e, if_pos (okSort_prs L)]
  have g : ∀ i, i < L.length → (L.map PR).getD i .non = PR (L.getD i (0, 0)) := fun i h => by
    rw [List.getD_eq_getElem?_getD, List.getElem?_map, List.getElem?_eq_getElem h, List.getD_eq_getElem?_getD, List.getElem?_eq_getElem h]; rfl
  have eb : bestAt ltD (L.map PR) = some (PR (mnP L)) := by
    unfold bestAt
    rw [List.length_map, argBest_congr (c := fun i k => lt2 (L.getD i (0, 0)) (L.getD k (0, 0))) (L.length - 1) fun i j hi hj => by rw [g i (by omega), g j (by omega), ltD_pr]]
    have lt : placeP L < L.length := by
      have := argBest_le (fun i k => lt2 (L.getD i (0, 0)) (L.getD k (0, 0))) (L.length - 1)
      unfold placeP
      omega
    show (L.map PR)[placeP L]? = _
    rw [List.getElem?_map, List.getElem?_eq_getElem lt]
    unfold mnP
    rw [List.getD_eq_getElem?_getD, List.getElem?_eq_getElem lt]
    rfl
  rw [eb]; rfl
/-! greatest, least -/
theorem foldl_max_eq : ∀ (L : List Int) (a x : Int), (x = a ∨ x ∈ L) → a ≤ x → (∀ y ∈ L, y ≤ x) → L.foldl max a = x
  | [], a, x, h, _, _ => by
    rcases h with h | h
    · exact h.symm
    · cases h
  | b :: L, a, x, h, h1, h2 => by
    have hb := h2 b List.mem_cons_self
    rw [List.foldl_cons]
    refine foldl_max_eq L (max a b) x ?_ (by omega) fun y hy => h2 y (List.mem_cons_of_mem _ hy)
    rcases h with h | h
    · exact .inl (by omega)
    · rcases List.mem_cons.mp h with h | h
      · exact .inl (by omega)
      · exact .inr h
theorem foldl_min_eq : ∀ (L : List Int) (a x : Int), (x = a ∨ x ∈ L) → x ≤ a → (∀ y ∈ L, x ≤ y) → L.foldl min a = x
  | [], a, x, h, _, _ => by
    rcases h with h | h
    · exact h.symm
    · cases h
  | b :: L, a, x, h, h1, h2 => by
    have hb := h2 b List.mem_cons_self
    rw [List.foldl_cons]
    refine foldl_min_eq L (min a b) x ?_ (by omega) fun y hy => h2 y (List.mem_cons_of_mem _ hy)
    rcases h with h | h
    · exact .inl (by omega)
    · rcases List.mem_cons.mp h with h | h
      · exact .inl (by omega)
      · exact .inr h
theorem bMax_is {L : List Int} {x : Int} (h : x ∈ L) (k : ∀ y ∈ L, y ≤ x) : bMax [.lst (L.map .int)] = some (.int x, false) := by
  cases L with
  | nil => cases h
  | cons a L =>
    have := bMax_ints a L
    rw [foldl_max_eq L a x (List.mem_cons.mp h) (k a List.mem_cons_self) fun y hy => k y (List.mem_cons_of_mem _ hy)] at this
    exact this
theorem bMin_is {L : List Int} {x : Int} (h : x ∈ L) (k : ∀ y ∈ L, x ≤ y) : bMin [.lst (L.map .int)] = some (.int x, false) := by
  cases L with
  | nil => cases h
  | cons a L =>
    have := bMin_ints a L
    rw [foldl_min_eq L a x (List.mem_cons.mp h) (k a List.mem_cons_self) fun y hy => k y (List.mem_cons_of_mem _ hy)] at this
    exact this
theorem firstAt_is : ∀ (L : List Int) (v : Int) (i : Nat) (h : i < L.length), L[i] = v → (∀ j (hj : j < i), L[j]'(by omega) ≠ v) → firstAt v L = some i
  | a :: L, v, 0, _, e, _ => by
    have : a = v := e
    rw [firstAt, if_pos this]
  | a :: L, v, i + 1, h, e, n => by
    have na : a ≠ v := n 0 (by omega)
    rw [firstAt, if_neg na, firstAt_is L v i (by simpa using h) e fun j hj => n (j + 1) (by omega)]
    rfl
theorem leP_trans (a b c : P2) (h1 : leP a b = true) (h2 : leP b c = true) : leP a c = true := by
  unfold leP at *
  rw [decide_eq_true_eq] at *
  omega
theorem leP_total (a b : P2) : (leP a b || leP b a) = true := by
  unfold leP
  rw [Bool.or_eq_true, decide_eq_true_eq, decide_eq_true_eq]
  omega
theorem asBools_map {β : Type} (f : β → Bool) : ∀ (l : List β), asBools (l.map fun x => D.bl (f x)) = some (l.map f)
  | [] => rfl
  | x :: l => by
    show (asBools (l.map fun x => D.bl (f x))).map (f x :: ·) = _
    rw [asBools_map f l]; rfl
theorem bAll_map {β : Type} (l : List β) (f : β → Bool) : bAll [.lst (l.map fun x => D.bl (f x))] = some (.bl (l.all f), false) := by
  show (asBools (l.map fun x => D.bl (f x))).map _ = _
  rw [asBools_map]
  simp
theorem bAny_map {β : Type} (l : List β) (f : β → Bool) : bAny [.lst (l.map fun x => D.bl (f x))] = some (.bl (l.any f), false) := by
  show (asBools (l.map fun x => D.bl (f x))).map _ = _
  rw [asBools_map]
  simp
theorem lc_all {own : List Nat} {g : Tg} {e : Ex} {σ : Env} {β : Type} (f : β → D) (v : β → D) (l : List β) (h : ∀ b ∈ l, ∃ σ', g (f b) σ = some σ' ∧ e σ' = .ok ⟨v b, .fz, []⟩) : lcGo own g tYesD e σ (l.map f) = .ok (l.map v, []) := by
  have := lc_fm (own := own) (g := g) (t := tYesD) (e := e) (σ := σ) f (fun _ => true) v l fun b hb => by
    obtain ⟨σ', h1, h2⟩ := h b hb
    exact ⟨σ', h1, rfl, fun _ => h2⟩
  rwa [List.filter_eq_self.mpr (fun _ _ => rfl)] at this
theorem uset_len : ∀ l : List Int, (usetI l).length ≤ l.length
  | [] => Nat.le_refl _
  | i :: l => by
    have a := uset_len l
    have b : ∀ (l : List Int), (insU i l).length ≤ l.length + 1 := fun l => by
      induction l with
      | nil => simp [insU]
      | cons j l ih =>
        unfold insU
        split
        · simp
        · split
          · simp
          · simp only [List.length_cons]; omega
    have := b (usetI l)
    rw [usetI, List.length_cons]; omega
theorem bsset (l : List Int) (h : l.length < 64) : bSSet [.lst (l.map .int)] = some (.lst ((usetI l).map .int), true) := by
  unfold bSSet
  simp only [asInts_map]
  rw [if_pos h]
theorem find_first : ∀ {L : List Int} {f : Int → Bool} {c : Int}, L.Pairwise (· < ·) → c ∈ L → f c = true → (∀ m ∈ L, m < c → f m = false) → L.find? f = some c
  | [], _, _, _, h, _, _ => by cases h
  | x :: L, f, c, hp, hc, h1, h2 => by
    have hp' := List.pairwise_cons.mp hp
    rw [List.find?_cons]
    rcases List.mem_cons.mp hc with rfl | hc
    · rw [h1]
    · rw [h2 x List.mem_cons_self (hp'.1 c hc)]
      exact find_first hp'.2 hc h1 fun m hm => h2 m (List.mem_cons_of_mem _ hm)
theorem bsum (l : List Int) : bSum [.lst (l.map D.int)] = some (.int l.sum, false) := by
  simp [bSum, asInts_map]
theorem stp_of {g : Tg} {b : Sm} {d : D} {σ σ' : Env} (h : g d σ = some σ') : stp g b d σ = b σ' := by
  show (match g d σ with | none => O.bad | some σ' => b σ') = _
  rw [h]
theorem go_step {wt : Tst} {wb : Sm} {fu : Nat} {σ σ' : Env} (t : wt σ = .ok true) (b : wb σ = .nx σ') : whileGo wt wb (fu + 1) σ = whileGo wt wb fu σ' := by
  show (wt σ).to σ _ = _
  rw [t]
  show (wb σ).bd (whileGo wt wb fu) = _
  rw [b]; rfl
theorem go_end {wt : Tst} {wb : Sm} {fu : Nat} {σ : Env} (t : wt σ = .ok false) : whileGo wt wb (fu + 1) σ = .nx σ := by
  show (wt σ).to σ _ = _
  rw [t]; rfl
theorem lc_fmN {own : List Nat} {g : Tg} {t : Tst} {e : Ex} {σ : Env} {β : Type} (f : β → D) (p : β → Bool) (v : β → D) (l : List β) (h : ∀ b ∈ l, ∃ σ', g (f b) σ = some σ' ∧ t σ' = .ok (p b) ∧ (p b = true → e σ' = .ok ⟨v b, .nw, []⟩)) : lcGo own g t e σ (l.map f) = .ok ((l.filter p).map v, []) := by
  induction l with
  | nil => rfl
  | cons b l ih =>
    obtain ⟨σ', e1, e2, e3⟩ := h b List.mem_cons_self
    have ih := ih fun x hx => h x (List.mem_cons_of_mem _ hx)
    rw [List.map_cons]
    unfold lcGo
    rw [e1]
    dsimp only
    rw [e2]
    cases q : p b with
    | false => rw [List.filter_cons, if_neg (by rw [q]; simp)]; exact ih
    | true =>
      rw [List.filter_cons, if_pos q, List.map_cons]
      dsimp only
      rw [e3 q]
      dsimp only
      rw [ih]
      rfl
theorem lc_allN {own : List Nat} {g : Tg} {e : Ex} {σ : Env} {β : Type} (f : β → D) (v : β → D) (l : List β) (h : ∀ b ∈ l, ∃ σ', g (f b) σ = some σ' ∧ e σ' = .ok ⟨v b, .nw, []⟩) : lcGo own g tYesD e σ (l.map f) = .ok (l.map v, []) := by
  have := lc_fmN (own := own) (g := g) (t := tYesD) (e := e) (σ := σ) f (fun _ => true) v l fun b hb => by
    obtain ⟨σ', h1, h2⟩ := h b hb
    exact ⟨σ', h1, rfl, fun _ => h2⟩
  rwa [List.filter_eq_self.mpr (fun _ _ => rfl)] at this
theorem cut_tm {α : Type} (xs : List α) {t m : Int} (t0 : 0 ≤ t) (m0 : 0 ≤ m) : cutL xs (some t) (some (t + m)) = (xs.drop t.toNat).take m.toNat := by
  show (xs.drop (if 0 ≤ t then min t.toNat xs.length else _)).take ((if 0 ≤ t + m then min (t + m).toNat xs.length else _) - (if 0 ≤ t then min t.toNat xs.length else _)) = _
  rw [if_pos t0, if_pos (by omega), show (t + m).toNat = t.toNat + m.toNat by omega]
  by_cases h : t.toNat ≤ xs.length
  · rw [Nat.min_eq_left h]
    by_cases k : t.toNat + m.toNat ≤ xs.length
    · rw [Nat.min_eq_left k]; congr 1; omega
    · rw [Nat.min_eq_right (by omega), List.take_of_length_le (by rw [List.length_drop]; omega), List.take_of_length_le (by rw [List.length_drop]; omega)]
  · rw [Nat.min_eq_right (by omega : xs.length ≤ t.toNat + m.toNat), Nat.min_eq_right (by omega : xs.length ≤ t.toNat), List.drop_length, List.drop_eq_nil_of_le (by omega : xs.length ≤ t.toNat)]
    simp
theorem mkN_lls {β : Type} (f : β → D) (l : List β) : mkN (.lst (l.map f)) [] = ⟨.lst (l.map f), .nw, []⟩ := rfl
end Rt
end
section
set_option linter.all false
set_option autoImplicit false
set_option Elab.async false
namespace K08
open Rt (upto)
abbrev J3 := Int × Int × Int
/-! ## how often a job comes -/
def cd (t T : Int) : Int := -((-t) / T)
theorem cd_le {t T m : Int} (hT : 1 ≤ T) (h : t ≤ m * T) : cd t T ≤ m := by
  unfold cd
  have : -m ≤ (-t) / T := (Int.le_ediv_iff_mul_le (by omega)).mpr (by rw [Int.neg_mul]; omega)
  omega
theorem cd_ge {t T m : Int} (hT : 1 ≤ T) (h : m * T < t) : m + 1 ≤ cd t T := by
  unfold cd
  have : (-t) / T < -m := (Int.ediv_lt_iff_lt_mul (by omega)).mpr (by rw [Int.neg_mul]; omega)
  omega
theorem cd_mono {s t T : Int} (hT : 1 ≤ T) (h : s ≤ t) : cd s T ≤ cd t T := by
  unfold cd
  have := Int.ediv_le_ediv (a := -t) (b := -s) (c := T) (by omega) (by omega)
  omega
theorem cd_zero (T : Int) : cd 0 T = 0 := by unfold cd; simp
theorem cd_nn {t T : Int} (hT : 1 ≤ T) (h : 0 ≤ t) : 0 ≤ cd t T := by have := cd_mono hT h; rw [cd_zero] at this; exact this
theorem cd_pos {t T : Int} (hT : 1 ≤ T) (h : 1 ≤ t) : 1 ≤ cd t T := by have := cd_ge (m := 0) hT (by omega : 0 * T < t); omega
theorem cd_one {t T : Int} (hT : 1 ≤ T) (h : 1 ≤ t) (k : t ≤ T) : cd t T = 1 := by have := cd_pos hT h; have := cd_le (m := 1) hT (by omega : t ≤ 1 * T); omega
theorem cd_succ {t T : Int} (hT : 1 ≤ T) (h : 0 ≤ t) : cd (t + 1) T = cd t T + if t % T = 0 then 1 else 0 := by
  have q := Int.mul_ediv_add_emod t T
  have r0 := Int.emod_nonneg t (by omega : T ≠ 0)
  have r1 := Int.emod_lt_of_pos t (by omega : 0 < T)
  have e : t = t / T * T + t % T := by rw [Int.mul_comm]; omega
  have s : (t / T + 1) * T = t / T * T + T := by rw [Int.add_mul]; omega
  have a : cd (t + 1) T = t / T + 1 := by
    have := cd_ge (m := t / T) hT (by omega : t / T * T < t + 1)
    have := cd_le (m := t / T + 1) hT (by omega : t + 1 ≤ (t / T + 1) * T)
    omega
  rw [a]
  by_cases c : t % T = 0
  · rw [if_pos c]
    have := cd_le (m := t / T) hT (by omega : t ≤ t / T * T)
    have s2 : (t / T - 1) * T = t / T * T - T := by rw [Int.sub_mul]; omega
    have := cd_ge (m := t / T - 1) hT (by omega : (t / T - 1) * T < t)
    omega
  · rw [if_neg c]
    have := cd_ge (m := t / T) hT (by omega : t / T * T < t)
    have := cd_le (m := t / T + 1) hT (by omega : t ≤ (t / T + 1) * T)
    omega
/-! ## the demand of higher jobs -/
structure Ok (j : J3) : Prop where
  c0 : 1 ≤ j.1
  c1 : j.1 ≤ 60
  d0 : 1 ≤ j.2.2
  d1 : j.2.2 ≤ j.2.1
  t1 : j.2.1 ≤ 60
theorem Ok.t0 {j : J3} (h : Ok j) : 1 ≤ j.2.1 := by have := h.d0; have := h.d1; omega
def one (j : J3) (t : Int) : Int := j.1 * cd t j.2.1
def dem (h : List J3) (t : Int) : Int := (h.map fun j => one j t).sum
theorem one_mono {j : J3} (k : Ok j) {s t : Int} (h : s ≤ t) : one j s ≤ one j t := Int.mul_le_mul_of_nonneg_left (cd_mono k.t0 h) (by have := k.c0; omega)
theorem one_nn {j : J3} (k : Ok j) {t : Int} (h : 0 ≤ t) : 0 ≤ one j t := Int.mul_nonneg (by have := k.c0; omega) (cd_nn k.t0 h)
theorem dem_mono : ∀ {h : List J3}, (∀ j ∈ h, Ok j) → ∀ {s t : Int}, s ≤ t → dem h s ≤ dem h t
  | [], _, s, t, _ => Int.le_refl _
  | j :: h, k, s, t, st => by
    have a := one_mono (k j List.mem_cons_self) st
    have b := dem_mono (fun i hi => k i (List.mem_cons_of_mem _ hi)) st (h := h)
    show (one j s + dem h s : Int) ≤ one j t + dem h t
    omega
theorem dem_nn : ∀ {h : List J3}, (∀ j ∈ h, Ok j) → ∀ {t : Int}, 0 ≤ t → 0 ≤ dem h t
  | [], _, t, _ => Int.le_refl _
  | j :: h, k, t, st => by
    have a := one_nn (k j List.mem_cons_self) st
    have b := dem_nn (fun i hi => k i (List.mem_cons_of_mem _ hi)) st (h := h)
    show (0 : Int) ≤ one j t + dem h t
    omega
/-- enough time -/
def sol (h : List J3) (c t : Int) : Bool := decide (c + dem h t ≤ t)
def ansO (h : List J3) (j : J3) : Option Int := (upto 1 j.2.2.toNat).find? (sol h j.1)
theorem up_mem {a x : Int} {n : Nat} : x ∈ upto a n ↔ a ≤ x ∧ x < a + n := by
  unfold upto
  rw [List.mem_map]
  constructor
  · rintro ⟨k, hk, rfl⟩
    have := List.mem_range.mp hk
    omega
  · intro h
    exact ⟨(x - a).toNat, List.mem_range.mpr (by omega), by omega⟩
theorem up_sorted (a : Int) (n : Nat) : (upto a n).Pairwise (· < ·) := by
  unfold upto
  exact List.pairwise_map.mpr (List.pairwise_lt_range.imp fun {a b} h => by omega)
theorem ans_none {h : List J3} {j : J3} (d0 : 1 ≤ j.2.2) : ansO h j = none ↔ ∀ t, 1 ≤ t → t ≤ j.2.2 → ¬ j.1 + dem h t ≤ t := by
  unfold ansO
  rw [List.find?_eq_none]
  constructor
  · intro k t t0 t1 hh
    exact k t (up_mem.mpr ⟨t0, by omega⟩) (decide_eq_true hh)
  · intro k t ht hh
    have := up_mem.mp ht
    exact k t this.1 (by omega) (of_decide_eq_true hh)
theorem ans_some {h : List J3} {j : J3} {t : Int} (t0 : 1 ≤ t) (t1 : t ≤ j.2.2) (s : j.1 + dem h t ≤ t) (l : ∀ u, 1 ≤ u → u < t → ¬ j.1 + dem h u ≤ u) : ansO h j = some t :=
  Rt.find_first (up_sorted _ _) (up_mem.mpr ⟨t0, by omega⟩) (decide_eq_true s) fun m hm lt => decide_eq_false (l m (up_mem.mp hm).1 lt)
/-- by going on -/
def itGo : Nat → List J3 → Int → Int → Int → Option Int
  | 0, _, _, _, _ => none
  | n + 1, h, c, D, s => if s ≤ D then (if c + dem h s = s then some s else itGo n h c D (c + dem h s)) else none
theorem it_spec {h : List J3} (k : ∀ j ∈ h, Ok j) {j : J3} (kj : Ok j) : ∀ (n : Nat) (s : Int), 1 ≤ s → (∀ t, 1 ≤ t → j.1 + dem h t ≤ t → s ≤ t) → s ≤ j.1 + dem h s → j.2.2 < s + n → itGo n h j.1 j.2.2 s = ansO h j
  | 0, s, s0, l, g, b => by
    symm
    show ansO h j = none
    rw [ans_none kj.d0]
    intro t t0 t1 hh
    have := l t t0 hh
    omega
  | n + 1, s, s0, l, g, b => by
    unfold itGo
    by_cases c : s ≤ j.2.2
    · rw [if_pos c]
      by_cases e : j.1 + dem h s = s
      · rw [if_pos e]
        exact (ans_some s0 c (by omega) fun u u0 u1 hh => by have := l u u0 hh; omega).symm
      · rw [if_neg e]
        refine it_spec k kj n (j.1 + dem h s) (by omega) (fun t t0 hh => ?_) ?_ (by omega)
        · have := l t t0 hh
          have := dem_mono k this
          omega
        · have := dem_mono k g
          omega
    · rw [if_neg c]
      symm
      rw [ans_none kj.d0]
      intro t t0 t1 hh
      have := l t t0 hh
      omega
theorem it_eq {h : List J3} (k : ∀ j ∈ h, Ok j) {j : J3} (kj : Ok j) : itGo 61 h j.1 j.2.2 j.1 = ansO h j := by
  have c0 := kj.c0
  refine it_spec k kj 61 j.1 c0 (fun t t0 hh => ?_) ?_ (by have := kj.d1; have := kj.t1; omega)
  · have := dem_nn k (t := t) (by omega)
    omega
  · have := dem_nn k (t := j.1) (by omega)
    omega
end K08
end
section
set_option linter.all false
set_option autoImplicit false
set_option Elab.async false
namespace K08
open Rt (upto lt3 mnT mnT_spec)
/-! ## minute by minute -/
def gt (J : List J3) (k : Int) : J3 := J.getD k.toNat (0, 0, 0)
def arr (J : List J3) (time : Int) : List J3 := ((upto 0 J.length).filter fun k => decide (time % (gt J k).2.1 = 0)).map fun k => (k, time, (gt J k).1)
structure Sim where
  left : List J3
  row : List (Option Int)
  done : List J3
def stepL (L : List J3) (row : List (Option Int)) (done : List J3) (time : Int) : Sim :=
  if L = [] then ⟨[], row ++ [none], done⟩
  else if 1 < (mnT L).2.2 then ⟨L.filter (fun e => !decide (e = mnT L)) ++ [((mnT L).1, (mnT L).2.1, (mnT L).2.2 - 1)], row ++ [some (mnT L).1], done⟩
  else ⟨L.filter (fun e => !decide (e = mnT L)), row ++ [some (mnT L).1], done ++ [((mnT L).1, (mnT L).2.1, time + 1)]⟩
def sim (J : List J3) : Nat → Sim
  | 0 => ⟨[], [], []⟩
  | n + 1 => stepL ((sim J n).left ++ arr J n) (sim J n).row (sim J n).done n
theorem step_len (L : List J3) (row : List (Option Int)) (dn : List J3) (t : Int) : (stepL L row dn t).left.length ≤ L.length + 1 ∧ (stepL L row dn t).row.length = row.length + 1 ∧ (stepL L row dn t).done.length ≤ dn.length + 1 := by
  unfold stepL
  split
  · simp
  · split
    · simp only [List.length_append, List.length_singleton]
      exact ⟨Nat.succ_le_succ (List.length_filter_le _ _), trivial, Nat.le_succ _⟩
    · simp only [List.length_append, List.length_singleton]
      exact ⟨Nat.le_succ_of_le (List.length_filter_le _ _), trivial, Nat.le_refl _⟩
/-! sums of work -/
def wsum (L : List J3) : Int := (L.map fun e => e.2.2).sum
theorem wsum_cons (e : J3) (L : List J3) : wsum (e :: L) = e.2.2 + wsum L := rfl
theorem wsum_app : ∀ (L M : List J3), wsum (L ++ M) = wsum L + wsum M
  | [], M => by show wsum M = 0 + wsum M; omega
  | e :: L, M => by rw [List.cons_append, wsum_cons, wsum_cons, wsum_app L M]; omega
def Pd (L : List J3) : Prop := L.Pairwise fun a b => ¬ (a.1 = b.1 ∧ a.2.1 = b.2.1)
theorem pd_inj : ∀ {L : List J3}, Pd L → ∀ {a b : J3}, a ∈ L → b ∈ L → a.1 = b.1 → a.2.1 = b.2.1 → a = b
  | x :: L, h, a, b, ha, hb, e1, e2 => by
    obtain ⟨h1, h2⟩ := List.pairwise_cons.mp h
    rcases List.mem_cons.mp ha with q1 | ha'
    · rcases List.mem_cons.mp hb with q2 | hb'
      · rw [q1, q2]
      · exact (h1 b hb' (by rw [← q1]; exact ⟨e1, e2⟩)).elim
    · rcases List.mem_cons.mp hb with q2 | hb'
      · exact (h1 a ha' (by rw [← q2]; exact ⟨e1.symm, e2.symm⟩)).elim
      · exact pd_inj h2 ha' hb' e1 e2
theorem wsum_filter : ∀ {L : List J3}, Pd L → ∀ {m : J3}, m ∈ L → wsum (L.filter fun e => !decide (e = m)) = wsum L - m.2.2
  | x :: L, h, m, hm => by
    obtain ⟨h1, h2⟩ := List.pairwise_cons.mp h
    rw [List.filter_cons]
    by_cases c : x = m
    · subst c
      have : L.filter (fun e => !decide (e = x)) = L := List.filter_eq_self.mpr fun e he => by
        have : e ≠ x := fun q => h1 e he (by rw [q]; exact ⟨rfl, rfl⟩)
        simp [this]
      rw [if_neg (by simp), this, wsum_cons]; omega
    · rcases List.mem_cons.mp hm with q | hm
      · exact (c q.symm).elim
      · rw [if_pos (by simp [c]), wsum_cons, wsum_cons, wsum_filter h2 hm]; omega
theorem wsum_ge : ∀ {L : List J3}, (∀ e ∈ L, 1 ≤ e.2.2) → ∀ {m : J3}, m ∈ L → m.2.2 ≤ wsum L
  | x :: L, h, m, hm => by
    have nn : ∀ {L : List J3}, (∀ e ∈ L, 1 ≤ e.2.2) → 0 ≤ wsum L := fun {L} h => by
      induction L with
      | nil => exact Int.le_refl _
      | cons y L ih =>
        have := ih fun e he => h e (List.mem_cons_of_mem _ he)
        have := h y List.mem_cons_self
        rw [wsum_cons]; omega
    have a := h x List.mem_cons_self
    have b := nn fun e he => h e (List.mem_cons_of_mem _ he)
    rw [wsum_cons]
    rcases List.mem_cons.mp hm with rfl | hm
    · omega
    · have := wsum_ge (fun e he => h e (List.mem_cons_of_mem _ he)) hm
      omega
/-! what comes -/
theorem up_len (a : Int) (n : Nat) : (upto a n).length = n := by unfold upto; simp
theorem gt_map (J : List J3) : (upto 0 J.length).map (gt J) = J := by
  apply List.ext_getElem
  · rw [List.length_map, up_len]
  · intro i h1 h2
    rw [List.getElem_map]
    have : (upto 0 J.length)[i]'(by rw [up_len]; exact h2) = (i : Int) := by unfold upto; simp
    rw [this]
    unfold gt
    rw [Int.toNat_natCast, List.getD_eq_getElem?_getD, List.getElem?_eq_getElem h2]; rfl
theorem gt_mem {J : List J3} {k : Int} (h : 0 ≤ k) (h2 : k < J.length) : gt J k ∈ J := by
  unfold gt
  rw [List.getD_eq_getElem?_getD, List.getElem?_eq_getElem (by omega : k.toNat < J.length)]
  exact List.getElem_mem _
theorem arr_mem {J : List J3} {t : Int} {e : J3} (h : e ∈ arr J t) : (0 ≤ e.1 ∧ e.1 < J.length) ∧ e.2.1 = t ∧ e.2.2 = (gt J e.1).1 ∧ t % (gt J e.1).2.1 = 0 := by
  unfold arr at h
  obtain ⟨k, hk, rfl⟩ := List.mem_map.mp h
  obtain ⟨k1, k2⟩ := List.mem_filter.mp hk
  have := up_mem.mp k1
  exact ⟨⟨this.1, by omega⟩, rfl, rfl, of_decide_eq_true k2⟩
theorem arr_in {J : List J3} {t k : Int} (h : 0 ≤ k) (h2 : k < J.length) (h3 : t % (gt J k).2.1 = 0) : (k, t, (gt J k).1) ∈ arr J t :=
  List.mem_map.mpr ⟨k, List.mem_filter.mpr ⟨up_mem.mpr ⟨h, by omega⟩, decide_eq_true h3⟩, rfl⟩
theorem arr_pd (J : List J3) (t : Int) : Pd (arr J t) := by
  unfold Pd arr
  exact List.pairwise_map.mpr (((up_sorted 0 J.length).filter _).imp fun {a b} h => by rintro ⟨h1, _⟩; have : a = b := h1; omega)
def came (j : J3) (t : Int) : Int := if t % j.2.1 = 0 then j.1 else 0
theorem arr_sum (J : List J3) (t : Int) : wsum (arr J t) = (J.map fun j => came j t).sum := by
  unfold wsum arr
  rw [List.map_map]
  have key : ∀ U : List Int, (((U.filter fun k => decide (t % (gt J k).2.1 = 0)).map ((fun e : J3 => e.2.2) ∘ fun k => (k, t, (gt J k).1))).sum : Int) = ((U.map (gt J)).map fun j => came j t).sum := fun U => by
    induction U with
    | nil => rfl
    | cons k U ih =>
      rw [List.filter_cons, List.map_cons, List.map_cons, List.sum_cons, ← ih]
      unfold came
      by_cases c : t % (gt J k).2.1 = 0
      · rw [if_pos (decide_eq_true c), if_pos c]; rfl
      · rw [if_neg (by simp [c]), if_neg c]; omega
  rw [key, gt_map]
theorem dem_succ : ∀ {h : List J3}, (∀ j ∈ h, Ok j) → ∀ {t : Int}, 0 ≤ t → dem h (t + 1) = dem h t + (h.map fun j => came j t).sum
  | [], _, t, _ => rfl
  | j :: h, k, t, t0 => by
    have ih := dem_succ (fun i hi => k i (List.mem_cons_of_mem _ hi)) t0 (h := h)
    have a : one j (t + 1) = one j t + came j t := by
      unfold one came
      rw [cd_succ (k j List.mem_cons_self).t0 t0, Int.mul_add]
      split
      · rw [Int.mul_one]
      · rw [Int.mul_zero]
    show one j (t + 1) + dem h (t + 1) = one j t + dem h t + (came j t + (h.map fun j => came j t).sum)
    rw [a, ih]; omega
theorem dem_zero : ∀ h : List J3, dem h 0 = 0
  | [] => rfl
  | j :: h => by
    show one j 0 + dem h 0 = 0
    rw [dem_zero h]; unfold one; rw [cd_zero, Int.mul_zero]; rfl
/-! ## the last of some jobs -/
section
variable {h : List J3} {j : J3}
abbrev JJ (h : List J3) (j : J3) : List J3 := h ++ [j]
theorem gt_last : gt (JJ h j) h.length = j := by unfold gt; simp
structure Pre (h : List J3) (j : J3) (n : Int) (L : List J3) : Prop where
  bd : ∀ e ∈ L, (0 ≤ e.1 ∧ e.1 ≤ h.length) ∧ (0 ≤ e.2.1 ∧ e.2.1 ≤ n) ∧ 1 ≤ e.2.2
  pd : Pd L
  ws : wsum L = j.1 + dem h (n + 1) - n
  me : ∃ w, ((h.length : Int), 0, w) ∈ L
  my : ∀ e ∈ L, e.1 = h.length → e.2.1 = 0
structure InA (h : List J3) (j : J3) (n : Int) (s : Sim) : Prop where
  bd : ∀ e ∈ s.left, (0 ≤ e.1 ∧ e.1 ≤ h.length) ∧ (0 ≤ e.2.1 ∧ e.2.1 < n) ∧ 1 ≤ e.2.2
  pd : Pd s.left
  ws : wsum s.left = j.1 + dem h n - n
  me : ∃ w, ((h.length : Int), 0, w) ∈ s.left
  my : ∀ e ∈ s.left, e.1 = h.length → e.2.1 = 0
  no : ∀ e ∈ s.done, e.1 ≠ h.length
  un : ∀ u, 1 ≤ u → u ≤ n → ¬ j.1 + dem h u ≤ u
def mine (h : List J3) (e : J3) : Bool := decide (e.1 = (h.length : Int)) && decide (e.2.1 = 0)
structure InB (h : List J3) (j : J3) (n : Int) (s : Sim) : Prop where
  le : ∀ e ∈ s.left, mine h e = false
  ex : ∃ R, s.done.filter (mine h) = [((h.length : Int), 0, R)] ∧ 1 ≤ R ∧ R ≤ n ∧ j.1 + dem h R ≤ R ∧ ∀ u, 1 ≤ u → u < R → ¬ j.1 + dem h u ≤ u
theorem pd_app {L M : List J3} (h1 : Pd L) (h2 : Pd M) (h3 : ∀ a ∈ L, ∀ b ∈ M, ¬ (a.1 = b.1 ∧ a.2.1 = b.2.1)) : Pd (L ++ M) := List.pairwise_append.mpr ⟨h1, h2, h3⟩
theorem pre_of (k : ∀ i ∈ h, Ok i) (kj : Ok j) {n : Int} (n1 : 1 ≤ n) (n2 : n < j.2.2) {s : Sim} (a : InA h j n s) : Pre h j n (s.left ++ arr (JJ h j) n) := by
  have al : ∀ e ∈ arr (JJ h j) n, e.1 < h.length := fun e he => by
    obtain ⟨⟨e0, e1⟩, _, _, e3⟩ := arr_mem he
    rw [List.length_append, List.length_singleton] at e1
    by_cases c : e.1 = h.length
    · rw [c, gt_last, Int.emod_eq_of_lt (by omega) (by have := kj.d1; omega)] at e3
      omega
    · omega
  refine ⟨fun e he => ?_, pd_app a.pd (arr_pd _ _) fun x hx y hy => ?_, ?_, ?_, fun e he => ?_⟩
  · rcases List.mem_append.mp he with he | he
    · obtain ⟨b1, b2, b3⟩ := a.bd e he
      exact ⟨b1, ⟨b2.1, by omega⟩, b3⟩
    · have := al e he
      obtain ⟨⟨e0, e1⟩, e2, e3, _⟩ := arr_mem he
      have ok : Ok (gt (JJ h j) e.1) := by
        have m := gt_mem e0 e1
        rcases List.mem_append.mp m with m | m
        · exact k _ m
        · rw [List.mem_singleton.mp m]; exact kj
      exact ⟨⟨e0, by omega⟩, ⟨by omega, by omega⟩, by rw [e3]; exact ok.c0⟩
  · have b := (a.bd x hx).2.1
    have c := (arr_mem hy).2.1
    rintro ⟨_, q⟩
    omega
  · rw [wsum_app, a.ws, arr_sum, List.map_append, List.sum_append, dem_succ k (by omega)]
    have : came j n = 0 := by
      unfold came
      rw [if_neg]
      rw [Int.emod_eq_of_lt (by omega) (by have := kj.d1; omega)]; omega
    simp [this]
    omega
  · obtain ⟨w, hw⟩ := a.me
    exact ⟨w, List.mem_append_left _ hw⟩
  · rcases List.mem_append.mp he with he | he
    · exact a.my e he
    · intro q
      have := al e he
      omega
theorem pre_0 (k : ∀ i ∈ h, Ok i) (kj : Ok j) : Pre h j 0 ([] ++ arr (JJ h j) 0) := by
  rw [List.nil_append]
  refine ⟨fun e he => ?_, arr_pd _ _, ?_, ⟨j.1, ?_⟩, fun e he _ => (arr_mem he).2.1⟩
  · obtain ⟨⟨e0, e1⟩, e2, e3, _⟩ := arr_mem he
    have ok : Ok (gt (JJ h j) e.1) := by
      have m := gt_mem e0 e1
      rcases List.mem_append.mp m with m | m
      · exact k _ m
      · rw [List.mem_singleton.mp m]; exact kj
    rw [List.length_append, List.length_singleton] at e1
    exact ⟨⟨e0, by omega⟩, ⟨by omega, by omega⟩, by rw [e3]; exact ok.c0⟩
  · rw [arr_sum, List.map_append, List.sum_append, dem_succ k (Int.le_refl 0), dem_zero]
    have : came j 0 = j.1 := by unfold came; rw [if_pos (by simp)]
    simp [this]
    omega
  · have := arr_in (J := JJ h j) (t := 0) (k := h.length) (by omega) (by simp; omega) (by simp)
    rwa [gt_last] at this
theorem step_A {n : Int} (n0 : 0 ≤ n) {L : List J3} (p : Pre h j n L) (row : List (Option Int)) {done : List J3} (no : ∀ e ∈ done, e.1 ≠ h.length) (un : ∀ u, 1 ≤ u → u ≤ n → ¬ j.1 + dem h u ≤ u) :
    InA h j (n + 1) (stepL L row done n) ∨ InB h j (n + 1) (stepL L row done n) := by
  obtain ⟨w0, hw0⟩ := p.me
  have ne : L ≠ [] := fun e => by rw [e] at hw0; cases hw0
  obtain ⟨mm, ml⟩ := mnT_spec ne
  unfold stepL
  rw [if_neg ne]
  generalize mnT L = m at *
  have ws := wsum_filter p.pd mm
  obtain ⟨⟨m0, m1⟩, ⟨m2, m3⟩, m4⟩ := p.bd m mm
  have fm : ∀ e ∈ L.filter (fun e => !decide (e = m)), e ∈ L ∧ e ≠ m := fun e he => by
    obtain ⟨h1, h2⟩ := List.mem_filter.mp he
    exact ⟨h1, by simpa using h2⟩
  have fpd : Pd (L.filter fun e => !decide (e = m)) := List.Pairwise.sublist List.filter_sublist p.pd
  by_cases last : m.1 = h.length
  · -- only this one is left
    have all : ∀ e ∈ L, e = m := fun e he => by
      have lt := ml e he
      have b := p.bd e he
      unfold Rt.lt3 at lt
      rw [decide_eq_false_iff_not] at lt
      have e1 : e.1 = h.length := by omega
      exact pd_inj p.pd he mm (by omega) (by rw [p.my e he e1, p.my m mm last])
    have em : L.filter (fun e => !decide (e = m)) = [] := List.filter_eq_nil_iff.mpr fun e he => by simp [all e he]
    rw [em] at ws ⊢
    have wm : wsum L = m.2.2 := by
      have : wsum [] = 0 := rfl
      omega
    have my := p.my m mm last
    have pw := p.ws
    by_cases c : 1 < m.2.2
    · left
      rw [if_pos c]
      refine ⟨fun e he => ?_, List.pairwise_singleton _ _, ?_, ⟨m.2.2 - 1, ?_⟩, fun e he _ => ?_, no, fun u u0 u1 => ?_⟩
      · have : e = (m.1, m.2.1, m.2.2 - 1) := by simpa using he
        subst this
        refine ⟨⟨m0, m1⟩, ⟨m2, ?_⟩, ?_⟩
        · show m.2.1 < n + 1; omega
        · show 1 ≤ m.2.2 - 1; omega
      · show m.2.2 - 1 + 0 = _; omega
      · show _ ∈ [(m.1, m.2.1, m.2.2 - 1)]
        rw [last, my]; exact List.mem_singleton.mpr rfl
      · have : e = (m.1, m.2.1, m.2.2 - 1) := by simpa using he
        subst this
        exact my
      · by_cases q : u ≤ n
        · exact un u u0 q
        · have : u = n + 1 := by omega
          subst this
          omega
    · right
      rw [if_neg c]
      have sol : j.1 + dem h (n + 1) ≤ n + 1 := by omega
      refine ⟨(fun e he => by cases he), n + 1, ?_, by omega, by omega, sol, fun u u0 u1 => un u u0 (by omega)⟩
      show (done ++ [(m.1, m.2.1, n + 1)]).filter (mine h) = _
      have : done.filter (mine h) = [] := List.filter_eq_nil_iff.mpr fun e he => by simp [mine, no e he]
      rw [List.filter_append, this, last, my, List.nil_append, List.filter_cons, if_pos (by simp [mine])]
      rfl
  · left
    have hw : ((h.length : Int), 0, w0) ∈ L.filter (fun e => !decide (e = m)) := List.mem_filter.mpr ⟨hw0, by
      have : ((h.length : Int), (0 : Int), w0) ≠ m := fun q => last (by rw [← q])
      simp [this]⟩
    have pw := p.ws
    by_cases c : 1 < m.2.2
    · rw [if_pos c]
      have nw : wsum (L.filter (fun e => !decide (e = m)) ++ [(m.1, m.2.1, m.2.2 - 1)]) = j.1 + dem h (n + 1) - (n + 1) := by
        rw [wsum_app, ws]; show _ + (m.2.2 - 1 + 0) = _; omega
      have bd : ∀ e ∈ L.filter (fun e => !decide (e = m)) ++ [(m.1, m.2.1, m.2.2 - 1)], (0 ≤ e.1 ∧ e.1 ≤ h.length) ∧ (0 ≤ e.2.1 ∧ e.2.1 < n + 1) ∧ 1 ≤ e.2.2 := fun e he => by
        rcases List.mem_append.mp he with he | he
        · obtain ⟨b1, b2, b3⟩ := p.bd e (fm e he).1
          exact ⟨b1, ⟨b2.1, by omega⟩, b3⟩
        · have : e = (m.1, m.2.1, m.2.2 - 1) := by simpa using he
          subst this
          refine ⟨⟨m0, m1⟩, ⟨m2, ?_⟩, ?_⟩
          · show m.2.1 < n + 1; omega
          · show 1 ≤ m.2.2 - 1; omega
      have wg := wsum_ge (fun e he => (bd e he).2.2) (List.mem_append_left [(m.1, m.2.1, m.2.2 - 1)] hw)
      have w1 := (bd _ (List.mem_append_left _ hw)).2.2
      refine ⟨bd, pd_app fpd (List.pairwise_singleton _ _) fun a ha b hb => ?_, nw, ⟨w0, List.mem_append_left _ hw⟩, fun e he => ?_, no, fun u u0 u1 => ?_⟩
      · have : b = (m.1, m.2.1, m.2.2 - 1) := by simpa using hb
        subst this
        rintro ⟨q1, q2⟩
        exact (fm a ha).2 (pd_inj p.pd (fm a ha).1 mm q1 q2)
      · rcases List.mem_append.mp he with he | he
        · exact p.my e (fm e he).1
        · have : e = (m.1, m.2.1, m.2.2 - 1) := by simpa using he
          subst this
          intro q
          exact (last q).elim
      · by_cases q : u ≤ n
        · exact un u u0 q
        · have : u = n + 1 := by omega
          subst this
          have w1' : 1 ≤ w0 := w1
          have wg' : w0 ≤ _ := wg
          omega
    · rw [if_neg c]
      have nw : wsum (L.filter (fun e => !decide (e = m))) = j.1 + dem h (n + 1) - (n + 1) := by rw [ws]; omega
      have bd : ∀ e ∈ L.filter (fun e => !decide (e = m)), (0 ≤ e.1 ∧ e.1 ≤ h.length) ∧ (0 ≤ e.2.1 ∧ e.2.1 < n + 1) ∧ 1 ≤ e.2.2 := fun e he => by
        obtain ⟨b1, b2, b3⟩ := p.bd e (fm e he).1
        exact ⟨b1, ⟨b2.1, by omega⟩, b3⟩
      have wg := wsum_ge (fun e he => (bd e he).2.2) hw
      have w1 := (bd _ hw).2.2
      refine ⟨bd, fpd, nw, ⟨w0, hw⟩, fun e he => p.my e (fm e he).1, fun e he => ?_, fun u u0 u1 => ?_⟩
      · rcases List.mem_append.mp he with he | he
        · exact no e he
        · have : e = (m.1, m.2.1, n + 1) := by simpa using he
          subst this
          exact last
      · by_cases q : u ≤ n
        · exact un u u0 q
        · have : u = n + 1 := by omega
          subst this
          have w1' : 1 ≤ w0 := w1
          have wg' : w0 ≤ j.1 + dem h (n + 1) - (n + 1) := by rw [← nw]; exact wg
          omega
theorem step_B {n : Int} (n1 : 1 ≤ n) {s : Sim} (b : InB h j n s) : InB h j (n + 1) (stepL (s.left ++ arr (JJ h j) n) s.row s.done n) := by
  have al : ∀ e ∈ s.left ++ arr (JJ h j) n, mine h e = false := fun e he => by
    rcases List.mem_append.mp he with he | he
    · exact b.le e he
    · have := (arr_mem he).2.1
      unfold mine
      rw [decide_eq_false (by omega : ¬ e.2.1 = 0), Bool.and_false]
  obtain ⟨R, e1, e2, e3, e4, e5⟩ := b.ex
  generalize s.left ++ arr (JJ h j) n = L at *
  unfold stepL
  by_cases ne : L = []
  · rw [if_pos ne]
    exact ⟨(fun e he => by cases he), R, e1, e2, by omega, e4, e5⟩
  · rw [if_neg ne]
    have mm := al _ (mnT_spec ne).1
    generalize mnT L = m at *
    have fl : ∀ e ∈ L.filter (fun e => !decide (e = m)), mine h e = false := fun e he => al e (List.mem_filter.mp he).1
    by_cases c : 1 < m.2.2
    · rw [if_pos c]
      refine ⟨fun e he => ?_, R, e1, e2, by omega, e4, e5⟩
      rcases List.mem_append.mp he with he | he
      · exact fl e he
      · have : e = (m.1, m.2.1, m.2.2 - 1) := by simpa using he
        subst this
        exact mm
    · rw [if_neg c]
      refine ⟨fl, R, ?_, e2, by omega, e4, e5⟩
      show (s.done ++ [(m.1, m.2.1, n + 1)]).filter (mine h) = _
      have : mine h (m.1, m.2.1, n + 1) = false := mm
      rw [List.filter_append, e1, List.filter_cons, this]; simp
theorem sim_in (k : ∀ i ∈ h, Ok i) (kj : Ok j) : ∀ n : Nat, 1 ≤ n → (n : Int) ≤ j.2.2 → InA h j n (sim (JJ h j) n) ∨ InB h j n (sim (JJ h j) n)
  | 0, h0, _ => by omega
  | 1, _, _ => step_A (n := 0) (Int.le_refl 0) (pre_0 k kj) [] (fun e he => by cases he) (fun u u0 u1 => by omega)
  | n + 2, _, hd => by
    have ih := sim_in k kj (n + 1) (by omega) (by omega)
    have e : sim (JJ h j) (n + 2) = stepL ((sim (JJ h j) (n + 1)).left ++ arr (JJ h j) ((n + 1 : Nat) : Int)) (sim (JJ h j) (n + 1)).row (sim (JJ h j) (n + 1)).done ((n + 1 : Nat) : Int) := rfl
    rw [e, show ((n + 2 : Nat) : Int) = ((n + 1 : Nat) : Int) + 1 by omega]
    rcases ih with a | b
    · exact step_A (by omega) (pre_of k kj (by omega) (by omega) a) _ a.no a.un
    · exact .inr (step_B (by omega) b)
/-- the answer, told minute by minute -/
theorem sim_ans (k : ∀ i ∈ h, Ok i) (kj : Ok j) : ((sim (JJ h j) j.2.2.toNat).done.filter (mine h)).map (fun e => e.2.2) = (match ansO h j with | some R => [R] | none => []) := by
  have d0 := kj.d0
  rcases sim_in k kj j.2.2.toNat (by omega) (by omega) with a | b
  · have : (sim (JJ h j) j.2.2.toNat).done.filter (mine h) = [] := List.filter_eq_nil_iff.mpr fun e he => by simp [mine, a.no e he]
    rw [this, (ans_none d0).mpr fun t t0 t1 => a.un t t0 (by omega)]; rfl
  · obtain ⟨R, e1, e2, e3, e4, e5⟩ := b.ex
    rw [e1, ans_some e2 (by omega) e4 e5]; rfl
end
end K08
end
section
set_option linter.all false
set_option autoImplicit false
set_option Elab.async false
namespace K08
open Rt (upto)
/-! ## answers of all jobs -/
def ansL (J : List J3) : List (Option Int) := (upto 0 J.length).map fun k => ansO (J.take k.toNat) (gt J k)
def inT (J : List J3) : Bool := (ansL J).all fun a => a.isSome
theorem inT_iff {J : List J3} : inT J = true ↔ ∀ a x b, J = a ++ x :: b → (ansO a x).isSome = true := by
  unfold inT ansL
  rw [List.all_eq_true]
  constructor
  · intro h a x b e
    have := h (ansO (J.take a.length) (gt J a.length)) (List.mem_map.mpr ⟨(a.length : Int), up_mem.mpr ⟨by omega, by rw [e]; simp; omega⟩, by rw [Int.toNat_natCast]⟩)
    have g : gt J a.length = x := by rw [e]; unfold gt; simp
    have t : J.take a.length = a := by rw [e]; simp
    rwa [g, t] at this
  · intro h r hr
    obtain ⟨k, hk, rfl⟩ := List.mem_map.mp hr
    have hk := up_mem.mp hk
    refine h _ _ (J.drop (k.toNat + 1)) ?_
    have l : k.toNat < J.length := by omega
    have e := List.take_append_drop k.toNat J
    rw [List.drop_eq_getElem_cons l] at e
    rw [← e]
    unfold gt
    rw [e, List.getD_eq_getElem?_getD, List.getElem?_eq_getElem l]
    exact e.symm
theorem some_iff {h : List J3} {j : J3} (d0 : 1 ≤ j.2.2) : (ansO h j).isSome = true ↔ ∃ t, 1 ≤ t ∧ t ≤ j.2.2 ∧ j.1 + dem h t ≤ t := by
  cases e : ansO h j with
  | none =>
    have := (ans_none d0).mp e
    constructor
    · intro q; cases q
    · rintro ⟨t, t0, t1, t2⟩
      exact (this t t0 t1 t2).elim
  | some R =>
    constructor
    · intro _
      unfold ansO at e
      have a := List.mem_of_find?_eq_some e
      have b := List.find?_some e
      have := up_mem.mp a
      exact ⟨R, this.1, by omega, of_decide_eq_true b⟩
    · intro _; rfl
/-! ## sums over lists without doubles -/
theorem sum_cons (f : Int → Int) (k : Int) (A : List Int) : ((k :: A).map f).sum = f k + (A.map f).sum := rfl
theorem sum_app (f : Int → Int) : ∀ A B : List Int, ((A ++ B).map f).sum = (A.map f).sum + (B.map f).sum
  | [], B => by simp
  | a :: A, B => by rw [List.cons_append, sum_cons, sum_cons, sum_app f A B]; omega
theorem sum_sub {f : Int → Int} : ∀ (A B : List Int), A.Nodup → (∀ x ∈ A, x ∈ B) → (∀ x ∈ B, 0 ≤ f x) → (A.map f).sum ≤ (B.map f).sum
  | [], B, _, _, h => by
    induction B with
    | nil => exact Int.le_refl _
    | cons b B ih =>
      have := ih (by simp) fun x hx => h x (List.mem_cons_of_mem _ hx)
      have := h b List.mem_cons_self
      have e : (([] : List Int).map f).sum = 0 := rfl
      rw [sum_cons]; omega
  | a :: A, B, n, s, h => by
    obtain ⟨n1, n2⟩ := List.nodup_cons.mp n
    obtain ⟨B1, B2, rfl⟩ := List.append_of_mem (s a List.mem_cons_self)
    have ih := sum_sub A (B1 ++ B2) n2 (fun x hx => by
      have := s x (List.mem_cons_of_mem _ hx)
      rcases List.mem_append.mp this with q | q
      · exact List.mem_append_left _ q
      · rcases List.mem_cons.mp q with rfl | q
        · exact (n1 hx).elim
        · exact List.mem_append_right _ q) fun x hx => h x (by
      rcases List.mem_append.mp hx with q | q
      · exact List.mem_append_left _ q
      · exact List.mem_append_right _ (List.mem_cons_of_mem _ q))
    rw [sum_app] at ih
    rw [sum_cons, sum_app, sum_cons]; omega
theorem sum_out {f : Int → Int} : ∀ (A : List Int) (b : Int), A.Nodup → b ∈ A → (A.map f).sum = f b + ((A.filter fun x => !decide (x = b)).map f).sum
  | a :: A, b, n, hb => by
    obtain ⟨n1, n2⟩ := List.nodup_cons.mp n
    rw [List.filter_cons]
    by_cases c : a = b
    · subst c
      have : A.filter (fun x => !decide (x = a)) = A := List.filter_eq_self.mpr fun x hx => by
        have : x ≠ a := fun q => n1 (q ▸ hx)
        simp [this]
      rw [if_neg (by simp), this, sum_cons]
    · rcases List.mem_cons.mp hb with q | hb
      · exact (c q.symm).elim
      · rw [if_pos (by simp [c]), sum_cons, sum_cons, sum_out A b n2 hb]; omega
theorem last_in : ∀ (r S : List Int), S ≠ [] → (∀ x ∈ S, x ∈ r) → ∃ u b v, r.reverse = u ++ b :: v ∧ b ∈ S ∧ ∀ x ∈ S, x ≠ b → x ∈ u
  | [], S, ne, s => by
    obtain ⟨x, S, rfl⟩ := List.exists_cons_of_ne_nil ne
    exact absurd (s x List.mem_cons_self) (by simp)
  | x :: r, S, ne, s => by
    by_cases c : x ∈ S
    · exact ⟨r.reverse, x, [], by simp, c, fun y hy q => by
        rcases List.mem_cons.mp (s y hy) with e | h
        · exact (q e).elim
        · exact List.mem_reverse.mpr h⟩
    · obtain ⟨u, b, v, e, h1, h2⟩ := last_in r S ne fun y hy => by
        rcases List.mem_cons.mp (s y hy) with rfl | h
        · exact (c hy).elim
        · exact h
      exact ⟨u, b, v ++ [x], by rw [List.reverse_cons, e]; simp, h1, h2⟩
/-! ## the order by deadlines -/
def oneO (J : List J3) (t : Int) (k : Int) : Int := one (gt J k) t
theorem demO (J : List J3) (u : List Int) (t : Int) : dem (u.map (gt J)) t = (u.map (oneO J t)).sum := by
  unfold dem
  rw [List.map_map]; rfl
theorem by_deadline {J : List J3} (ok : ∀ j ∈ J, Ok j) {o p : List Int} (np : p.Nodup) (ro : ∀ k ∈ o, 0 ≤ k ∧ k < J.length) (sub : ∀ k ∈ p, k ∈ o)
    (st : p.Pairwise fun a b => (gt J a).2.2 ≤ (gt J b).2.2) (f : inT (o.map (gt J)) = true) : inT (p.map (gt J)) = true := by
  have okk : ∀ k ∈ o, Ok (gt J k) := fun k hk => ok _ (gt_mem (ro k hk).1 (ro k hk).2)
  rw [inT_iff] at f ⊢
  intro a' x' b' e
  obtain ⟨a, r, e1, e2, e3⟩ := List.map_eq_append_iff.mp e
  obtain ⟨k, c, e4, e5, e6⟩ := List.map_eq_cons_iff.mp e3
  subst e2 e5
  subst e4
  have nap := List.nodup_append.mp (e1 ▸ np)
  have nk : k ∉ a := fun h => nap.2.2 k h k List.mem_cons_self rfl
  have sp := List.pairwise_append.mp (e1 ▸ st)
  have ko : k ∈ o := sub k (by rw [e1]; simp)
  have ao : ∀ x ∈ a, x ∈ o := fun x hx => sub x (by rw [e1]; exact List.mem_append_left _ hx)
  obtain ⟨u, b, v, eo, bS, uS⟩ := last_in o.reverse (a ++ [k]) (by simp) fun x hx => List.mem_reverse.mpr (by
    rcases List.mem_append.mp hx with h | h
    · exact ao x h
    · rw [List.mem_singleton.mp h]; exact ko)
  rw [List.reverse_reverse] at eo
  have bo : b ∈ o := by rw [eo]; simp
  have uo : ∀ x ∈ u, x ∈ o := fun x hx => by rw [eo]; exact List.mem_append_left _ hx
  have fb := f (u.map (gt J)) (gt J b) (v.map (gt J)) (by rw [eo]; simp)
  rw [some_iff (okk b bo).d0] at fb
  obtain ⟨t, t0, t1, t2⟩ := fb
  rw [some_iff (okk k ko).d0]
  rw [demO] at t2
  have nn : ∀ x ∈ u, 0 ≤ oneO J t x := fun x hx => one_nn (okk x (uo x hx)) (by omega)
  by_cases c : b = k
  · subst c
    refine ⟨t, t0, t1, ?_⟩
    rw [demO]
    have := sum_sub a u nap.1 (fun x hx => uS x (List.mem_append_left _ hx) fun q => nk (q ▸ hx)) nn
    omega
  · have ba : b ∈ a := by
      rcases List.mem_append.mp bS with h | h
      · exact h
      · exact (c (List.mem_singleton.mp h)).elim
    have db : (gt J b).2.2 ≤ (gt J k).2.2 := sp.2.2 b ba k List.mem_cons_self
    refine ⟨t, t0, by omega, ?_⟩
    rw [demO, sum_out a b nap.1 ba]
    have s := sum_sub ((a.filter fun x => !decide (x = b)) ++ [k]) u (List.nodup_append.mpr ⟨nap.1.sublist List.filter_sublist, by simp, fun x hx y hy q => by
      have := (List.mem_filter.mp hx).1
      rw [q, List.mem_singleton.mp hy] at this
      exact nk this⟩) (fun x hx => by
      rcases List.mem_append.mp hx with h | h
      · obtain ⟨h1, h2⟩ := List.mem_filter.mp h
        exact uS x (List.mem_append_left _ h1) (by simpa using h2)
      · rw [List.mem_singleton.mp h]
        exact uS k (by simp) (fun q => c q.symm)) nn
    rw [sum_app] at s
    have e1 : ([k].map (oneO J t)).sum = oneO J t k := by simp
    have okb := okk b bo
    have ek := okk k ko
    have ob : oneO J t b = (gt J b).1 := by
      unfold oneO one
      rw [cd_one okb.t0 t0 (by have := okb.d1; omega), Int.mul_one]
    have ok1 : (gt J k).1 ≤ oneO J t k := by
      unfold oneO one
      have := cd_pos ek.t0 t0
      have := Int.mul_le_mul_of_nonneg_left this (show 0 ≤ (gt J k).1 by have := ek.c0; omega)
      rw [Int.mul_one] at this
      exact this
    omega
/-! ## the bound by the product -/
abbrev Q2 := Int × Int
def NP : List Q2 → Int
  | [] => 1
  | q :: L => (q.2 + q.1) * NP L
def DP : List Q2 → Int
  | [] => 1
  | q :: L => q.2 * DP L
def SC : List Q2 → Int
  | [] => 0
  | q :: L => q.1 + SC L
theorem NP_pos : ∀ {L : List Q2}, (∀ q ∈ L, 1 ≤ q.1 ∧ 1 ≤ q.2) → 0 < NP L
  | [], _ => by decide
  | q :: L, h => Int.mul_pos (by have := h q List.mem_cons_self; omega) (NP_pos fun r hr => h r (List.mem_cons_of_mem _ hr))
theorem DP_pos : ∀ {L : List Q2}, (∀ q ∈ L, 1 ≤ q.1 ∧ 1 ≤ q.2) → 0 < DP L
  | [], _ => by decide
  | q :: L, h => Int.mul_pos (by have := h q List.mem_cons_self; omega) (DP_pos fun r hr => h r (List.mem_cons_of_mem _ hr))
theorem SC_nn : ∀ {L : List Q2}, (∀ q ∈ L, 1 ≤ q.1 ∧ 1 ≤ q.2) → 0 ≤ SC L
  | [], _ => by decide
  | q :: L, h => by
    have := h q List.mem_cons_self
    have := SC_nn (L := L) fun r hr => h r (List.mem_cons_of_mem _ hr)
    show 0 ≤ q.1 + SC L; omega
theorem tele : ∀ (L : List Q2) (P : Int), 1 ≤ P → (∀ q ∈ L, 1 ≤ q.1 ∧ 1 ≤ q.2) → (∀ a y b, L = a ++ y :: b → y.2 < P + SC a) → DP L * (P + SC L) ≤ NP L * P ∧ (L ≠ [] → DP L * (P + SC L) < NP L * P)
  | [], P, _, _, _ => ⟨by simp [DP, NP, SC], fun h => (h rfl).elim⟩
  | q :: L, P, p1, h, k => by
    obtain ⟨q1, q2⟩ := h q List.mem_cons_self
    have h' := fun r hr => h r (List.mem_cons_of_mem _ hr)
    have np := NP_pos h'
    have ih := (tele L (P + q.1) (by omega) h' fun a y b e => by
      have := k (q :: a) y b (by rw [e]; rfl)
      have e2 : SC (q :: a) = q.1 + SC a := rfl
      omega).1
    have k0 := k [] q L rfl
    have k0 : q.2 < P := by have e : SC [] = 0 := rfl; omega
    have s : DP (q :: L) * (P + SC (q :: L)) < NP (q :: L) * P := by
      show q.2 * DP L * (P + (q.1 + SC L)) < (q.2 + q.1) * NP L * P
      have a1 : q.2 * DP L * (P + (q.1 + SC L)) ≤ q.2 * (NP L * (P + q.1)) := by
        rw [Int.mul_assoc, ← Int.add_assoc]
        exact Int.mul_le_mul_of_nonneg_left ih (by omega)
      have a2 : q.2 * (P + q.1) < (q.2 + q.1) * P := by
        have := Int.mul_lt_mul_of_pos_left k0 (show 0 < q.1 by omega)
        rw [Int.mul_add, Int.add_mul, Int.mul_comm q.2 q.1]; omega
      have a3 := Int.mul_lt_mul_of_pos_left a2 np
      have e1 : q.2 * (NP L * (P + q.1)) = NP L * (q.2 * (P + q.1)) := by rw [← Int.mul_assoc, ← Int.mul_assoc, Int.mul_comm q.2]
      have e2 : (q.2 + q.1) * NP L * P = NP L * ((q.2 + q.1) * P) := by rw [Int.mul_comm (q.2 + q.1), Int.mul_assoc]
      omega
    exact ⟨by omega, fun _ => s⟩
theorem NP_perm {L M : List Q2} (h : L.Perm M) : NP L = NP M := by
  induction h with
  | nil => rfl
  | cons x _ ih => show _ * _ = _ * _; rw [ih]
  | swap x y l => show (y.2 + y.1) * ((x.2 + x.1) * NP l) = (x.2 + x.1) * ((y.2 + y.1) * NP l); rw [← Int.mul_assoc, ← Int.mul_assoc, Int.mul_comm (y.2 + y.1)]
  | trans _ _ a b => rw [a, b]
theorem DP_perm {L M : List Q2} (h : L.Perm M) : DP L = DP M := by
  induction h with
  | nil => rfl
  | cons x _ ih => show _ * _ = _ * _; rw [ih]
  | swap x y l => show y.2 * (x.2 * DP l) = x.2 * (y.2 * DP l); rw [← Int.mul_assoc, ← Int.mul_assoc, Int.mul_comm y.2]
  | trans _ _ a b => rw [a, b]
theorem SC_perm {L M : List Q2} (h : L.Perm M) : SC L = SC M := by
  induction h with
  | nil => rfl
  | cons x _ ih => show _ + _ = _ + _; rw [ih]
  | swap x y l => show y.1 + (x.1 + SC l) = x.1 + (y.1 + SC l); omega
  | trans _ _ a b => rw [a, b]
theorem SC_app : ∀ L M : List Q2, SC (L ++ M) = SC L + SC M
  | [], M => by show SC M = 0 + SC M; omega
  | q :: L, M => by show q.1 + SC (L ++ M) = q.1 + SC L + SC M; rw [SC_app L M]; omega
theorem SC_filter : ∀ {L : List Q2} (p : Q2 → Bool), (∀ q ∈ L, 1 ≤ q.1 ∧ 1 ≤ q.2) → SC (L.filter p) ≤ SC L
  | [], p, _ => Int.le_refl _
  | q :: L, p, h => by
    have ih := SC_filter (L := L) p fun r hr => h r (List.mem_cons_of_mem _ hr)
    have := h q List.mem_cons_self
    rw [List.filter_cons]
    have e : SC (q :: L) = q.1 + SC L := rfl
    split
    · show q.1 + SC (L.filter p) ≤ _; omega
    · omega
/-- any list with its points overfull -/
theorem over {Q : List Q2} (hq : ∀ q ∈ Q, 1 ≤ q.1 ∧ 1 ≤ q.2) (ne : Q ≠ []) (h : ∀ y ∈ Q, y.2 < SC Q + SC (Q.filter fun q => decide (q.2 < y.2))) : 2 * DP Q < NP Q := by
  have pm := List.mergeSort_perm Q (fun a b : Q2 => decide (a.2 ≤ b.2))
  have so : (Q.mergeSort fun a b : Q2 => decide (a.2 ≤ b.2)).Pairwise fun a b => decide (a.2 ≤ b.2) = true := List.pairwise_mergeSort (fun a b c h1 h2 => by simp at *; omega) (fun a b => by simp; omega) Q
  generalize Q.mergeSort (fun a b : Q2 => decide (a.2 ≤ b.2)) = M at *
  have hm : ∀ q ∈ M, 1 ≤ q.1 ∧ 1 ≤ q.2 := fun q hq' => hq q (pm.mem_iff.mp hq')
  have nm : M ≠ [] := fun e => by
    subst e
    exact ne (List.perm_nil.mp pm.symm)
  have sc1 : 1 ≤ SC M := by
    obtain ⟨q, M', rfl⟩ := List.exists_cons_of_ne_nil nm
    have a := (hm q List.mem_cons_self).1
    have b := SC_nn (L := M') fun r hr => hm r (List.mem_cons_of_mem _ hr)
    show 1 ≤ q.1 + SC M'; omega
  rw [← NP_perm pm, ← DP_perm pm]
  have t := (tele M (SC M) sc1 hm fun a y b e => by
    have hy := h y (pm.mem_iff.mp (by rw [e]; simp))
    rw [← SC_perm pm, ← SC_perm (pm.filter _)] at hy
    have fe : SC (M.filter fun q => decide (q.2 < y.2)) ≤ SC a := by
      rw [e] at so
      obtain ⟨s1, s2, s3⟩ := List.pairwise_append.mp so
      obtain ⟨s4, s5⟩ := List.pairwise_cons.mp s2
      have fb : b.filter (fun q => decide (q.2 < y.2)) = [] := List.filter_eq_nil_iff.mpr fun q hq' => by
        have := s4 q hq'
        simp at this ⊢
        omega
      rw [e, List.filter_append, List.filter_cons, if_neg (by simp), fb, List.append_nil]
      exact SC_filter _ fun q hq' => hm q (by rw [e]; exact List.mem_append_left _ hq')
    omega).2 nm
  have e : DP M * (SC M + SC M) = 2 * DP M * SC M := by rw [← Int.two_mul, ← Int.mul_assoc, Int.mul_comm (DP M) 2]
  rw [e] at t
  exact Int.lt_of_mul_lt_mul_right t (by omega)
def jq (j : J3) : Q2 := (j.1, j.2.1)
def pq (T : Int) (j : J3) : Q2 := (T / j.2.1 * j.1, T / j.2.1 * j.2.1)
theorem scale {T : Int} : ∀ (L : List J3), (∀ j ∈ L, 1 ≤ T / j.2.1) → ∃ M, 1 ≤ M ∧ NP (L.map (pq T)) = M * NP (L.map jq) ∧ DP (L.map (pq T)) = M * DP (L.map jq)
  | [], _ => ⟨1, by decide, rfl, rfl⟩
  | j :: L, h => by
    obtain ⟨M, m1, m2, m3⟩ := scale L fun i hi => h i (List.mem_cons_of_mem _ hi)
    have hj := h j List.mem_cons_self
    refine ⟨T / j.2.1 * M, ?_, ?_, ?_⟩
    · have := Int.mul_le_mul hj m1 (by decide) (by omega)
      simpa using this
    · show (T / j.2.1 * j.2.1 + T / j.2.1 * j.1) * NP (L.map (pq T)) = T / j.2.1 * M * ((j.2.1 + j.1) * NP (L.map jq))
      rw [m2, ← Int.mul_add, Int.mul_assoc, Int.mul_assoc]
      congr 1
      rw [← Int.mul_assoc, ← Int.mul_assoc, Int.mul_comm (j.2.1 + j.1) M]
    · show T / j.2.1 * j.2.1 * DP (L.map (pq T)) = T / j.2.1 * M * (j.2.1 * DP (L.map jq))
      rw [m3, Int.mul_assoc, Int.mul_assoc]
      congr 1
      rw [← Int.mul_assoc, ← Int.mul_assoc, Int.mul_comm j.2.1 M]
theorem SC_dem {T t : Int} (tT : t ≤ T) : ∀ (h : List J3), (∀ j ∈ h, Ok j ∧ j.2.1 ≤ T) → dem h t ≤ SC (h.map (pq T)) + SC ((h.map (pq T)).filter fun q => decide (q.2 < t))
  | [], _ => Int.le_refl _
  | j :: h, k => by
    have ih := SC_dem tT h fun i hi => k i (List.mem_cons_of_mem _ hi)
    obtain ⟨ok, le⟩ := k j List.mem_cons_self
    have t0 := ok.t0
    have c0 := ok.c0
    have m1 : 1 ≤ T / j.2.1 := (Int.le_ediv_iff_mul_le (by omega)).mpr (by omega)
    have up : T < (T / j.2.1 + 1) * j.2.1 := Int.lt_ediv_add_one_mul_self T (by omega)
    have e1 : SC ((j :: h).map (pq T)) = T / j.2.1 * j.1 + SC (h.map (pq T)) := rfl
    have e2 : dem (j :: h) t = one j t + dem h t := rfl
    have c1 : j.1 ≤ T / j.2.1 * j.1 := by
      have := Int.mul_le_mul_of_nonneg_right m1 (show 0 ≤ j.1 by omega)
      omega
    rw [List.map_cons, List.filter_cons]
    show dem (j :: h) t ≤ _
    rw [e2]
    by_cases c : T / j.2.1 * j.2.1 < t
    · rw [if_pos (show decide ((pq T j).2 < t) = true from decide_eq_true c)]
      have a := cd_le (m := T / j.2.1 + 1) t0 (by omega : t ≤ (T / j.2.1 + 1) * j.2.1)
      have b : one j t ≤ j.1 * (T / j.2.1 + 1) := Int.mul_le_mul_of_nonneg_left a (by omega)
      rw [Int.mul_add, Int.mul_one, Int.mul_comm] at b
      show one j t + dem h t ≤ (T / j.2.1 * j.1 + SC (h.map (pq T))) + (T / j.2.1 * j.1 + SC ((h.map (pq T)).filter fun q => decide (q.2 < t)))
      omega
    · rw [if_neg (show ¬ decide ((pq T j).2 < t) = true from fun q => c (of_decide_eq_true q))]
      have a := cd_le (m := T / j.2.1) t0 (by omega : t ≤ T / j.2.1 * j.2.1)
      have b : one j t ≤ j.1 * (T / j.2.1) := Int.mul_le_mul_of_nonneg_left a (by omega)
      rw [Int.mul_comm] at b
      show one j t + dem h t ≤ (T / j.2.1 * j.1 + SC (h.map (pq T))) + SC ((h.map (pq T)).filter fun q => decide (q.2 < t))
      omega
theorem hyper {h : List J3} {x : J3} (k : ∀ j ∈ h, Ok j ∧ j.2.1 ≤ x.2.1) (kx : Ok x) (bad : ∀ t, 1 ≤ t → t ≤ x.2.1 → ¬ x.1 + dem h t ≤ t) : 2 * DP ((h ++ [x]).map jq) < NP ((h ++ [x]).map jq) := by
  have tx := kx.t0
  have m : ∀ j ∈ h ++ [x], Ok j ∧ 1 ≤ x.2.1 / j.2.1 := fun j hj => by
    rcases List.mem_append.mp hj with hj | hj
    · obtain ⟨a, b⟩ := k j hj
      have := a.t0
      exact ⟨a, (Int.le_ediv_iff_mul_le (by omega)).mpr (by omega)⟩
    · rw [List.mem_singleton.mp hj]
      exact ⟨kx, by rw [Int.ediv_self (by omega)]; decide⟩
  have px : pq x.2.1 x = (x.1, x.2.1) := by
    unfold pq
    rw [Int.ediv_self (by omega), Int.one_mul, Int.one_mul]
  have o := over (Q := (h ++ [x]).map (pq x.2.1)) (fun q hq => by
    obtain ⟨j, hj, rfl⟩ := List.mem_map.mp hq
    obtain ⟨a, b⟩ := m j hj
    have c0 := a.c0
    have t0 := a.t0
    constructor
    · show 1 ≤ x.2.1 / j.2.1 * j.1
      have := Int.mul_le_mul b c0 (by decide) (by omega)
      simpa using this
    · show 1 ≤ x.2.1 / j.2.1 * j.2.1
      have := Int.mul_le_mul b t0 (by decide) (by omega)
      simpa using this) (by simp) (fun y hy => by
    obtain ⟨j, hj, rfl⟩ := List.mem_map.mp hy
    obtain ⟨a, b⟩ := m j hj
    have t0 := a.t0
    have y1 : 1 ≤ x.2.1 / j.2.1 * j.2.1 := by
      have := Int.mul_le_mul b t0 (by decide) (by omega)
      simpa using this
    have y2 : x.2.1 / j.2.1 * j.2.1 ≤ x.2.1 := Int.ediv_mul_le _ (by omega)
    have bd := bad _ y1 y2
    have sd := SC_dem y2 h k
    rw [List.map_append, SC_app, List.filter_append, SC_app]
    have s1 : SC ([x].map (pq x.2.1)) = x.1 := by
      rw [List.map_cons, px]; show x.1 + 0 = x.1; omega
    have s2 : 0 ≤ SC (([x].map (pq x.2.1)).filter fun q => decide (q.2 < (pq x.2.1 j).2)) := SC_nn fun q hq => by
      have := (List.mem_filter.mp hq).1
      rw [List.map_cons, px] at this
      have : q = (x.1, x.2.1) := by simpa using this
      subst this
      exact ⟨kx.c0, tx⟩
    show x.2.1 / j.2.1 * j.2.1 < _
    have e : (pq x.2.1 j).2 = x.2.1 / j.2.1 * j.2.1 := rfl
    rw [e] at s2 ⊢
    omega)
  obtain ⟨M, m1, m2, m3⟩ := scale (T := x.2.1) (h ++ [x]) fun j hj => (m j hj).2
  rw [m2, m3] at o
  have : M * (2 * DP ((h ++ [x]).map jq)) < M * NP ((h ++ [x]).map jq) := by
    rw [← Int.mul_assoc, Int.mul_comm M 2, Int.mul_assoc]; exact o
  exact Int.lt_of_mul_lt_mul_left this (by omega)
/-- some of all -/
def ok2 (f : Int → Q2) (U : List Int) : Prop := ∀ k ∈ U, 1 ≤ (f k).1 ∧ 1 ≤ (f k).2
theorem ratio {f : Int → Q2} : ∀ (S U : List Int), S.Nodup → (∀ k ∈ S, k ∈ U) → ok2 f U → NP (S.map f) * DP (U.map f) ≤ NP (U.map f) * DP (S.map f)
  | [], U, _, _, h => by
    have : ∀ L : List Q2, (∀ q ∈ L, 1 ≤ q.1 ∧ 1 ≤ q.2) → DP L ≤ NP L := fun L hL => by
      have := (tele [] 1 (by decide) (fun q hq => by cases hq) (fun a y b e => by simp at e)).1
      induction L with
      | nil => exact Int.le_refl _
      | cons q L ih =>
        have h1 := hL q List.mem_cons_self
        have ih := ih fun r hr => hL r (List.mem_cons_of_mem _ hr)
        have d := DP_pos (L := L) fun r hr => hL r (List.mem_cons_of_mem _ hr)
        show q.2 * DP L ≤ (q.2 + q.1) * NP L
        exact Int.mul_le_mul (by omega) ih (by omega) (by omega)
    have := this (U.map f) fun q hq => by
      obtain ⟨k, hk, rfl⟩ := List.mem_map.mp hq
      exact h k hk
    show 1 * _ ≤ _ * 1
    omega
  | k :: S, U, n, s, h => by
    obtain ⟨n1, n2⟩ := List.nodup_cons.mp n
    obtain ⟨U1, U2, rfl⟩ := List.append_of_mem (s k List.mem_cons_self)
    have hk := h k (by simp)
    have ih := ratio S (U1 ++ U2) n2 (fun x hx => by
      have := s x (List.mem_cons_of_mem _ hx)
      rcases List.mem_append.mp this with q | q
      · exact List.mem_append_left _ q
      · rcases List.mem_cons.mp q with rfl | q
        · exact (n1 hx).elim
        · exact List.mem_append_right _ q) fun x hx => h x (by
      rcases List.mem_append.mp hx with q | q
      · exact List.mem_append_left _ q
      · exact List.mem_append_right _ (List.mem_cons_of_mem _ q))
    have pm : ((U1 ++ k :: U2).map f).Perm (f k :: (U1 ++ U2).map f) := by
      rw [← List.map_cons]
      exact List.perm_middle.map f
    rw [NP_perm pm, DP_perm pm]
    show ((f k).2 + (f k).1) * NP (S.map f) * ((f k).2 * DP ((U1 ++ U2).map f)) ≤ ((f k).2 + (f k).1) * NP ((U1 ++ U2).map f) * ((f k).2 * DP (S.map f))
    generalize NP (S.map f) = a at *
    generalize DP ((U1 ++ U2).map f) = b at *
    generalize NP ((U1 ++ U2).map f) = c at *
    generalize DP (S.map f) = d at *
    have e1 : ((f k).2 + (f k).1) * a * ((f k).2 * b) = ((f k).2 + (f k).1) * (f k).2 * (a * b) := by
      rw [Int.mul_assoc, Int.mul_assoc]; congr 1; rw [← Int.mul_assoc, ← Int.mul_assoc, Int.mul_comm a]
    have e2 : ((f k).2 + (f k).1) * c * ((f k).2 * d) = ((f k).2 + (f k).1) * (f k).2 * (c * d) := by
      rw [Int.mul_assoc, Int.mul_assoc]; congr 1; rw [← Int.mul_assoc, ← Int.mul_assoc, Int.mul_comm c]
    rw [e1, e2]
    exact Int.mul_le_mul_of_nonneg_left ih (Int.mul_nonneg (by omega) (by omega))
/-- jobs that are sure are in time by their periods -/
theorem sure_ok {J : List J3} (ok : ∀ j ∈ J, Ok j) (pl : ∀ j ∈ J, j.2.2 = j.2.1) {p : List Int} (np : p.Nodup) (rp : ∀ k ∈ p, 0 ≤ k ∧ k < J.length)
    (st : p.Pairwise fun a b => (gt J a).2.2 ≤ (gt J b).2.2) (s : NP (J.map jq) ≤ 2 * DP (J.map jq)) : inT (p.map (gt J)) = true := by
  have okk : ∀ k ∈ p, gt J k ∈ J := fun k hk => gt_mem (rp k hk).1 (rp k hk).2
  rw [inT_iff]
  intro a' x' b' e
  obtain ⟨a, r, e1, e2, e3⟩ := List.map_eq_append_iff.mp e
  obtain ⟨k, c, e4, e5, e6⟩ := List.map_eq_cons_iff.mp e3
  subst e2 e5
  subst e4
  have kp : k ∈ p := by rw [e1]; simp
  have ap : ∀ x ∈ a, x ∈ p := fun x hx => by rw [e1]; exact List.mem_append_left _ hx
  have sp := List.pairwise_append.mp (e1 ▸ st)
  have nap := List.nodup_append.mp (e1 ▸ np)
  rw [some_iff (ok _ (okk k kp)).d0]
  by_cases q : ∃ t, 1 ≤ t ∧ t ≤ (gt J k).2.2 ∧ (gt J k).1 + dem (a.map (gt J)) t ≤ t
  · exact q
  · exfalso
    have hy := hyper (h := a.map (gt J)) (x := gt J k) (fun j hj => by
      obtain ⟨i, hi, rfl⟩ := List.mem_map.mp hj
      refine ⟨ok _ (okk i (ap i hi)), ?_⟩
      have := sp.2.2 i hi k List.mem_cons_self
      rw [pl _ (okk i (ap i hi)), pl _ (okk k kp)] at this
      exact this) (ok _ (okk k kp)) fun t t0 t1 t2 => q ⟨t, t0, by rw [pl _ (okk k kp)]; exact t1, t2⟩
    have em : (a.map (gt J) ++ [gt J k]).map jq = (a ++ [k]).map fun i => jq (gt J i) := by simp
    have eu : J.map jq = (upto 0 J.length).map fun i => jq (gt J i) := by
      have := congrArg (List.map jq) (gt_map J)
      rw [List.map_map] at this
      exact this.symm
    rw [em] at hy
    rw [eu] at s
    have o2 : ok2 (fun i => jq (gt J i)) (upto 0 J.length) := fun i hi => by
      have := up_mem.mp hi
      have := ok _ (gt_mem (J := J) this.1 (by omega))
      exact ⟨this.c0, this.t0⟩
    have ra := ratio (f := fun i => jq (gt J i)) (a ++ [k]) (upto 0 J.length) (List.nodup_append.mpr ⟨nap.1, by simp, fun x hx y hy q => by
      rw [List.mem_singleton.mp hy] at q
      exact nap.2.2 x hx k List.mem_cons_self q⟩) (fun i hi => by
      rw [up_mem]
      have : i ∈ p := by
        rcases List.mem_append.mp hi with h | h
        · exact ap i h
        · rw [List.mem_singleton.mp h]; exact kp
      have := rp i this
      omega) o2
    have dU : 0 < DP ((upto 0 J.length).map fun i => jq (gt J i)) := DP_pos fun q hq => by
      obtain ⟨i, hi, rfl⟩ := List.mem_map.mp hq
      exact o2 i hi
    have dS : 0 < DP ((a ++ [k]).map fun i => jq (gt J i)) := DP_pos fun q hq => by
      obtain ⟨i, hi, rfl⟩ := List.mem_map.mp hq
      have : i ∈ p := by
        rcases List.mem_append.mp hi with h | h
        · exact ap i h
        · rw [List.mem_singleton.mp h]; exact kp
      have := ok _ (okk i this)
      exact ⟨this.c0, this.t0⟩
    generalize NP ((a ++ [k]).map fun i => jq (gt J i)) = nS at *
    generalize DP ((a ++ [k]).map fun i => jq (gt J i)) = dSv at *
    generalize NP ((upto 0 J.length).map fun i => jq (gt J i)) = nU at *
    generalize DP ((upto 0 J.length).map fun i => jq (gt J i)) = dUv at *
    have h1 := Int.mul_le_mul_of_nonneg_right s (show 0 ≤ dSv by omega)
    have h2 : nS * dUv ≤ 2 * dUv * dSv := Int.le_trans ra h1
    have h3 : 2 * dSv * dUv < nS * dUv := Int.mul_lt_mul_of_pos_right hy dU
    have e : 2 * dUv * dSv = 2 * dSv * dUv := by rw [Int.mul_assoc, Int.mul_assoc, Int.mul_comm dUv]
    omega
end K08
end
section
set_option linter.all false
set_option autoImplicit false
set_option Elab.async false
set_option maxRecDepth 100000
set_option maxHeartbeats 0
namespace K08
open PySem Rt
abbrev P : PySem.Program := PySem.Challenge.pw_runattimes_k08_whole_answers_of_ranked_j
def top (i : Nat) : Stmt := P.main.body.getD i (.Pass ⟨0, 0, 0, 0⟩)
def up (c h : Nat) : Bool := c == h
def G : Gi := ⟨(List.append ["fraction", "plus", "times", "is_less", "total", "check_jobs", "need_of", "answer_of", "rank_answers", "are_in_time", "best_order", "is_good", "load_of_jobs", "is_sure", "check_span", "gone", "minute_by_minute", "job_ends", "_law_draws", "_law_mix", "_law_gcd", "_law_low", "_law_plus", "_law_times", "_law_less", "_law_minus", "_law_over", "_law_jobs", "_law_row", "_law_answers"] ["_law_orders", "_law_fault", "_law_sure_fault", "_law_faults", "law"]), ["OutOfRange", "WrongSize", "BadJob", "BadOrder"], [("MOST_JOBS", (.int 5)), ("MOST_MINUTES", (.int 60)), ("MOST_SPAN", (.int 400))], true, up⟩
def b_fraction (call : Nat → Rt.Fn) : Sm :=
  (sSeq (sIf (tOf (xCmp .lt (xVar 1) (xCon (.int 0))))
  (sPar 0 1 (xNeg (xVar 0)) (xNeg (xVar 1)))
  sPass)
  (sSeq (sSet 2 (xBi bGcd [(xVar 0), (xVar 1)]))
  (sRet (xTup [(false, (xBin dDiv (xVar 0) (xVar 2))), (false, (xBin dDiv (xVar 1) (xVar 2)))]))))
def b_plus (call : Nat → Rt.Fn) : Sm :=
  (sRet (xCall (call 0) [(xBin dAdd (xBin dMul (xIdx (xVar 0) (xCon (.int 0))) (xIdx (xVar 1) (xCon (.int 1)))) (xBin dMul (xIdx (xVar 1) (xCon (.int 0))) (xIdx (xVar 0) (xCon (.int 1))))), (xBin dMul (xIdx (xVar 0) (xCon (.int 1))) (xIdx (xVar 1) (xCon (.int 1))))]))
def b_times (call : Nat → Rt.Fn) : Sm :=
  (sRet (xCall (call 0) [(xBin dMul (xIdx (xVar 0) (xCon (.int 0))) (xIdx (xVar 1) (xCon (.int 0)))), (xBin dMul (xIdx (xVar 0) (xCon (.int 1))) (xIdx (xVar 1) (xCon (.int 1))))]))
def b_is_less (call : Nat → Rt.Fn) : Sm :=
  (sRet (xCmp .lt (xBin dMul (xIdx (xVar 0) (xCon (.int 0))) (xIdx (xVar 1) (xCon (.int 1)))) (xBin dMul (xIdx (xVar 1) (xCon (.int 0))) (xIdx (xVar 0) (xCon (.int 1))))))
def b_total (call : Nat → Rt.Fn) : Sm :=
  (sSeq (sSet 1 (xTup [(false, (xCon (.int 0))), (false, (xCon (.int 1)))]))
  (sSeq (sFor (gName 2) (iSeq (xVar 0))
  (sSet 1 (xCall (call 1) [(xVar 1), (xVar 2)])))
  (sRet (xVar 1))))
def b_check_jobs (call : Nat → Rt.Fn) : Sm :=
  (sSeq (sIf (tNot (tOf (xChain (xCon (.int 1)) [(.le, (xBi bLen [(xVar 0)])), (.le, (xCon (.int 5)))])))
  (sRaise 1 (xBi bLen [(xVar 0)]))
  sPass)
  (sFor (gTup [(gName 1), (gTup [(gName 2), (gName 3), (gName 4)])]) (iEnum (xVar 0))
  (sIf (tOr (tNot (tOf (xChain (xCon (.int 1)) [(.le, (xVar 2)), (.le, (xCon (.int 60)))]))) (tNot (tOf (xChain (xCon (.int 1)) [(.le, (xVar 4)), (.le, (xVar 3)), (.le, (xCon (.int 60)))]))))
  (sRaise 2 (xVar 1))
  sPass)))
def b_need_of (call : Nat → Rt.Fn) : Sm :=
  (sRet (xBin dAdd (xIdx (xIdx (xVar 0) (xVar 1)) (xCon (.int 0))) (xBi bSum [(xLC [3, 4, 5] (iSeq (xSlice (xVar 0) none (some (xVar 1)))) (gTup [(gName 3), (gName 4), (gName 5)]) tYesD (xBin dMul (xVar 3) (xNeg (xBin dDiv (xNeg (xVar 2)) (xVar 4)))))])))
def b_answer_of (call : Nat → Rt.Fn) : Sm :=
  (sSeq (sSet 2 (xIdx (xIdx (xVar 0) (xVar 1)) (xCon (.int 0))))
  (sSeq (sWhile (tOf (xCmp .le (xVar 2) (xIdx (xIdx (xVar 0) (xVar 1)) (xCon (.int 2)))))
  (sSeq (sSet 3 (xCall (call 6) [(xVar 0), (xVar 1), (xVar 2)]))
  (sSeq (sIf (tOf (xCmp .eq (xVar 3) (xVar 2)))
  (sRet (xVar 2))
  sPass)
  (sSet 2 (xVar 3)))))
  (sRet (xCon .non))))
def b_rank_answers (call : Nat → Rt.Fn) : Sm :=
  (sSeq (sExpr (xCall (call 5) [(xVar 0)]))
  (sRet (xLC [1] (iRng1 (xBi bLen [(xVar 0)])) (gName 1) tYesD (xCall (call 7) [(xVar 0), (xVar 1)]))))
def b_are_in_time (call : Nat → Rt.Fn) : Sm :=
  (sRet (xCmp .nin (xCon .non) (xCall (call 8) [(xVar 0)])))
def b_best_order (call : Nat → Rt.Fn) : Sm :=
  (sSeq (sExpr (xCall (call 5) [(xVar 0)]))
  (sRet (xLC [1, 2] (iSeq (xBi bSorted [(xLC [2, 1, 3] (iEnum (xVar 0)) (gTup [(gName 2), (gTup [(gName 1), (gName 1), (gName 3)])]) tYesD (xTup [(false, (xVar 3)), (false, (xVar 2))]))])) (gTup [(gName 1), (gName 2)]) tYesD (xVar 2))))
def b_is_good (call : Nat → Rt.Fn) : Sm :=
  (sSeq (sExpr (xCall (call 5) [(xVar 0)]))
  (sSeq (sFor (gTup [(gName 2), (gName 3)]) (iEnum (xSlice (xVar 1) none (some (xBi bLen [(xVar 0)]))))
  (sIf (tOr (tNot (tOf (xChain (xCon (.int 0)) [(.le, (xVar 3)), (.lt, (xBi bLen [(xVar 0)]))]))) (tOf (xCmp .inn (xVar 3) (xSlice (xVar 1) none (some (xVar 2))))))
  (sRaise 3 (xVar 2))
  sPass))
  (sSeq (sIf (tOf (xCmp .ne (xBi bLen [(xVar 1)]) (xBi bLen [(xVar 0)])))
  (sRaise 3 (xBi bLen [(xVar 1)]))
  sPass)
  (sRet (xCall (call 9) [(xLC [3] (iSeq (xVar 1)) (gName 3) tYesD (xIdx (xVar 0) (xVar 3)))])))))
def b_load_of_jobs (call : Nat → Rt.Fn) : Sm :=
  (sSeq (sExpr (xCall (call 5) [(xVar 0)]))
  (sRet (xCall (call 4) [(xLC [1, 2, 3] (iSeq (xVar 0)) (gTup [(gName 1), (gName 2), (gName 3)]) tYesD (xCall (call 0) [(xVar 1), (xVar 2)]))])))
def b_is_sure (call : Nat → Rt.Fn) : Sm :=
  (sSeq (sExpr (xCall (call 5) [(xVar 0)]))
  (sSeq (sSet 1 (xTup [(false, (xCon (.int 1))), (false, (xCon (.int 1)))]))
  (sSeq (sFor (gTup [(gName 2), (gTup [(gName 3), (gName 4), (gName 5)])]) (iEnum (xVar 0))
  (sSeq (sIf (tOf (xCmp .ne (xVar 5) (xVar 4)))
  (sRaise 2 (xVar 2))
  sPass)
  (sSet 1 (xCall (call 2) [(xVar 1), (xCall (call 1) [(xCall (call 0) [(xVar 3), (xVar 4)]), (xTup [(false, (xCon (.int 1))), (false, (xCon (.int 1)))])])]))))
  (sRet (xNot (xCall (call 3) [(xTup [(false, (xCon (.int 2))), (false, (xCon (.int 1)))]), (xVar 1)]))))))
def b_check_span (call : Nat → Rt.Fn) : Sm :=
  (sSeq (sExpr (xCall (call 5) [(xVar 0)]))
  (sIf (tNot (tOf (xChain (xCon (.int 0)) [(.le, (xVar 1)), (.le, (xCon (.int 400)))])))
  (sRaise 0 (xVar 1))
  sPass))
def b_gone (call : Nat → Rt.Fn) : Sm :=
  (sSeq (sSet 2 (xLC [7] (iSeq (xVar 0)) (gName 7) tYesD (xLst [])))
  (sSeq (sSet 3 (xLst []))
  (sSeq (sSet 4 (xLst []))
  (sSeq (sFor (gName 5) (iRng1 (xVar 1))
  (sSeq (sFor (gTup [(gName 8), (gTup [(gName 9), (gName 10), (gName 7)])]) (iEnum (xVar 0))
  (sIf (tOf (xCmp .eq (xBin dMod (xVar 5) (xVar 10)) (xCon (.int 0))))
  (sPut 2 (xVar 8) (xLst [(true, (xIdx (xVar 2) (xVar 8))), (false, (xTup [(false, (xVar 5)), (false, (xVar 9))]))]))
  sPass))
  (sSeq (sSet 6 (xLC [8, 12] (iEnum (xVar 2)) (gTup [(gName 8), (gName 12)]) (tOf (xCmp .gt (xBi bLen [(xVar 12)]) (xCon (.int 0)))) (xVar 8)))
  (sIf (tOf (xCmp .eq (xBi bLen [(xVar 6)]) (xCon (.int 0))))
  (sApp 3 (xCon .non))
  (sSeq (sSet 8 (xIdx (xVar 6) (xCon (.int 0))))
  (sSeq (sTg (gTup [(gName 11), (gName 9)]) (xIdx (xIdx (xVar 2) (xVar 8)) (xCon (.int 0))))
  (sSeq (sApp 3 (xVar 8))
  (sSeq (sPut 2 (xVar 8) (xIf (tOf (xCmp .gt (xVar 9) (xCon (.int 1)))) (xLst [(false, (xTup [(false, (xVar 11)), (false, (xBin dSub (xVar 9) (xCon (.int 1))))])), (true, (xSlice (xIdx (xVar 2) (xVar 8)) (some (xCon (.int 1))) none))]) (xSlice (xIdx (xVar 2) (xVar 8)) (some (xCon (.int 1))) none)))
  (sIf (tOf (xCmp .eq (xVar 9) (xCon (.int 1))))
  (sApp 4 (xTup [(false, (xVar 8)), (false, (xVar 11)), (false, (xBin dAdd (xVar 5) (xCon (.int 1))))]))
  sPass)))))))))
  (sRet (xTup [(false, (xVar 3)), (false, (xVar 4))]))))))
def b_minute_by_minute (call : Nat → Rt.Fn) : Sm :=
  (sSeq (sExpr (xCall (call 14) [(xVar 0), (xVar 1)]))
  (sRet (xIdx (xCall (call 15) [(xVar 0), (xVar 1)]) (xCon (.int 0)))))
def b_job_ends (call : Nat → Rt.Fn) : Sm :=
  (sSeq (sExpr (xCall (call 14) [(xVar 0), (xVar 1)]))
  (sRet (xIdx (xCall (call 15) [(xVar 0), (xVar 1)]) (xCon (.int 1)))))
def b__law_draws (call : Nat → Rt.Fn) : Sm :=
  (sSeq (sSet 1 (xLst []))
  (sSeq (sFor (gName 2) (iRng1 (xBi bMin [(xCon (.int 63)), (xBi bLen [(xVar 0)])]))
  (sSeq (sSet 3 (xBi bAbs [(xIdx (xVar 0) (xVar 2))]))
  (sIf (tOf (xCmp .ge (xVar 3) (xBin dPow (xCon (.int 10)) (xCon (.int 18)))))
  (sFor (gName 4) (iRng1 (xCon (.int 60)))
  (sIf (tOf (xCmp .gt (xVar 3) (xCon (.int 0))))
  (sSeq (sApp 1 (xBin dMod (xBi bInt [(xVar 3)]) (xCon (.int 65536))))
  (sSet 3 (xBin dDiv (xVar 3) (xCon (.int 65536)))))
  sPass))
  (sSeq (sSet 5 (xBin dMod (xBi bInt [(xBin dAdd (xBin dMul (xVar 3) (xCon (.int 48271))) (xBin dMul (xBin dAdd (xVar 2) (xCon (.int 1))) (xCon (.int 69621))))]) (xCon (.int 2147483647))))
  (sSeq (sSet 5 (xBin dMod (xBi bInt [(xBin dAdd (xBin dAdd (xBin dMul (xVar 5) (xCon (.int 16807))) (xBin dMul (xCon (.int 11)) (xVar 2))) (xCon (.int 5)))]) (xCon (.int 2147483629))))
  (sSeq (sApp 1 (xBin dMod (xBi bInt [(xVar 5)]) (xCon (.int 65536))))
  (sApp 1 (xBin dMod (xBi bInt [(xBin dDiv (xVar 5) (xCon (.int 65536)))]) (xCon (.int 32768))))))))))
  (sRet (xVar 1))))
def b__law_mix (call : Nat → Rt.Fn) : Sm :=
  (sSeq (sSet 3 (xCon (.int 0)))
  (sSeq (sIf (tOf (xCmp .gt (xBi bLen [(xVar 0)]) (xCon (.int 0))))
  (sSet 3 (xIdx (xVar 0) (xBin dMod (xBi bInt [(xVar 1)]) (xBi bLen [(xVar 0)]))))
  sPass)
  (sSeq (sIf (tOf (xCmp .lt (xVar 1) (xBi bLen [(xVar 0)])))
  (sRet (xBin dMod (xBi bInt [(xVar 3)]) (xVar 2)))
  sPass)
  (sRet (xBin dMod (xBi bInt [(xBin dDiv (xBi bInt [(xBin dAdd (xBin dMul (xVar 3) (xCon (.int 7919))) (xBin dMul (xVar 1) (xCon (.int 104729))))]) (xCon (.int 3)))]) (xVar 2))))))
def b__law_gcd (call : Nat → Rt.Fn) : Sm :=
  (sSeq (sWhile (tOf (xCmp .ne (xVar 1) (xCon (.int 0))))
  (sTg (gTup [(gName 0), (gName 1)]) (xLst [(false, (xVar 1)), (false, (xBin dMod (xBi bInt [(xVar 0)]) (xVar 1)))])))
  (sRet (xBi bAbs [(xVar 0)])))
def b__law_low (call : Nat → Rt.Fn) : Sm :=
  (sSeq (sSet 2 (xCall (call 20) [(xVar 0), (xVar 1)]))
  (sSeq (sIf (tOf (xCmp .lt (xVar 1) (xCon (.int 0))))
  (sSet 2 (xNeg (xVar 2)))
  sPass)
  (sRet (xTup [(false, (xBi bInt [(xBin dDiv (xVar 0) (xVar 2))])), (false, (xBi bInt [(xBin dDiv (xVar 1) (xVar 2))]))]))))
def b__law_plus (call : Nat → Rt.Fn) : Sm :=
  (sRet (xCall (call 21) [(xBin dAdd (xBin dMul (xIdx (xVar 0) (xCon (.int 0))) (xIdx (xVar 1) (xCon (.int 1)))) (xBin dMul (xIdx (xVar 1) (xCon (.int 0))) (xIdx (xVar 0) (xCon (.int 1))))), (xBin dMul (xIdx (xVar 0) (xCon (.int 1))) (xIdx (xVar 1) (xCon (.int 1))))]))
def b__law_times (call : Nat → Rt.Fn) : Sm :=
  (sRet (xCall (call 21) [(xBin dMul (xIdx (xVar 0) (xCon (.int 0))) (xIdx (xVar 1) (xCon (.int 0)))), (xBin dMul (xIdx (xVar 0) (xCon (.int 1))) (xIdx (xVar 1) (xCon (.int 1))))]))
def b__law_less (call : Nat → Rt.Fn) : Sm :=
  (sRet (xCmp .lt (xBin dMul (xIdx (xVar 0) (xCon (.int 0))) (xIdx (xVar 1) (xCon (.int 1)))) (xBin dMul (xIdx (xVar 1) (xCon (.int 0))) (xIdx (xVar 0) (xCon (.int 1))))))
def b__law_minus (call : Nat → Rt.Fn) : Sm :=
  (sRet (xCall (call 21) [(xBin dSub (xBin dMul (xIdx (xVar 0) (xCon (.int 0))) (xIdx (xVar 1) (xCon (.int 1)))) (xBin dMul (xIdx (xVar 1) (xCon (.int 0))) (xIdx (xVar 0) (xCon (.int 1))))), (xBin dMul (xIdx (xVar 0) (xCon (.int 1))) (xIdx (xVar 1) (xCon (.int 1))))]))
def b__law_over (call : Nat → Rt.Fn) : Sm :=
  (sRet (xCall (call 21) [(xBin dMul (xIdx (xVar 0) (xCon (.int 0))) (xIdx (xVar 1) (xCon (.int 1)))), (xBin dMul (xIdx (xVar 0) (xCon (.int 1))) (xIdx (xVar 1) (xCon (.int 0))))]))
def b__law_jobs (call : Nat → Rt.Fn) : Sm :=
  (sSeq (sSet 2 (xLst []))
  (sSeq (sFor (gName 3) (iRng1 (xBin dAdd (xCon (.int 1)) (xCall (call 19) [(xVar 0), (xVar 1), (xCon (.int 4))])))
  (sSeq (sSet 4 (xBin dAdd (xCon (.int 2)) (xCall (call 19) [(xVar 0), (xBin dAdd (xBin dAdd (xVar 1) (xCon (.int 1))) (xBin dMul (xCon (.int 3)) (xVar 3))), (xIdx (xLst [(false, (xCon (.int 10))), (false, (xCon (.int 30)))]) (xCall (call 19) [(xVar 0), (xBin dAdd (xVar 1) (xCon (.int 20))), (xCon (.int 2))]))])))
  (sSeq (sSet 5 (xBin dAdd (xCon (.int 1)) (xCall (call 19) [(xVar 0), (xBin dAdd (xBin dAdd (xVar 1) (xCon (.int 2))) (xBin dMul (xCon (.int 3)) (xVar 3))), (xBin dAdd (xCon (.int 1)) (xBin dDiv (xVar 4) (xCon (.int 3))))])))
  (sApp 2 (xTup [(false, (xVar 5)), (false, (xVar 4)), (false, (xIdx (xLst [(false, (xVar 4)), (false, (xBin dAdd (xCon (.int 1)) (xCall (call 19) [(xVar 0), (xBin dAdd (xBin dAdd (xVar 1) (xCon (.int 3))) (xBin dMul (xCon (.int 3)) (xVar 3))), (xVar 4)])))]) (xCall (call 19) [(xVar 0), (xBin dAdd (xVar 1) (xCon (.int 21))), (xCon (.int 2))])))])))))
  (sRet (xVar 2))))
def b__law_row (call : Nat → Rt.Fn) : Sm :=
  (sSeq (sSet 2 (xLst []))
  (sSeq (sSet 3 (xLst []))
  (sSeq (sSet 4 (xLst []))
  (sSeq (sFor (gName 5) (iRng1 (xVar 1))
  (sSeq (sFor (gName 6) (iRng1 (xBi bLen [(xVar 0)]))
  (sIf (tOf (xCmp .eq (xBin dMod (xBi bInt [(xVar 5)]) (xIdx (xIdx (xVar 0) (xVar 6)) (xCon (.int 1)))) (xCon (.int 0))))
  (sApp 2 (xTup [(false, (xVar 6)), (false, (xVar 5)), (false, (xIdx (xIdx (xVar 0) (xVar 6)) (xCon (.int 0))))]))
  sPass))
  (sIf (tOf (xCmp .eq (xVar 2) (xLst [])))
  (sApp 3 (xCon .non))
  (sSeq (sTg (gTup [(gName 6), (gName 7), (gName 8)]) (xBi bMin [(xVar 2)]))
  (sSeq (sSet 2 (xLC [9] (iSeq (xVar 2)) (gName 9) (tOf (xCmp .ne (xVar 9) (xTup [(false, (xVar 6)), (false, (xVar 7)), (false, (xVar 8))]))) (xVar 9)))
  (sSeq (sApp 3 (xVar 6))
  (sIf (tOf (xCmp .gt (xVar 8) (xCon (.int 1))))
  (sApp 2 (xTup [(false, (xVar 6)), (false, (xVar 7)), (false, (xBin dSub (xVar 8) (xCon (.int 1))))]))
  (sApp 4 (xTup [(false, (xVar 6)), (false, (xVar 7)), (false, (xBin dAdd (xVar 5) (xCon (.int 1))))])))))))))
  (sRet (xTup [(false, (xVar 3)), (false, (xVar 4))]))))))
def b__law_answers (call : Nat → Rt.Fn) : Sm :=
  (sSeq (sSet 1 (xLst []))
  (sSeq (sFor (gName 2) (iRng1 (xBi bLen [(xVar 0)]))
  (sSeq (sTg (gTup [(gName 4), (gName 5)]) (xCall (call 28) [(xSlice (xVar 0) none (some (xBin dAdd (xVar 2) (xCon (.int 1))))), (xIdx (xIdx (xVar 0) (xVar 2)) (xCon (.int 2)))]))
  (sSeq (sSet 3 (xLC [6, 7, 8] (iSeq (xVar 5)) (gTup [(gName 6), (gName 7), (gName 8)]) (tAnd (tOf (xCmp .eq (xVar 6) (xVar 2))) (tOf (xCmp .eq (xVar 7) (xCon (.int 0))))) (xVar 8)))
  (sApp 1 (xIdx (xBin dAdd (xVar 3) (xLst [(false, (xCon .non))])) (xCon (.int 0)))))))
  (sRet (xVar 1))))
def b__law_orders (call : Nat → Rt.Fn) : Sm :=
  (sSeq (sSet 1 (xLst [(false, (xLst []))]))
  (sSeq (sFor (gName 2) (iRng1 (xVar 0))
  (sSeq (sSet 3 (xLst []))
  (sSeq (sFor (gName 4) (iSeq (xVar 1))
  (sSet 3 (xBin dAdd (xVar 3) (xLC [5] (iRng1 (xVar 0)) (gName 5) (tOf (xCmp .nin (xVar 5) (xVar 4))) (xBin dAdd (xVar 4) (xLst [(false, (xVar 5))]))))))
  (sSet 1 (xVar 3)))))
  (sRet (xVar 1))))
def b__law_fault (call : Nat → Rt.Fn) : Sm :=
  (sSeq (sTry 4 (sIf (tOf (xCmp .lt (xVar 0) (xCon (.int 5))))
  (sExpr (xCallV 35 call (xIdx (xLst [(false, (xCon (.fn 8))), (false, (xCon (.fn 9))), (false, (xCon (.fn 10))), (false, (xCon (.fn 12))), (false, (xCon (.fn 13)))]) (xVar 0)) [(xVar 1)]))
  (sIf (tOf (xCmp .eq (xVar 0) (xCon (.int 5))))
  (sExpr (xCall (call 11) [(xVar 1), (xVar 2)]))
  (sExpr (xCallV 35 call (xIdx (xLst [(false, (xCon (.fn 16))), (false, (xCon (.fn 17)))]) (xBin dSub (xVar 0) (xCon (.int 6)))) [(xVar 1), (xVar 2)]))))
  [(fun c => up c 1, HdF.val (.word "size")), (fun c => up c 2, HdF.val (.word "job")), (fun c => up c 3, HdF.val (.word "order")), (fun c => up c 0, HdF.val (.word "range"))])
  (sRet (xTup [(false, (xCon (.str ""))), (false, (xCon (.int 0)))])))
def b__law_sure_fault (call : Nat → Rt.Fn) : Sm :=
  (sRet (xCall (call 31) [(xCon (.int 4)), (xVar 0), (xCon (.int 0))]))
def b__law_faults (call : Nat → Rt.Fn) : Sm :=
  (sSeq (sSet 1 (xBi bLen [(xVar 0)]))
  (sSeq (sFor (gName 2) (iRng1 (xCon (.int 8)))
  (sSeq (sSet 3 (xIdx (xLst [(false, (xCon (.int 0))), (false, (xCon (.int 0))), (false, (xCon (.int 0))), (false, (xCon (.int 0))), (false, (xCon (.int 0))), (false, (xLst [])), (false, (xNeg (xCon (.int 1)))), (false, (xNeg (xCon (.int 1))))]) (xVar 2)))
  (sSeq (sIf (tOr (tOf (xCmp .ne (xCall (call 31) [(xVar 2), (xLst []), (xVar 3)]) (xTup [(false, (xCon (.str "size"))), (false, (xCon (.int 0)))]))) (tOf (xCmp .ne (xCall (call 31) [(xVar 2), (xBin dMul (xLst [(false, (xTup [(false, (xCon (.int 0))), (false, (xCon (.int 0))), (false, (xCon (.int 0)))]))]) (xCon (.int 6))), (xVar 3)]) (xTup [(false, (xCon (.str "size"))), (false, (xCon (.int 6)))]))))
  (sRet (xCon (.bl false)))
  sPass)
  (sFor (gName 4) (iSeqF (xLst [(false, (xTup [(false, (xCon (.int 0))), (false, (xCon (.int 5))), (false, (xCon (.int 5)))])), (false, (xTup [(false, (xCon (.int 61))), (false, (xCon (.int 60))), (false, (xCon (.int 60)))])), (false, (xTup [(false, (xCon (.int 1))), (false, (xCon (.int 61))), (false, (xCon (.int 5)))])), (false, (xTup [(false, (xCon (.int 1))), (false, (xCon (.int 5))), (false, (xCon (.int 0)))])), (false, (xTup [(false, (xCon (.int 1))), (false, (xCon (.int 5))), (false, (xCon (.int 6)))]))]))
  (sIf (tOf (xCmp .ne (xCall (call 31) [(xVar 2), (xBin dAdd (xVar 0) (xLst [(false, (xVar 4))])), (xVar 3)]) (xTup [(false, (xCon (.str "job"))), (false, (xVar 1))])))
  (sRet (xCon (.bl false)))
  sPass)))))
  (sSeq (sFor (gTup [(gName 4), (gName 5)]) (iSeqF (xLst [(false, (xTup [(false, (xLst [])), (false, (xCon (.int 0)))])), (false, (xTup [(false, (xLst [(false, (xVar 1))])), (false, (xCon (.int 0)))])), (false, (xTup [(false, (xLst [(false, (xNeg (xCon (.int 1))))])), (false, (xCon (.int 0)))])), (false, (xTup [(false, (xBin dAdd (xLst [(false, (xCon (.int 0)))]) (xLst [(false, (xCon (.int 0)))]))), (false, (xCon (.int 1)))])), (false, (xTup [(false, (xBin dAdd (xLRg1 (xVar 1)) (xLst [(false, (xCon (.int 0)))]))), (false, (xBin dAdd (xVar 1) (xCon (.int 1))))]))]))
  (sIf (tAnd (tOf (xCmp .ne (xCall (call 31) [(xCon (.int 5)), (xVar 0), (xVar 4)]) (xTup [(false, (xCon (.str "order"))), (false, (xVar 5))]))) (tOr (tOf (xCmp .gt (xVar 1) (xCon (.int 1)))) (tOf (xCmp .ne (xVar 4) (xLst [(false, (xCon (.int 0))), (false, (xCon (.int 0)))])))))
  (sRet (xCon (.bl false)))
  sPass))
  (sSeq (sFor (gName 2) (iSeqF (xLst [(false, (xCon (.int 6))), (false, (xCon (.int 7)))]))
  (sFor (gName 4) (iSeqF (xLst [(false, (xNeg (xCon (.int 1)))), (false, (xCon (.int 401)))]))
  (sIf (tOf (xCmp .ne (xCall (call 31) [(xVar 2), (xVar 0), (xVar 4)]) (xTup [(false, (xCon (.str "range"))), (false, (xVar 4))])))
  (sRet (xCon (.bl false)))
  sPass)))
  (sRet (xCon (.bl true)))))))
def b_law (call : Nat → Rt.Fn) : Sm :=
  (sSeq (sSet 1 (xCall (call 18) [(xVar 0)]))
  (sSeq (sFor (gName 2) (iRng1 (xCon (.int 2)))
  (sSeq (sSet 3 (xCall (call 27) [(xVar 1), (xBin dAdd (xCon (.int 10)) (xBin dMul (xCon (.int 30)) (xVar 2)))]))
  (sSeq (sSet 4 (xBi bRepr [(xVar 3)]))
  (sSeq (sSet 5 (xCall (call 29) [(xVar 3)]))
  (sSeq (sIf (tOr (tOf (xCmp .ne (xBi bRepr [(xCall (call 8) [(xVar 3)])]) (xBi bRepr [(xVar 5)]))) (tOf (xCmp .ne (xBi bRepr [(xCall (call 9) [(xVar 3)])]) (xBi bRepr [(xCmp .nin (xCon .non) (xVar 5))]))))
  (sRet (xCon (.bl false)))
  sPass)
  (sSeq (sSet 6 (xLC [16, 17] (iSeq (xBi bSorted [(xLC [17] (iRng1 (xBi bLen [(xVar 3)])) (gName 17) tYesD (xTup [(false, (xIdx (xIdx (xVar 3) (xVar 17)) (xCon (.int 2)))), (false, (xVar 17))]))])) (gTup [(gName 16), (gName 17)]) tYesD (xVar 17)))
  (sSeq (sIf (tOf (xCmp .ne (xBi bRepr [(xCall (call 10) [(xVar 3)])]) (xBi bRepr [(xVar 6)])))
  (sRet (xCon (.bl false)))
  sPass)
  (sSeq (sSet 7 (xCon (.bl false)))
  (sSeq (sFor (gName 8) (iSeq (xCall (call 30) [(xBi bLen [(xVar 3)])]))
  (sSeq (sSet 13 (xCmp .nin (xCon .non) (xCall (call 29) [(xLC [17] (iSeq (xVar 8)) (gName 17) tYesD (xIdx (xVar 3) (xVar 17)))])))
  (sSeq (sSet 7 (xOr (xVar 7) (xVar 13)))
  (sIf (tOf (xCmp .ne (xBi bRepr [(xCall (call 11) [(xVar 3), (xVar 8)])]) (xBi bRepr [(xVar 13)])))
  (sRet (xCon (.bl false)))
  sPass))))
  (sSeq (sIf (tOf (xCmp .ne (xBi bRepr [(xCall (call 11) [(xVar 3), (xVar 6)])]) (xBi bRepr [(xVar 7)])))
  (sRet (xCon (.bl false)))
  sPass)
  (sSeq (sSet 9 (xTup [(false, (xCon (.int 0))), (false, (xCon (.int 1)))]))
  (sSeq (sSet 10 (xTup [(false, (xCon (.int 1))), (false, (xCon (.int 1)))]))
  (sSeq (sFor (gTup [(gName 14), (gName 15), (gName 16)]) (iSeq (xVar 3))
  (sSeq (sSet 9 (xCall (call 22) [(xVar 9), (xCall (call 21) [(xVar 14), (xVar 15)])]))
  (sSet 10 (xCall (call 23) [(xVar 10), (xCall (call 22) [(xTup [(false, (xCon (.int 1))), (false, (xCon (.int 1)))]), (xCall (call 21) [(xVar 14), (xVar 15)])])]))))
  (sSeq (sIf (tOf (xCmp .ne (xBi bRepr [(xCall (call 12) [(xVar 3)])]) (xBi bRepr [(xVar 9)])))
  (sRet (xCon (.bl false)))
  sPass)
  (sSeq (sSet 11 (xLC [14, 15, 16] (iSeq (xVar 3)) (gTup [(gName 14), (gName 15), (gName 16)]) tYesD (xTup [(false, (xVar 14)), (false, (xVar 15)), (false, (xVar 15))])))
  (sSeq (sIf (tOr (tOf (xCmp .ne (xBi bRepr [(xCall (call 13) [(xVar 11)])]) (xBi bRepr [(xNot (xCall (call 24) [(xTup [(false, (xCon (.int 2))), (false, (xCon (.int 1)))]), (xVar 10)]))]))) (tAnd (tOf (xCall (call 13) [(xVar 11)])) (tNot (tOf (xCall (call 11) [(xVar 11), (xCall (call 10) [(xVar 11)])])))))
  (sRet (xCon (.bl false)))
  sPass)
  (sSeq (sSet 12 (xLC [17] (iRng1 (xBi bLen [(xVar 3)])) (gName 17) (tOf (xCmp .ne (xIdx (xIdx (xVar 3) (xVar 17)) (xCon (.int 1))) (xIdx (xIdx (xVar 3) (xVar 17)) (xCon (.int 2))))) (xVar 17)))
  (sIf (tOr (tAnd (tOf (xCmp .ne (xVar 12) (xLst []))) (tOf (xCmp .ne (xCall (call 32) [(xVar 3)]) (xTup [(false, (xCon (.str "job"))), (false, (xIdx (xVar 12) (xCon (.int 0))))])))) (tOf (xCmp .ne (xBi bRepr [(xVar 3)]) (xVar 4))))
  (sRet (xCon (.bl false)))
  sPass))))))))))))))))))
  (sRet (xCall (call 33) [(xVar 3)]))))
def d_fraction : Dd := ⟨"fraction", top 8, ["number", "by", "common"], b_fraction⟩
def d_plus : Dd := ⟨"plus", top 9, ["one", "two"], b_plus⟩
def d_times : Dd := ⟨"times", top 10, ["one", "two"], b_times⟩
def d_is_less : Dd := ⟨"is_less", top 11, ["one", "two"], b_is_less⟩
def d_total : Dd := ⟨"total", top 12, ["told", "found", "one"], b_total⟩
def d_check_jobs : Dd := ⟨"check_jobs", top 16, ["jobs", "k", "work", "period", "deadline"], b_check_jobs⟩
def d_need_of : Dd := ⟨"need_of", top 17, ["jobs", "k", "span", "work", "period", "_"], b_need_of⟩
def d_answer_of : Dd := ⟨"answer_of", top 18, ["jobs", "k", "span", "need"], b_answer_of⟩
def d_rank_answers : Dd := ⟨"rank_answers", top 19, ["jobs", "k"], b_rank_answers⟩
def d_are_in_time : Dd := ⟨"are_in_time", top 20, ["jobs"], b_are_in_time⟩
def d_best_order : Dd := ⟨"best_order", top 21, ["jobs", "_", "k", "deadline"], b_best_order⟩
def d_is_good : Dd := ⟨"is_good", top 22, ["jobs", "order", "k", "one"], b_is_good⟩
def d_load_of_jobs : Dd := ⟨"load_of_jobs", top 23, ["jobs", "work", "period", "_"], b_load_of_jobs⟩
def d_is_sure : Dd := ⟨"is_sure", top 24, ["jobs", "found", "k", "work", "period", "deadline"], b_is_sure⟩
def d_check_span : Dd := ⟨"check_span", top 27, ["jobs", "minutes"], b_check_span⟩
def d_gone : Dd := ⟨"gone", top 28, ["jobs", "minutes", "left", "row", "done", "time", "busy", "_", "k", "work", "period", "came", "told"], b_gone⟩
def d_minute_by_minute : Dd := ⟨"minute_by_minute", top 29, ["jobs", "minutes"], b_minute_by_minute⟩
def d_job_ends : Dd := ⟨"job_ends", top 30, ["jobs", "minutes"], b_job_ends⟩
def d__law_draws : Dd := ⟨"_law_draws", top 32, ["script", "draws", "k", "rest", "turn", "stirred"], b__law_draws⟩
def d__law_mix : Dd := ⟨"_law_mix", top 33, ["draws", "k", "many", "cell"], b__law_mix⟩
def d__law_gcd : Dd := ⟨"_law_gcd", top 34, ["one", "two"], b__law_gcd⟩
def d__law_low : Dd := ⟨"_law_low", top 35, ["number", "by", "common"], b__law_low⟩
def d__law_plus : Dd := ⟨"_law_plus", top 36, ["one", "two"], b__law_plus⟩
def d__law_times : Dd := ⟨"_law_times", top 37, ["one", "two"], b__law_times⟩
def d__law_less : Dd := ⟨"_law_less", top 38, ["one", "two"], b__law_less⟩
def d__law_minus : Dd := ⟨"_law_minus", top 39, ["one", "two"], b__law_minus⟩
def d__law_over : Dd := ⟨"_law_over", top 40, ["one", "two"], b__law_over⟩
def d__law_jobs : Dd := ⟨"_law_jobs", top 41, ["draws", "first", "found", "t", "period", "work"], b__law_jobs⟩
def d__law_row : Dd := ⟨"_law_row", top 42, ["jobs", "minutes", "left", "row", "done", "time", "k", "came", "work", "one"], b__law_row⟩
def d__law_answers : Dd := ⟨"_law_answers", top 43, ["jobs", "found", "k", "good", "row", "done", "one", "came", "end"], b__law_answers⟩
def d__law_orders : Dd := ⟨"_law_orders", top 44, ["many", "found", "turn", "more", "told", "k"], b__law_orders⟩
def d__law_fault : Dd := ⟨"_law_fault", top 45, ["way", "jobs", "one", "e"], b__law_fault⟩
def d__law_sure_fault : Dd := ⟨"_law_sure_fault", top 46, ["jobs"], b__law_sure_fault⟩
def d__law_faults : Dd := ⟨"_law_faults", top 47, ["jobs", "many", "way", "one", "bad", "at"], b__law_faults⟩
def d_law : Dd := ⟨"law", top 48, ["script", "draws", "turn", "jobs", "kept", "due", "best", "some", "order", "whole", "product", "plain", "odd", "right", "work", "period", "deadline", "k"], b_law⟩
def ds : List Dd := [d_fraction, d_plus, d_times, d_is_less, d_total, d_check_jobs, d_need_of, d_answer_of, d_rank_answers, d_are_in_time, d_best_order, d_is_good, d_load_of_jobs, d_is_sure, d_check_span, d_gone, d_minute_by_minute, d_job_ends, d__law_draws, d__law_mix, d__law_gcd, d__law_low, d__law_plus, d__law_times, d__law_less, d__law_minus, d__law_over, d__law_jobs, d__law_row, d__law_answers, d__law_orders, d__law_fault, d__law_sure_fault, d__law_faults, d_law]
theorem g_fraction : d_fraction.good G := ⟨by decide +kernel, fun _ _ _ _ _ _ us hl => match us, hl with | [_, _], _ => by with_unfolding_all rfl, ⟨100, fun call => by kernel_rfl⟩⟩
theorem g_plus : d_plus.good G := ⟨by decide +kernel, fun _ _ _ _ _ _ us hl => match us, hl with | [_, _], _ => by with_unfolding_all rfl, ⟨100, fun call => by kernel_rfl⟩⟩
theorem g_times : d_times.good G := ⟨by decide +kernel, fun _ _ _ _ _ _ us hl => match us, hl with | [_, _], _ => by with_unfolding_all rfl, ⟨100, fun call => by kernel_rfl⟩⟩
theorem g_is_less : d_is_less.good G := ⟨by decide +kernel, fun _ _ _ _ _ _ us hl => match us, hl with | [_, _], _ => by with_unfolding_all rfl, ⟨100, fun call => by kernel_rfl⟩⟩
theorem g_total : d_total.good G := ⟨by decide +kernel, fun _ _ _ _ _ _ us hl => match us, hl with | [_], _ => by with_unfolding_all rfl, ⟨100, fun call => by kernel_rfl⟩⟩
theorem g_check_jobs : d_check_jobs.good G := ⟨by decide +kernel, fun _ _ _ _ _ _ us hl => match us, hl with | [_], _ => by with_unfolding_all rfl, ⟨100, fun call => by kernel_rfl⟩⟩
theorem g_need_of : d_need_of.good G := ⟨by decide +kernel, fun _ _ _ _ _ _ us hl => match us, hl with | [_, _, _], _ => by with_unfolding_all rfl, ⟨100, fun call => by kernel_rfl⟩⟩
theorem g_answer_of : d_answer_of.good G := ⟨by decide +kernel, fun _ _ _ _ _ _ us hl => match us, hl with | [_, _], _ => by with_unfolding_all rfl, ⟨100, fun call => by kernel_rfl⟩⟩
theorem g_rank_answers : d_rank_answers.good G := ⟨by decide +kernel, fun _ _ _ _ _ _ us hl => match us, hl with | [_], _ => by with_unfolding_all rfl, ⟨100, fun call => by kernel_rfl⟩⟩
theorem g_are_in_time : d_are_in_time.good G := ⟨by decide +kernel, fun _ _ _ _ _ _ us hl => match us, hl with | [_], _ => by with_unfolding_all rfl, ⟨100, fun call => by kernel_rfl⟩⟩
theorem g_best_order : d_best_order.good G := ⟨by decide +kernel, fun _ _ _ _ _ _ us hl => match us, hl with | [_], _ => by with_unfolding_all rfl, ⟨100, fun call => by kernel_rfl⟩⟩
theorem g_is_good : d_is_good.good G := ⟨by decide +kernel, fun _ _ _ _ _ _ us hl => match us, hl with | [_, _], _ => by with_unfolding_all rfl, ⟨100, fun call => by kernel_rfl⟩⟩
theorem g_load_of_jobs : d_load_of_jobs.good G := ⟨by decide +kernel, fun _ _ _ _ _ _ us hl => match us, hl with | [_], _ => by with_unfolding_all rfl, ⟨100, fun call => by kernel_rfl⟩⟩
theorem g_is_sure : d_is_sure.good G := ⟨by decide +kernel, fun _ _ _ _ _ _ us hl => match us, hl with | [_], _ => by with_unfolding_all rfl, ⟨100, fun call => by kernel_rfl⟩⟩
theorem g_check_span : d_check_span.good G := ⟨by decide +kernel, fun _ _ _ _ _ _ us hl => match us, hl with | [_, _], _ => by with_unfolding_all rfl, ⟨100, fun call => by kernel_rfl⟩⟩
theorem g_gone : d_gone.good G := ⟨by decide +kernel, fun _ _ _ _ _ _ us hl => match us, hl with | [_, _], _ => by with_unfolding_all rfl, ⟨100, fun call => by kernel_rfl⟩⟩
theorem g_minute_by_minute : d_minute_by_minute.good G := ⟨by decide +kernel, fun _ _ _ _ _ _ us hl => match us, hl with | [_, _], _ => by with_unfolding_all rfl, ⟨100, fun call => by kernel_rfl⟩⟩
theorem g_job_ends : d_job_ends.good G := ⟨by decide +kernel, fun _ _ _ _ _ _ us hl => match us, hl with | [_, _], _ => by with_unfolding_all rfl, ⟨100, fun call => by kernel_rfl⟩⟩
theorem g__law_draws : d__law_draws.good G := ⟨by decide +kernel, fun _ _ _ _ _ _ us hl => match us, hl with | [_], _ => by with_unfolding_all rfl, ⟨100, fun call => by kernel_rfl⟩⟩
theorem g__law_mix : d__law_mix.good G := ⟨by decide +kernel, fun _ _ _ _ _ _ us hl => match us, hl with | [_, _, _], _ => by with_unfolding_all rfl, ⟨100, fun call => by kernel_rfl⟩⟩
theorem g__law_gcd : d__law_gcd.good G := ⟨by decide +kernel, fun _ _ _ _ _ _ us hl => match us, hl with | [_, _], _ => by with_unfolding_all rfl, ⟨100, fun call => by kernel_rfl⟩⟩
theorem g__law_low : d__law_low.good G := ⟨by decide +kernel, fun _ _ _ _ _ _ us hl => match us, hl with | [_, _], _ => by with_unfolding_all rfl, ⟨100, fun call => by kernel_rfl⟩⟩
theorem g__law_plus : d__law_plus.good G := ⟨by decide +kernel, fun _ _ _ _ _ _ us hl => match us, hl with | [_, _], _ => by with_unfolding_all rfl, ⟨100, fun call => by kernel_rfl⟩⟩
theorem g__law_times : d__law_times.good G := ⟨by decide +kernel, fun _ _ _ _ _ _ us hl => match us, hl with | [_, _], _ => by with_unfolding_all rfl, ⟨100, fun call => by kernel_rfl⟩⟩
theorem g__law_less : d__law_less.good G := ⟨by decide +kernel, fun _ _ _ _ _ _ us hl => match us, hl with | [_, _], _ => by with_unfolding_all rfl, ⟨100, fun call => by kernel_rfl⟩⟩
theorem g__law_minus : d__law_minus.good G := ⟨by decide +kernel, fun _ _ _ _ _ _ us hl => match us, hl with | [_, _], _ => by with_unfolding_all rfl, ⟨100, fun call => by kernel_rfl⟩⟩
theorem g__law_over : d__law_over.good G := ⟨by decide +kernel, fun _ _ _ _ _ _ us hl => match us, hl with | [_, _], _ => by with_unfolding_all rfl, ⟨100, fun call => by kernel_rfl⟩⟩
theorem g__law_jobs : d__law_jobs.good G := ⟨by decide +kernel, fun _ _ _ _ _ _ us hl => match us, hl with | [_, _], _ => by with_unfolding_all rfl, ⟨100, fun call => by kernel_rfl⟩⟩
theorem g__law_row : d__law_row.good G := ⟨by decide +kernel, fun _ _ _ _ _ _ us hl => match us, hl with | [_, _], _ => by with_unfolding_all rfl, ⟨100, fun call => by kernel_rfl⟩⟩
theorem g__law_answers : d__law_answers.good G := ⟨by decide +kernel, fun _ _ _ _ _ _ us hl => match us, hl with | [_], _ => by with_unfolding_all rfl, ⟨100, fun call => by kernel_rfl⟩⟩
theorem g__law_orders : d__law_orders.good G := ⟨by decide +kernel, fun _ _ _ _ _ _ us hl => match us, hl with | [_], _ => by with_unfolding_all rfl, ⟨100, fun call => by kernel_rfl⟩⟩
theorem g__law_fault : d__law_fault.good G := ⟨by decide +kernel, fun _ _ _ _ _ _ us hl => match us, hl with | [_, _, _], _ => by with_unfolding_all rfl, ⟨100, fun call => by kernel_rfl⟩⟩
theorem g__law_sure_fault : d__law_sure_fault.good G := ⟨by decide +kernel, fun _ _ _ _ _ _ us hl => match us, hl with | [_], _ => by with_unfolding_all rfl, ⟨100, fun call => by kernel_rfl⟩⟩
theorem g__law_faults : d__law_faults.good G := ⟨by decide +kernel, fun _ _ _ _ _ _ us hl => match us, hl with | [_], _ => by with_unfolding_all rfl, ⟨100, fun call => by kernel_rfl⟩⟩
theorem g_law : d_law.good G := ⟨by decide +kernel, fun _ _ _ _ _ _ us hl => match us, hl with | [_], _ => by with_unfolding_all rfl, ⟨100, fun call => by kernel_rfl⟩⟩
theorem good : ∀ d ∈ ds, d.good G := by
  intro d h
  simp only [ds, List.mem_cons, List.mem_singleton, List.not_mem_nil, or_false] at h
  rcases h with rfl | rfl | rfl | rfl | rfl | rfl | rfl | rfl | rfl | rfl | rfl | rfl | rfl | rfl | rfl | rfl | rfl | rfl | rfl | rfl | rfl | rfl | rfl | rfl | rfl | rfl | rfl | rfl | rfl | rfl | rfl | rfl | rfl | rfl | rfl
  · exact g_fraction
  · exact g_plus
  · exact g_times
  · exact g_is_less
  · exact g_total
  · exact g_check_jobs
  · exact g_need_of
  · exact g_answer_of
  · exact g_rank_answers
  · exact g_are_in_time
  · exact g_best_order
  · exact g_is_good
  · exact g_load_of_jobs
  · exact g_is_sure
  · exact g_check_span
  · exact g_gone
  · exact g_minute_by_minute
  · exact g_job_ends
  · exact g__law_draws
  · exact g__law_mix
  · exact g__law_gcd
  · exact g__law_low
  · exact g__law_plus
  · exact g__law_times
  · exact g__law_less
  · exact g__law_minus
  · exact g__law_over
  · exact g__law_jobs
  · exact g__law_row
  · exact g__law_answers
  · exact g__law_orders
  · exact g__law_fault
  · exact g__law_sure_fault
  · exact g__law_faults
  · exact g_law
/-! ### the head -/
abbrev R : PySem.W.OpenRow := PySem.W.OpenLaw.row PySem.Challenge.rw_runattimes_k08_whole_answers_of_ranked_j
def loose0 : List PySem.Str := ["ScheduleError", "OutOfRange", "WrongSize", "BadJob", "BadOrder", "fraction", "plus", "times", "is_less", "total", "MOST_JOBS", "MOST_MINUTES", "check_jobs", "need_of", "answer_of", "rank_answers", "are_in_time", "best_order", "is_good", "load_of_jobs", "is_sure", "MOST_SPAN", "check_span", "gone", "minute_by_minute", "job_ends", "_law_draws", "_law_mix", "_law_gcd", "_law_low"]
def loose1 : List PySem.Str := ["_law_plus", "_law_times", "_law_less", "_law_minus", "_law_over", "_law_jobs", "_law_row", "_law_answers", "_law_orders", "_law_fault", "_law_sure_fault", "_law_faults"]
def loose : List PySem.Str := loose0 ++ loose1
abbrev hk : PySem.W.Hook := hookR P G (initW (top 2)) (ds.map Dd.at_) 5
def ob (s : PySem.W.SharedT) : AlR := obsRG P G (ds.map Dd.at_) 5 (HandSHeadRun.getT s)
theorem ob_eq (s : PySem.W.SharedT) : ob s = hk.obs s.abs := obsRG_eq (HandSHeadRun.getT_eq s)
theorem head_run (w : PySem.World) : HandSHeadRun.RunEqI R (PySem.W.view R.prog [0, 48]) hk ob 6000 loose w := by
  unfold HandSHeadRun.RunEqI
  kernel_rfl
theorem initE : ∃ (p1 p2 q1 q2 q3 q4 q5 q6 q7 q8 q9 q10 : Pos), (q3.endLine == q5.line) = true ∧ L2.defArgs (clsInit (top 2)) = eA p1 p2 ∧ L2.defBody (clsInit (top 2)) = eB q1 q2 q3 q4 q5 q6 q7 q8 q9 q10 ∧ L2.defScope (clsInit (top 2)) = eS := ⟨_, _, _, _, _, _, _, _, _, _, _, _, rfl, rfl, rfl, rfl⟩
end K08
open PySem PySem.W PySem.Calls PyProof.Rows
theorem K08.holds (plain : ∀ ns : List Int, ns.length ≤ 63 → Rt.run (Rt.tblT K08.ds) 60 34 [.scr ns] = .ok (.bl true, false)) : PySem.Challenge.rw_runattimes_k08_whole_answers_of_ranked_j.Holds := by
  w_on; o_law
  refine HandSHeadRun.head_imp (r := OpenLaw.row PySem.Challenge.rw_runattimes_k08_whole_answers_of_ranked_j) (q := view (OpenLaw.row PySem.Challenge.rw_runattimes_k08_whole_answers_of_ranked_j).prog [0, 48]) (H := K08.hk) (ob := K08.ob) (M := 6000) (loose := K08.loose) (d := HandSHeadRun.topDef (OpenLaw.row PySem.Challenge.rw_runattimes_k08_whole_answers_of_ranked_j).prog 48) (kwd := []) K08.ob_eq
    K08.head_run (by kernel_rfl) (by kernel_rfl) (by kernel_rfl) (by rfl) (by first | assumption | decide +kernel) (by decide +kernel) ⟨rfl, rfl, rfl, rfl, rfl, by decide +kernel⟩ ?hw ?hc
  case hw => w_witness2
  case hc => exact Rt.law_end (l := PySem.Challenge.rw_runattimes_k08_whole_answers_of_ranked_j) (m := 60) (x := "script") (dL := K08.d_law) rfl (by kernel_rfl) (by decide) (by decide +kernel) K08.good K08.initE rfl (by kernel_rfl) (by decide +kernel) plain
end
section
set_option linter.all false
set_option autoImplicit false
set_option Elab.async false
set_option maxRecDepth 100000
set_option maxHeartbeats 4000000
namespace K08
open PySem Rt
abbrev T := tblT ds
theorem mix (n : Nat) (xs : List Int) (k many : Int) (hk : 0 ≤ k) (hm : 0 < many) : run T (n + 1) 19 [.lst (xs.map .int), .int k, .int many] = .ok (.int (mixI xs k many), false) :=
  (run_at (f := d__law_mix.df) rfl _ rfl).trans (mix_body xs k many hk hm)
theorem draws (n : Nat) (s : List Int) (h : s.length ≤ 63) : ∃ ys : List Int, ys.length ≤ 3780 ∧ run T (n + 1) 18 [.scr s] = .ok (.lst (ys.map .int), true) := by
  obtain ⟨ys, h1, h2⟩ := draws_body s h
  exact ⟨ys, h1, (run_at (f := d__law_draws.df) rfl _ rfl).trans h2⟩
theorem mxn (n : Nat) (xs : List Int) (k many : Int) (hk : 0 ≤ k) (hm : 0 < many) : ∃ m : Int, 0 ≤ m ∧ m < many ∧ run T (n + 1) 19 [.lst (xs.map .int), .int k, .int many] = .ok (.int m, false) :=
  ⟨mixI xs k many, mixI_nn hm, mixI_lt hm, mix n xs k many hk hm⟩
abbrev LI (l : List Int) : D := .lst (l.map .int)
abbrev LJ (J : List J3) : D := .lst (J.map TR)
def oA : Option Int → D
  | some x => .int x
  | none => .non
abbrev LA (a : List (Option Int)) : D := .lst (a.map oA)
theorem l0_ : (0 : Nat) ≤ line := by decide
theorem l1_ : (1 : Nat) ≤ line := by decide
theorem l3_ : (3 : Nat) ≤ line := by decide
theorem l4_ : (4 : Nat) ≤ line := by decide
structure Js (J : List J3) : Prop where
  ok : ∀ j ∈ J, Ok j
  p : 1 ≤ J.length
  n : J.length ≤ 5
theorem Js.at {J : List J3} (g : Js J) {k : Int} (h : 0 ≤ k) (h2 : k < J.length) : Ok (gt J k) := g.ok _ (gt_mem h h2)
theorem idx_gt {J : List J3} {k : Int} (h : 0 ≤ k) (h2 : k < J.length) : dIdx (LJ J) (.int k) = some (TR (gt J k)) := idx_tr h h2
theorem mkF_tr (p : J3) (q : List Nat) : mkF (TR p) q = ⟨TR p, .fz, []⟩ := by cases q <;> rfl
theorem mkF_oA (o : Option Int) (q : List Nat) : mkF (oA o) q = ⟨oA o, .fz, []⟩ := by cases o <;> cases q <;> rfl
theorem cut_to (xs : List D) (k : Int) (h : 0 ≤ k) : cutL xs none (some k) = xs.take k.toNat := by
  show (xs.drop 0).take ((if 0 ≤ k then min k.toNat xs.length else (k + xs.length).toNat) - 0) = _
  rw [if_pos h, List.drop_zero, Nat.sub_zero]
  by_cases c : k.toNat ≤ xs.length
  · rw [Nat.min_eq_left c]
  · rw [Nat.min_eq_right (by omega), List.take_length, List.take_of_length_le (by omega)]
theorem cut_j (J : List J3) (k : Int) (h : 0 ≤ k) : cutL (J.map TR) none (some k) = (J.take k.toNat).map TR := by
  rw [cut_to _ k h, List.map_take]
theorem zipR {β : Type} (l : List β) (d : β) : l.zipIdx 0 = (List.range l.length).map fun k => (l.getD k d, k) := by
  apply List.ext_getElem
  · simp
  · intro i h1 h2
    have hi : i < l.length := by simpa using h1
    simp [List.getD_eq_getElem?_getD, List.getElem?_eq_getElem hi]
/-- jobs told with their places -/
def NR (J : List J3) (k : Int) : D := .tup [.int k, TR (gt J k)]
theorem num_j (J : List J3) : Rt.numbered 0 (J.map TR) = (upto 0 J.length).map (NR J) := by
  rw [numbered_map, zipR J (0, 0, 0)]
  unfold upto
  rw [List.map_map, List.map_map]
  apply List.map_congr_left
  intro k _
  show D.tup [.int k, TR (J.getD k (0, 0, 0))] = D.tup [.int (0 + (k : Int)), TR (gt J (0 + (k : Int)))]
  rw [Int.zero_add]
  unfold gt
  rw [Int.toNat_natCast]
def CB : Sm := (sIf (tOr (tNot (tOf (xChain (xCon (.int 1)) [(.le, (xVar 2)), (.le, (xCon (.int 60)))]))) (tNot (tOf (xChain (xCon (.int 1)) [(.le, (xVar 4)), (.le, (xVar 3)), (.le, (xCon (.int 60)))]))))
  (sRaise 2 (xVar 1))
  sPass)
theorem checkJ (n : Nat) {J : List J3} (g : Js J) : run T (n + 1) 5 [LJ J] = .ok (.non, false) := by
  refine (run_at (f := d_check_jobs.df) rfl _ rfl).trans ?_
  show ends (sSeq (sIf (tNot (tOf (xChain (xCon (.int 1)) [(.le, (xBi bLen [(xVar 0)])), (.le, (xCon (.int 5)))]))) (sRaise 1 (xBi bLen [(xVar 0)])) sPass) (sFor (gTup [(gName 1), (gTup [(gName 2), (gName 3), (gName 4)])]) (iEnum (xVar 0)) CB) [some (LJ J, false), none, none, none, none]) = _
  obtain ⟨σ', e, r⟩ := for_ind (g := gTup [(gName 1), (gTup [(gName 2), (gName 3), (gName 4)])]) (b := CB) (f := NR J) (l := upto 0 J.length) (fun pre σ => ∃ o1 o2 o3 o4 : Slot, σ = [some (LJ J, false), o1, o2, o3, o4]) (by
    rintro pre k post σ ep ⟨o1, o2, o3, o4, rfl⟩
    have hk := up_mem.mp (show k ∈ upto 0 J.length by rw [ep]; simp)
    have ok := g.at hk.1 (by omega)
    unfold NR
    generalize gt J k = p at *
    obtain ⟨c0, c1, d0, d1, t1⟩ := ok
    refine ⟨[some (LJ J, false), some (.int k, false), some (.int p.1, false), some (.int p.2.1, false), some (.int p.2.2, false)], ?_, _, _, _, _, rfl⟩
    simp [stp, CB, TR, c0, c1, d0, d1, t1]) (σ := [some (LJ J, false), none, none, none, none]) ⟨none, none, none, none, rfl⟩
  rw [← num_j] at e
  obtain ⟨o1, o2, o3, o4, rfl⟩ := r
  have a : (1 : Int) ≤ J.length := by have := g.p; omega
  have b : (J.length : Int) ≤ 5 := by have := g.n; omega
  simp [a, b, -List.map_map, e]
theorem needP (n : Nat) {J : List J3} (g : Js J) {k t : Int} (h : 0 ≤ k) (h2 : k < J.length) (t0 : 0 ≤ t) (t1 : t ≤ 1000000) : run T (n + 1) 6 [LJ J, .int k, .int t] = .ok (.int ((gt J k).1 + dem (J.take k.toNat) t), false) := by
  refine (run_at (f := d_need_of.df) rfl _ rfl).trans ?_
  show ends (b_need_of (run T n) (begin_ 6 [LJ J, .int k, .int t])) = _
  have lc := lc_all (own := [3, 4, 5]) (g := gTup [(gName 3), (gName 4), (gName 5)]) (e := (xBin dMul (xVar 3) (xNeg (xBin dDiv (xNeg (xVar 2)) (xVar 4))))) (σ := [some (LJ J, false), some (.int k, false), some (.int t, false), none, none, none]) TR (fun j => .int (one j t)) (J.take k.toNat) (fun j hj => ⟨[some (LJ J, false), some (.int k, false), some (.int t, false), some (.int j.1, false), some (.int j.2.1, false), some (.int j.2.2, false)], by simp [TR], by
    have ok := g.ok j (List.mem_of_mem_take hj)
    have t0' := ok.t0
    have t1' := ok.t1
    have dv : dDiv (.int (-t)) (.int j.2.1) = _ := div_s (by omega) (by omega)
    have mu : dMul (.int j.1) (.int (-((-t) / j.2.1))) = _ := mul_l (by have := ok.c0; omega) (by have := ok.c1; omega)
    unfold one cd
    simp [dv, mu]⟩)
  have bs := bsum ((J.take k.toNat).map fun j => one j t)
  rw [List.map_map, show (D.int ∘ fun j => one j t) = fun j => D.int (one j t) from rfl, show ((J.take k.toNat).map fun j => one j t).sum = dem (J.take k.toNat) t from rfl] at bs
  have zl : ((J.take k.toNat).map fun j => D.int (one j t)).length ≤ line := by have := g.n; rw [List.length_map, List.length_take, line_val]; omega
  have ix := idx_gt h h2
  have mf := mkF_tr (gt J k)
  have i0 := tr0 (gt J k)
  have ct := cut_j J k h
  generalize (J.take k.toNat).map (fun j => D.int (one j t)) = SM at *
  generalize (J.take k.toNat).map TR = TM at *
  generalize dem (J.take k.toNat) t = d at *
  generalize (gt J k).1 = c at *
  generalize TR (gt J k) = G at *
  simp only [LJ] at *
  generalize J.map TR = JM at *
  simp [b_need_of, begin_, ix, mf, i0, ct, lc, zl, bs]
/-! answers -/
def WT : Tst := (tOf (xCmp .le (xVar 2) (xIdx (xIdx (xVar 0) (xVar 1)) (xCon (.int 2)))))
def WB (call : Nat → Rt.Fn) : Sm := (sSeq (sSet 3 (xCall (call 6) [(xVar 0), (xVar 1), (xVar 2)]))
  (sSeq (sIf (tOf (xCmp .eq (xVar 3) (xVar 2)))
  (sRet (xVar 2))
  sPass)
  (sSet 2 (xVar 3))))
theorem ansGo (n : Nat) {J : List J3} (g : Js J) {k : Int} (h : 0 ≤ k) (h2 : k < J.length) : ∀ (m : Nat) (s : Int) (o3 : Slot) (fu : Nat), m < fu → 1 ≤ s → s ≤ (gt J k).1 + dem (J.take k.toNat) s → (gt J k).2.2 < s + m →
    (∀ R, itGo m (J.take k.toNat) (gt J k).1 (gt J k).2.2 s = some R → whileGo WT (WB (run T (n + 1))) fu [some (LJ J, false), some (.int k, false), some (.int s, false), o3] = .rt (.int R) false) ∧
    (itGo m (J.take k.toNat) (gt J k).1 (gt J k).2.2 s = none → ∃ σ', whileGo WT (WB (run T (n + 1))) fu [some (LJ J, false), some (.int k, false), some (.int s, false), o3] = .nx σ')
  | m, s, o3, 0, hf, _, _, _ => by omega
  | m, s, o3, fu + 1, hf, s0, sn, sd => by
    have ok := g.at h h2
    have ix := idx_gt h h2
    have mf := mkF_tr (gt J k)
    have i2 := tr2 (gt J k)
    have oks : ∀ j ∈ J.take k.toNat, Ok j := fun j hj => g.ok j (List.mem_of_mem_take hj)
    by_cases c : s ≤ (gt J k).2.2
    · have d1 := ok.d1
      have t1 := ok.t1
      have nd := needP n g h h2 (t := s) (by omega) (by omega)
      obtain ⟨m, rfl⟩ : ∃ m', m = m' + 1 := ⟨m - 1, by omega⟩
      have tt : WT [some (LJ J, false), some (.int k, false), some (.int s, false), o3] = .ok true := by
        generalize (gt J k).2.2 = d at *
        generalize TR (gt J k) = G at *
        simp only [LJ] at *
        generalize J.map TR = JM at *
        simp [WT, ix, mf, i2, c]
      have st : whileGo WT (WB (run T (n + 1))) (fu + 1) [some (LJ J, false), some (.int k, false), some (.int s, false), o3] = (WB (run T (n + 1)) [some (LJ J, false), some (.int k, false), some (.int s, false), o3]).bd (whileGo WT (WB (run T (n + 1))) fu) := by
        show (WT _).to _ _ = _
        rw [tt]; rfl
      rw [st]
      unfold itGo
      rw [if_pos c]
      by_cases e : (gt J k).1 + dem (J.take k.toNat) s = s
      · rw [if_pos e]
        rw [e] at nd
        have b : WB (run T (n + 1)) [some (LJ J, false), some (.int k, false), some (.int s, false), o3] = .rt (.int s) false := by
          simp only [LJ] at *
          generalize J.map TR = JM at *
          simp [WB, nd]
        rw [b]
        exact ⟨(fun R q => by cases q; rfl), fun q => by cases q⟩
      · rw [if_neg e]
        have b : WB (run T (n + 1)) [some (LJ J, false), some (.int k, false), some (.int s, false), o3] = .nx [some (LJ J, false), some (.int k, false), some (.int ((gt J k).1 + dem (J.take k.toNat) s), false), some (.int ((gt J k).1 + dem (J.take k.toNat) s), false)] := by
          generalize (gt J k).1 + dem (J.take k.toNat) s = z at *
          simp only [LJ] at *
          generalize J.map TR = JM at *
          simp [WB, nd, e]
        rw [b, O.bd_nx]
        have mo := dem_mono oks sn
        exact ansGo n g h h2 m _ _ fu (by omega) (by omega) (by omega) (by omega)
    · have tt : WT [some (LJ J, false), some (.int k, false), some (.int s, false), o3] = .ok false := by
        generalize (gt J k).2.2 = d at *
        generalize TR (gt J k) = G at *
        simp only [LJ] at *
        generalize J.map TR = JM at *
        simp [WT, ix, mf, i2, c]
      have it : itGo m (J.take k.toNat) (gt J k).1 (gt J k).2.2 s = none := by
        cases m with
        | zero => rfl
        | succ m => unfold itGo; rw [if_neg c]
      rw [go_end tt, it]
      exact ⟨(fun R q => by cases q), fun _ => ⟨_, rfl⟩⟩
theorem answerP (n : Nat) {J : List J3} (g : Js J) {k : Int} (h : 0 ≤ k) (h2 : k < J.length) : run T (n + 2) 7 [LJ J, .int k] = .ok (oA (ansO (J.take k.toNat) (gt J k)), false) := by
  refine (run_at (f := d_answer_of.df) rfl _ rfl).trans ?_
  show ends (sSeq (sSet 2 (xIdx (xIdx (xVar 0) (xVar 1)) (xCon (.int 0)))) (sSeq (sWhile WT (WB (run T (n + 1)))) (sRet (xCon .non))) [some (LJ J, false), some (.int k, false), none, none]) = _
  have ok := g.at h h2
  have oks : ∀ j ∈ J.take k.toNat, Ok j := fun j hj => g.ok j (List.mem_of_mem_take hj)
  have ie := it_eq oks ok
  have c0 := ok.c0
  have dn := dem_nn oks (t := (gt J k).1) (by omega)
  obtain ⟨w1, w2⟩ := ansGo n g h h2 61 (gt J k).1 none fuel (by decide) c0 (by omega) (by have := ok.d1; have := ok.t1; omega)
  rw [ie] at w1 w2
  have ix := idx_gt h h2
  have mf := mkF_tr (gt J k)
  have i0 := tr0 (gt J k)
  cases q : ansO (J.take k.toNat) (gt J k) with
  | some R =>
    have w := w1 R q
    have w : sWhile WT (WB (run T (n + 1))) _ = _ := w
    show _ = Rt.R.ok (D.int R, false)
    generalize (gt J k).1 = c at *
    generalize TR (gt J k) = G at *
    simp only [LJ] at *
    generalize J.map TR = JM at *
    generalize WB (run T (n + 1)) = B at *
    simp [ix, mf, i0, w]
  | none =>
    obtain ⟨σ', w⟩ := w2 q
    have w : sWhile WT (WB (run T (n + 1))) _ = _ := w
    show _ = Rt.R.ok (D.non, false)
    generalize (gt J k).1 = c at *
    generalize TR (gt J k) = G at *
    simp only [LJ] at *
    generalize J.map TR = JM at *
    generalize WB (run T (n + 1)) = B at *
    simp [ix, mf, i0, w]
theorem ansP (n : Nat) {J : List J3} (g : Js J) : run T (n + 3) 8 [LJ J] = .ok (LA (ansL J), true) := by
  refine (run_at (f := d_rank_answers.df) rfl _ rfl).trans ?_
  show ends (b_rank_answers (run T (n + 2)) (begin_ 2 [LJ J])) = _
  have c := checkJ (n + 1) g
  have lc := lc_all (own := [1]) (g := gName 1) (e := (xCall (run T (n + 2) 7) [(xVar 0), (xVar 1)])) (σ := [some (LJ J, false), none]) D.int (fun k => oA (ansO (J.take k.toNat) (gt J k))) (upto 0 J.length) (fun k hk => ⟨[some (LJ J, false), some (.int k, false)], by simp, by
    have hk := up_mem.mp hk
    have a := answerP n g hk.1 (by omega)
    have mk := mkF_oA (ansO (J.take k.toNat) (gt J k))
    generalize oA (ansO (J.take k.toNat) (gt J k)) = A at *
    simp only [LJ] at *
    generalize J.map TR = JM at *
    simp [a, mk]⟩)
  have bl : bLen [LJ J] = some (.int ((J.length : Nat) : Int), false) := by simp
  have kr : okRng (J.length : Int) = true := okRng_of (by omega) (by have := g.n; omega)
  have sp : (ansL J).map oA = (upto 0 J.length).map fun k => oA (ansO (J.take k.toNat) (gt J k)) := by unfold ansL; rw [List.map_map]; rfl
  have zl : ((upto 0 J.length).map fun k => oA (ansO (J.take k.toNat) (gt J k))).length ≤ line := by have := g.n; rw [List.length_map, up_len, line_val]; omega
  have tn : ((J.length : Nat) : Int).toNat = J.length := Int.toNat_natCast _
  unfold LA
  rw [sp]
  generalize ((upto 0 J.length).map fun k => oA (ansO (J.take k.toNat) (gt J k))) = AM at *
  simp only [LJ] at *
  generalize J.map TR = JM at *
  simp [b_rank_answers, begin_, c, -bLen_lst, bl, kr, lc, zl]
theorem in_non : ∀ a : List (Option Int), dIn .non (LA a) = some (!a.all fun x => x.isSome) := fun a => by
  have ok : okIn .non (a.map oA) = true := by
    have p : ∀ a : List (Option Int), PyData.plainAll (D.pyL (a.map oA)) = true := fun a => by
      induction a with
      | nil => rfl
      | cons x a ih =>
        show PyData.plainAll ((oA x).py :: D.pyL (a.map oA)) = true
        cases x <;> simp [PyData.plainAll, oA, D.py, PyData.plain, ih]
    unfold okIn
    simp [D.py, PyData.plain, p, PyData.depth]
  show (if okIn .non (a.map oA) then some ((D.pyL (a.map oA)).any fun z => PyData.eqv z D.non.py) else none) = _
  rw [if_pos ok]
  congr 1
  clear ok
  induction a with
  | nil => rfl
  | cons x a ih =>
    show (PyData.eqv (oA x).py D.non.py || (D.pyL (a.map oA)).any fun z => PyData.eqv z D.non.py) = _
    rw [ih, List.all_cons]
    cases x <;> simp [oA, D.py, PyData.eqv]
theorem nin_non (a : List (Option Int)) : cmpD .nin .non (LA a) = some (a.all fun x => x.isSome) := by
  show (dIn .non (LA a)).map not = _
  rw [in_non]; simp
theorem inTimeP (n : Nat) {J : List J3} (g : Js J) : run T (n + 4) 9 [LJ J] = .ok (.bl (inT J), false) := by
  refine (run_at (f := d_are_in_time.df) rfl _ rfl).trans ?_
  show ends (b_are_in_time (run T (n + 3)) (begin_ 1 [LJ J])) = _
  have a := ansP n g
  have ni := nin_non (ansL J)
  unfold inT
  generalize (ansL J).all (fun x => x.isSome) = q at *
  simp only [LJ, LA] at *
  generalize (ansL J).map oA = AM at *
  generalize J.map TR = JM at *
  simp [b_are_in_time, begin_, a, ni]
/-! the order by deadlines -/
def dk (J : List J3) (k : Int) : P2 := ((gt J k).2.2, k)
def bestO (J : List J3) : List Int := (((upto 0 J.length).map (dk J)).mergeSort leP).map (·.2)
theorem best_perm (J : List J3) : (bestO J).Perm (upto 0 J.length) := by
  unfold bestO
  have := (List.mergeSort_perm ((upto 0 J.length).map (dk J)) leP).map (·.2)
  rw [List.map_map, show ((fun x : P2 => x.2) ∘ dk J) = id from rfl, List.map_id] at this
  exact this
theorem best_nd (J : List J3) : (bestO J).Nodup := (best_perm J).nodup_iff.mpr ((up_sorted 0 J.length).imp fun {a b} h => by omega)
theorem best_rg (J : List J3) : ∀ k ∈ bestO J, 0 ≤ k ∧ k < J.length := fun k hk => by
  have := up_mem.mp ((best_perm J).mem_iff.mp hk)
  omega
theorem best_len (J : List J3) : (bestO J).length = J.length := by rw [(best_perm J).length_eq, up_len]
theorem best_st (J : List J3) : (bestO J).Pairwise fun a b => (gt J a).2.2 ≤ (gt J b).2.2 := by
  unfold bestO
  have s := List.pairwise_mergeSort (le := leP) (fun a b c h1 h2 => leP_trans a b c h1 h2) (fun a b => leP_total a b) ((upto 0 J.length).map (dk J))
  have m : ∀ q ∈ ((upto 0 J.length).map (dk J)).mergeSort leP, q.1 = (gt J q.2).2.2 := fun q hq => by
    have := (List.mergeSort_perm ((upto 0 J.length).map (dk J)) leP).mem_iff.mp hq
    obtain ⟨k, _, rfl⟩ := List.mem_map.mp this
    rfl
  generalize ((upto 0 J.length).map (dk J)).mergeSort leP = M at *
  refine List.pairwise_map.mpr (List.Pairwise.imp_of_mem (fun {a b} ha hb h => ?_) s)
  unfold leP at h
  have h := of_decide_eq_true h
  rw [← m a ha, ← m b hb]
  omega
theorem bestP (n : Nat) {J : List J3} (g : Js J) : run T (n + 2) 10 [LJ J] = .ok (LI (bestO J), true) := by
  refine (run_at (f := d_best_order.df) rfl _ rfl).trans ?_
  show ends (b_best_order (run T (n + 1)) (begin_ 4 [LJ J])) = _
  have c := checkJ n g
  have lc := lc_all (own := [2, 1, 3]) (g := (gTup [(gName 2), (gTup [(gName 1), (gName 1), (gName 3)])])) (e := (xTup [(false, (xVar 3)), (false, (xVar 2))])) (σ := [some (LJ J, false), none, none, none]) (NR J) (fun k => PR (dk J k)) (upto 0 J.length) (fun k _ => ⟨[some (LJ J, false), some (.int (gt J k).2.1, false), some (.int k, false), some (.int (gt J k).2.2, false)], by simp [NR, TR], by simp [PR, dk, le2_]⟩)
  rw [← num_j] at lc
  have srt := sort_prs ((upto 0 J.length).map (dk J))
  rw [List.map_map, show (PR ∘ dk J) = fun k => PR (dk J k) from rfl] at srt
  have lc2 := lc_all (own := [1, 2]) (g := (gTup [(gName 1), (gName 2)])) (e := (xVar 2)) (σ := [some (LJ J, false), none, none, none]) PR (fun q => D.int q.2) (((upto 0 J.length).map (dk J)).mergeSort leP) (fun q _ => ⟨[some (LJ J, false), some (.int q.1, false), some (.int q.2, false), none], by simp [PR], by simp⟩)
  have zl : ((upto 0 J.length).map fun k => PR (dk J k)).length ≤ line := by have := g.n; rw [List.length_map, up_len, line_val]; omega
  have bl := best_len J
  have sp : (bestO J).map D.int = (((upto 0 J.length).map (dk J)).mergeSort leP).map fun q => D.int q.2 := by unfold bestO; rw [List.map_map]; rfl
  have zl2 : ((((upto 0 J.length).map (dk J)).mergeSort leP).map fun q => D.int q.2).length ≤ line := by rw [← sp, List.length_map, bl, line_val]; have := g.n; omega
  unfold LI
  rw [sp]
  generalize ((((upto 0 J.length).map (dk J)).mergeSort leP).map fun q => D.int q.2) = QM at *
  generalize (((upto 0 J.length).map (dk J)).mergeSort leP).map PR = SM at *
  generalize ((upto 0 J.length).map fun k => PR (dk J k)) = DM at *
  simp only [LJ] at *
  generalize J.map TR = JM at *
  simp [b_best_order, begin_, c, lc, zl, srt, lc2, zl2]
end K08
end
section
set_option linter.all false
set_option autoImplicit false
set_option Elab.async false
set_option maxRecDepth 100000
set_option maxHeartbeats 4000000
namespace K08
open PySem Rt
/-! is_good -/
structure Vo (J : List J3) (o : List Int) : Prop where
  nd : o.Nodup
  rg : ∀ k ∈ o, 0 ≤ k ∧ k < J.length
  ln : o.length = J.length
theorem Vo.js {J : List J3} {o : List Int} (g : Js J) (v : Vo J o) : Js (o.map (gt J)) := ⟨fun j hj => by
  obtain ⟨k, hk, rfl⟩ := List.mem_map.mp hj
  exact g.at (v.rg k hk).1 (v.rg k hk).2, by rw [List.length_map, v.ln]; exact g.p, by rw [List.length_map, v.ln]; exact g.n⟩
theorem best_vo (J : List J3) : Vo J (bestO J) := ⟨best_nd J, best_rg J, best_len J⟩
def GB : Sm := (sIf (tOr (tNot (tOf (xChain (xCon (.int 0)) [(.le, (xVar 3)), (.lt, (xBi bLen [(xVar 0)]))]))) (tOf (xCmp .inn (xVar 3) (xSlice (xVar 1) none (some (xVar 2))))))
  (sRaise 3 (xVar 2))
  sPass)
def NI (o : List Int) (k : Nat) : D := .tup [.int k, .int (o.getD k 0)]
theorem num_i (o : List Int) : Rt.numbered 0 (o.map D.int) = (List.range o.length).map (NI o) := by
  rw [numbered_map, zipR o 0, List.map_map]
  apply List.map_congr_left
  intro k _
  rfl
theorem cut_i (o : List Int) (k : Int) (h : 0 ≤ k) : cutL (o.map D.int) none (some k) = (o.take k.toNat).map D.int := by
  rw [cut_to _ k h, List.map_take]
theorem goodP (n : Nat) {J : List J3} (g : Js J) {o : List Int} (v : Vo J o) : run T (n + 5) 11 [LJ J, LI o] = .ok (.bl (inT (o.map (gt J))), false) := by
  refine (run_at (f := d_is_good.df) rfl _ rfl).trans ?_
  show ends (sSeq (sExpr (xCall (run T (n + 4) 5) [(xVar 0)])) (sSeq (sFor (gTup [(gName 2), (gName 3)]) (iEnum (xSlice (xVar 1) none (some (xBi bLen [(xVar 0)])))) GB) (sSeq (sIf (tOf (xCmp .ne (xBi bLen [(xVar 1)]) (xBi bLen [(xVar 0)]))) (sRaise 3 (xBi bLen [(xVar 1)])) sPass) (sRet (xCall (run T (n + 4) 9) [(xLC [3] (iSeq (xVar 1)) (gName 3) tYesD (xIdx (xVar 0) (xVar 3)))])))) [some (LJ J, false), some (LI o, false), none, none]) = _
  have c := checkJ (n + 3) g
  have vl := v.ln
  have bl : bLen [LJ J] = some (.int ((J.length : Nat) : Int), false) := by simp
  have bl2 : bLen [LI o] = some (.int ((J.length : Nat) : Int), false) := by simp [vl]
  obtain ⟨σ', e, r⟩ := for_ind (g := gTup [(gName 2), (gName 3)]) (b := GB) (f := NI o) (l := List.range o.length) (fun pre σ => ∃ o2 o3 : Slot, σ = [some (LJ J, false), some (LI o, false), o2, o3]) (by
    rintro pre k post σ ep ⟨o2, o3, rfl⟩
    have hk : k < o.length := List.mem_range.mp (by rw [ep]; simp)
    have gd : o.getD k 0 = o[k] := by rw [List.getD_eq_getElem?_getD, List.getElem?_eq_getElem hk]; rfl
    have rk := v.rg _ (List.getElem_mem hk)
    have no : decide (o[k] ∈ o.take k) = false := decide_eq_false fun h => by
      obtain ⟨i, hi, he⟩ := List.mem_iff_getElem.mp h
      rw [List.length_take] at hi
      rw [List.getElem_take] at he
      have := (List.getElem_inj v.nd).mp he
      omega
    have ci := cmp_inI o[k] (o.take k)
    rw [no] at ci
    have ct := cut_i o (k : Int) (by omega)
    rw [Int.toNat_natCast] at ct
    unfold NI
    rw [gd]
    generalize o[k] = x at *
    refine ⟨[some (LJ J, false), some (LI o, false), some (.int k, false), some (.int x, false)], ?_, _, _, rfl⟩
    generalize (o.take k).map D.int = TM at *
    generalize ((J.length : Nat) : Int) = N at *
    obtain ⟨r1, r2⟩ := rk
    simp only [LJ, LI] at *
    generalize J.map TR = JM at *
    generalize o.map D.int = OM at *
    simp [stp, GB, -bLen_lst, bl, r1, r2, ct, ci]) (σ := [some (LJ J, false), some (LI o, false), none, none]) ⟨none, none, rfl⟩
  rw [← num_i] at e
  obtain ⟨o2, o3, rfl⟩ := r
  have ct := cut_i o ((J.length : Nat) : Int) (by omega)
  rw [Int.toNat_natCast, ← vl, List.take_length, vl] at ct
  have lc := lc_all (own := [3]) (g := gName 3) (e := (xIdx (xVar 0) (xVar 3))) (σ := [some (LJ J, false), some (LI o, false), o2, none]) D.int (fun k => TR (gt J k)) o (fun k hk => ⟨[some (LJ J, false), some (LI o, false), o2, some (.int k, false)], by simp, by
    have ix := idx_gt (v.rg k hk).1 (v.rg k hk).2
    have mf := mkF_tr (gt J k)
    generalize TR (gt J k) = G at *
    simp only [LJ] at *
    generalize J.map TR = JM at *
    simp [ix, mf]⟩)
  have it := inTimeP n (v.js g)
  have sp : (o.map (gt J)).map TR = o.map fun k => TR (gt J k) := by rw [List.map_map]; rfl
  have zl : (o.map fun k => TR (gt J k)).length ≤ line := by have := g.n; rw [List.length_map, line_val]; omega
  have mk := mkN_trs (o.map (gt J))
  unfold LJ at it
  rw [sp] at it mk
  generalize inT (o.map (gt J)) = q at *
  generalize (o.map fun k => TR (gt J k)) = GM at *
  generalize ((J.length : Nat) : Int) = N at *
  simp only [LJ, LI] at *
  generalize J.map TR = JM at *
  generalize o.map D.int = OM at *
  simp [c, -bLen_lst, bl, bl2, ct, e, lc, zl, mk, it]
/-! fractions -/
theorem low0 (n : Nat) : Low (run T (n + 1) 0) := fun a b h z => (run_at (f := d_fraction.df) rfl _ rfl).trans (frac_body h z)
theorem plusP (n : Nat) {x y : Rat} (hx : Sz 4000 x) (hy : Sz 4000 y) : run T (n + 2) 1 [dF x, dF y] = .ok (dF (x + y), false) := (run_at (f := d_plus.df) rfl _ rfl).trans (plus_body hx hy (low0 n))
theorem timesP (n : Nat) {x y : Rat} (hx : Sz 4000 x) (hy : Sz 4000 y) : run T (n + 2) 2 [dF x, dF y] = .ok (dF (x * y), false) := (run_at (f := d_times.df) rfl _ rfl).trans (times_body hx hy (low0 n))
theorem lessP (n : Nat) {x y : Rat} (hx : Sz 4000 x) (hy : Sz 4000 y) : run T (n + 1) 3 [dF x, dF y] = .ok (.bl (decide (x < y)), false) := (run_at (f := d_is_less.df) rfl _ rfl).trans (less_body hx hy)
theorem lgcd (n : Nat) {a b : Int} (h : 0 ≤ b) (z : b < 2 ^ 8000) : run T (n + 1) 20 [.int a, .int b] = .ok (.int (Int.gcd a b : Nat), false) := (run_at (f := d__law_gcd.df) rfl _ rfl).trans (gcd_body h z)
theorem lowL (n : Nat) : Low (run T (n + 2) 21) := fun a b h z => by
  refine (run_at (f := d__law_low.df) rfl _ rfl).trans (low_body (f := run T (n + 1) 20) h z (lgcd n (by omega) ?_))
  have : b.natAbs < 2 ^ 8000 := z
  have e : (b.natAbs : Int) = b := by omega
  rw [← e]; exact_mod_cast this
theorem lplus (n : Nat) {x y : Rat} (hx : Sz 4000 x) (hy : Sz 4000 y) : run T (n + 3) 22 [dF x, dF y] = .ok (dF (x + y), false) := (run_at (f := d__law_plus.df) rfl _ rfl).trans (plus_body hx hy (lowL n))
theorem ltimes (n : Nat) {x y : Rat} (hx : Sz 4000 x) (hy : Sz 4000 y) : run T (n + 3) 23 [dF x, dF y] = .ok (dF (x * y), false) := (run_at (f := d__law_times.df) rfl _ rfl).trans (times_body hx hy (lowL n))
theorem lless (n : Nat) {x y : Rat} (hx : Sz 4000 x) (hy : Sz 4000 y) : run T (n + 1) 24 [dF x, dF y] = .ok (.bl (decide (x < y)), false) := (run_at (f := d__law_less.df) rfl _ rfl).trans (less_body hx hy)
def uQ (j : J3) : Rat := Rat.divInt j.1 j.2.1
theorem u_sz {j : J3} (k : Ok j) : Sz 6 (uQ j) := sz_low (by have := k.t0; omega) (by have := k.c0; have := k.c1; omega) (by have := k.t0; have := k.t1; omega)
theorem p8000 {b : Int} (h : 1 ≤ b) (k : b ≤ 60) : b.natAbs < 2 ^ 8000 := by
  have : b.natAbs < 2 ^ 6 := by omega
  exact Nat.lt_of_lt_of_le this (Nat.pow_le_pow_right (by decide) (by decide))
def loadQ (J : List J3) : Rat := J.foldl (fun r j => r + uQ j) 0
def prodQ (J : List J3) : Rat := J.foldl (fun r j => r * (uQ j + 1)) 1
theorem load_sz : ∀ {J : List J3} {k : Nat} {r : Rat}, (∀ j ∈ J, Ok j) → Sz k r → Sz (k + 7 * J.length) (J.foldl (fun r j => r + uQ j) r)
  | [], k, r, _, h => h
  | j :: J, k, r, g, h => by
    have := load_sz (J := J) (fun i hi => g i (List.mem_cons_of_mem _ hi)) (sz_add h (u_sz (g j List.mem_cons_self)))
    rw [List.foldl_cons]
    exact this.mono (by rw [List.length_cons]; omega)
theorem one_sz : Sz 1 (1 : Rat) := ⟨by decide, by decide⟩
theorem zero_sz : Sz 1 (0 : Rat) := ⟨by decide, by decide⟩
theorem u1_sz {j : J3} (k : Ok j) : Sz 8 (uQ j + 1) := sz_add (u_sz k) one_sz
theorem prod_sz : ∀ {J : List J3} {k : Nat} {r : Rat}, (∀ j ∈ J, Ok j) → Sz k r → Sz (k + 8 * J.length) (J.foldl (fun r j => r * (uQ j + 1)) r)
  | [], k, r, _, h => h
  | j :: J, k, r, g, h => by
    have := prod_sz (J := J) (fun i hi => g i (List.mem_cons_of_mem _ hi)) (sz_mul h (u1_sz (g j List.mem_cons_self)))
    rw [List.foldl_cons]
    exact this.mono (by rw [List.length_cons]; omega)
theorem dF1 : dF 1 = .tup [.int 1, .int 1] := rfl
theorem dF0 : dF 0 = .tup [.int 0, .int 1] := rfl
theorem dF2 : dF 2 = .tup [.int 2, .int 1] := rfl
theorem loadP (n : Nat) {J : List J3} (g : Js J) : run T (n + 4) 12 [LJ J] = .ok (dF (loadQ J), false) := by
  refine (run_at (f := d_load_of_jobs.df) rfl _ rfl).trans ?_
  show ends (b_load_of_jobs (run T (n + 3)) (begin_ 4 [LJ J])) = _
  have c := checkJ (n + 2) g
  have lc := lc_all (own := [1, 2, 3]) (g := gTup [(gName 1), (gName 2), (gName 3)]) (e := (xCall (run T (n + 3) 0) [(xVar 1), (xVar 2)])) (σ := [some (LJ J, false), none, none, none]) TR (fun j => dF (uQ j)) J (fun j hj => ⟨[some (LJ J, false), some (.int j.1, false), some (.int j.2.1, false), some (.int j.2.2, false)], by simp [TR], by
    have ok := g.ok j hj
    have fr : run T (n + 3) 0 [.int j.1, .int j.2.1] = _ := low0 (n + 2) j.1 j.2.1 (by have := ok.t0; omega) (p8000 ok.t0 ok.t1)
    rw [show Rat.divInt j.1 j.2.1 = uQ j from rfl] at fr
    have mk := mkF_dF (uQ j)
    generalize dF (uQ j) = U at *
    simp [fr, mk]⟩)
  have tot : run T (n + 3) 4 [.lst (J.map fun j => dF (uQ j))] = .ok (dF (loadQ J), false) := by
    refine (run_at (f := d_total.df) rfl _ rfl).trans ?_
    show ends (b_total (run T (n + 2)) (begin_ 3 [.lst (J.map fun j => dF (uQ j))])) = _
    obtain ⟨σ', e, r⟩ := for_ind (g := gName 2) (b := (sSet 1 (xCall (run T (n + 2) 1) [(xVar 1), (xVar 2)]))) (f := fun j => dF (uQ j)) (l := J) (fun pre σ => ∃ o2 : Slot, σ = [some (.lst (J.map fun j => dF (uQ j)), false), some (dF (loadQ pre), false), o2]) (by
      rintro pre j post σ ep ⟨o2, rfl⟩
      have ok := g.ok j (by rw [ep]; simp)
      have pl := congrArg List.length ep
      rw [List.length_append, List.length_cons] at pl
      have gn := g.n
      have s1 := (load_sz (J := pre) (fun i hi => g.ok i (by rw [ep]; exact List.mem_append_left _ hi)) zero_sz).mono (show 1 + 7 * pre.length ≤ 4000 by omega)
      have pp := plusP n s1 ((u_sz ok).mono (show 6 ≤ 4000 by decide))
      have mk := mkF_dF (loadQ pre + uQ j)
      have ea : loadQ (pre ++ [j]) = loadQ pre + uQ j := by unfold loadQ; rw [List.foldl_append]; rfl
      refine ⟨[some (.lst (J.map fun j => dF (uQ j)), false), some (dF (loadQ (pre ++ [j])), false), some (dF (uQ j), false)], ?_, _, rfl⟩
      rw [ea]
      have pp : run T (n + 2) 1 [dF (loadQ pre), dF (uQ j)] = .ok (dF (loadQ pre + uQ j), false) := pp
      generalize dF (loadQ pre + uQ j) = Z at *
      generalize dF (loadQ pre) = A at *
      generalize dF (uQ j) = U at *
      generalize (J.map fun j => dF (uQ j)) = JM at *
      simp [stp, pp, mk]) (σ := [some (.lst (J.map fun j => dF (uQ j)), false), some (dF 0, false), none]) ⟨none, rfl⟩
    obtain ⟨o2, rfl⟩ := r
    rw [dF0] at e
    have mk := mkF_dF (loadQ J)
    generalize dF (loadQ J) = Z at *
    generalize (J.map fun j => dF (uQ j)) = JM at *
    simp [b_total, begin_, le2_, e, mk]
  have zl : (J.map fun j => dF (uQ j)).length ≤ line := by have := g.n; rw [List.length_map, line_val]; omega
  have mk := mkF_dF (loadQ J)
  have mn : ∀ p, mkN (.lst (J.map fun j => dF (uQ j))) p = ⟨.lst (J.map fun j => dF (uQ j)), .nw, []⟩ := fun p => by
    cases p with
    | nil => rfl
    | cons i p =>
      have im : ∀ L : List J3, D.immL (L.map fun j => dF (uQ j)) = true := fun L => by
        induction L with
        | nil => rfl
        | cons a L ih =>
          show (D.imm (dF (uQ a)) && D.immL (L.map fun j => dF (uQ j))) = true
          rw [ih]; rfl
      show (⟨.lst (J.map fun j => dF (uQ j)), .nw, if D.immL (J.map fun j => dF (uQ j)) then [] else _⟩ : Rv) = _
      rw [im]; rfl
  generalize dF (loadQ J) = Z at *
  generalize (J.map fun j => dF (uQ j)) = JM2 at *
  simp only [LJ] at *
  generalize J.map TR = JM at *
  simp [b_load_of_jobs, begin_, c, lc, zl, mn, tot, mk]
/-! is_sure -/
def SB (call : Nat → Rt.Fn) : Sm := (sSeq (sIf (tOf (xCmp .ne (xVar 5) (xVar 4)))
  (sRaise 2 (xVar 2))
  sPass)
  (sSet 1 (xCall (call 2) [(xVar 1), (xCall (call 1) [(xCall (call 0) [(xVar 3), (xVar 4)]), (xTup [(false, (xCon (.int 1))), (false, (xCon (.int 1)))])])])))
theorem sure_step (n : Nat) {a0 o2 o3 o4 o5 : Slot} {j : J3} (ok : Ok j) (pl : j.2.2 = j.2.1) {r : Rat} (hr : Sz 1000 r) (k : Int) : stp (gTup [(gName 2), (gTup [(gName 3), (gName 4), (gName 5)])]) (SB (run T (n + 2))) (.tup [.int k, TR j]) [a0, some (dF r, false), o2, o3, o4, o5] = .nx [a0, some (dF (r * (uQ j + 1)), false), some (.int k, false), some (.int j.1, false), some (.int j.2.1, false), some (.int j.2.2, false)] := by
  have fr : run T (n + 2) 0 [.int j.1, .int j.2.1] = _ := low0 (n + 1) j.1 j.2.1 (by have := ok.t0; omega) (p8000 ok.t0 ok.t1)
  rw [show Rat.divInt j.1 j.2.1 = uQ j from rfl] at fr
  have pp := plusP n ((u_sz ok).mono (show 6 ≤ 4000 by decide)) (one_sz.mono (show 1 ≤ 4000 by decide))
  rw [dF1] at pp
  have tt := timesP n (hr.mono (show 1000 ≤ 4000 by decide)) ((u1_sz ok).mono (show 8 ≤ 4000 by decide))
  have m1 := mkF_dF (uQ j)
  have m2 := mkF_dF (uQ j + 1)
  have m3 := mkF_dF (r * (uQ j + 1))
  rw [stp_of (σ' := [a0, some (dF r, false), some (.int k, false), some (.int j.1, false), some (.int j.2.1, false), some (.int j.2.2, false)]) (by simp [TR])]
  rw [pl]
  generalize dF (r * (uQ j + 1)) = Z at *
  generalize dF (uQ j + 1) = Y at *
  generalize dF (uQ j) = U at *
  generalize dF r = A at *
  simp [SB, fr, pp, tt, m1, m2, m3, le2_]
theorem prodQ_app (L : List J3) (j : J3) : prodQ (L ++ [j]) = prodQ L * (uQ j + 1) := by unfold prodQ; rw [List.foldl_append]; rfl
theorem sureP (n : Nat) {J : List J3} (g : Js J) (pl : ∀ j ∈ J, j.2.2 = j.2.1) : run T (n + 3) 13 [LJ J] = .ok (.bl (!decide (2 < prodQ J)), false) := by
  refine (run_at (f := d_is_sure.df) rfl _ rfl).trans ?_
  show ends (sSeq (sExpr (xCall (run T (n + 2) 5) [(xVar 0)])) (sSeq (sSet 1 (xTup [(false, (xCon (.int 1))), (false, (xCon (.int 1)))])) (sSeq (sFor (gTup [(gName 2), (gTup [(gName 3), (gName 4), (gName 5)])]) (iEnum (xVar 0)) (SB (run T (n + 2)))) (sRet (xNot (xCall (run T (n + 2) 3) [(xTup [(false, (xCon (.int 2))), (false, (xCon (.int 1)))]), (xVar 1)]))))) [some (LJ J, false), none, none, none, none, none]) = _
  have c := checkJ (n + 1) g
  have ps : ∀ pre post : List Int, upto 0 J.length = pre ++ post → Sz 1000 (prodQ (pre.map (gt J))) := fun pre post ep => by
    have pl := congrArg List.length ep
    rw [up_len, List.length_append] at pl
    have gn := g.n
    exact (prod_sz (J := pre.map (gt J)) (fun i hi => by
      obtain ⟨k, hk, rfl⟩ := List.mem_map.mp hi
      have := up_mem.mp (show k ∈ upto 0 J.length by rw [ep]; exact List.mem_append_left _ hk)
      exact g.at this.1 (by omega)) one_sz).mono (by rw [List.length_map]; omega)
  obtain ⟨σ', e, r⟩ := for_ind (g := gTup [(gName 2), (gTup [(gName 3), (gName 4), (gName 5)])]) (b := SB (run T (n + 2))) (f := NR J) (l := upto 0 J.length) (fun pre σ => ∃ o2 o3 o4 o5 : Slot, σ = [some (LJ J, false), some (dF (prodQ (pre.map (gt J))), false), o2, o3, o4, o5]) (by
    rintro pre k post σ ep ⟨o2, o3, o4, o5, rfl⟩
    have hk := up_mem.mp (show k ∈ upto 0 J.length by rw [ep]; simp)
    have ok := g.at hk.1 (by omega)
    refine ⟨_, sure_step n ok (pl _ (gt_mem hk.1 (by omega))) (ps pre _ ep) k, ?_⟩
    rw [List.map_append, show [k].map (gt J) = [gt J k] from rfl, prodQ_app]
    exact ⟨_, _, _, _, rfl⟩) (σ := [some (LJ J, false), some (dF 1, false), none, none, none, none]) ⟨none, none, none, none, rfl⟩
  rw [← num_j] at e
  obtain ⟨o2, o3, o4, o5, rfl⟩ := r
  rw [dF1] at e
  have sz := ps (upto 0 J.length) [] (by simp)
  rw [gt_map] at e sz
  have ls := lessP (n + 1) (x := 2) (y := prodQ J) ⟨by decide, by decide⟩ (sz.mono (by decide))
  rw [dF2] at ls
  generalize decide (2 < prodQ J) = q at *
  generalize dF (prodQ J) = Z at *
  simp only [LJ] at *
  generalize J.map TR = JM at *
  generalize SB (run T (n + 2)) = B at *
  simp [c, le2_, e, ls]
/-! the product -/
theorem prod_div : ∀ (J : List J3) (a b : Int), 0 < b → (∀ j ∈ J, Ok j) → J.foldl (fun r j => r * (uQ j + 1)) (Rat.divInt a b) = Rat.divInt (a * NP (J.map jq)) (b * DP (J.map jq))
  | [], a, b, hb, _ => by simp [NP, DP]
  | j :: J, a, b, hb, g => by
    have ok := g j List.mem_cons_self
    have t0 := ok.t0
    rw [List.foldl_cons]
    have e : Rat.divInt a b * (uQ j + 1) = Rat.divInt (a * (j.2.1 + j.1)) (b * j.2.1) := by
      unfold uQ
      have o : (1 : Rat) = Rat.divInt 1 1 := rfl
      rw [o, Rat.divInt_add_divInt _ _ (by omega) (by decide), Rat.divInt_mul_divInt, Int.mul_one, Int.one_mul, Int.mul_one, Int.add_comm j.1]
    rw [e, prod_div J _ _ (Int.mul_pos hb (by omega)) fun i hi => g i (List.mem_cons_of_mem _ hi), List.map_cons]
    show Rat.divInt (a * (j.2.1 + j.1) * NP (J.map jq)) (b * j.2.1 * DP (J.map jq)) = Rat.divInt (a * ((j.2.1 + j.1) * NP (J.map jq))) (b * (j.2.1 * DP (J.map jq)))
    rw [Int.mul_assoc, Int.mul_assoc]
theorem prod_eq {J : List J3} (g : ∀ j ∈ J, Ok j) : prodQ J = Rat.divInt (NP (J.map jq)) (DP (J.map jq)) := by
  have := prod_div J 1 1 (by decide) g
  rw [Int.one_mul, Int.one_mul] at this
  exact this
theorem two_lt {a b : Int} (hb : 0 < b) : (2 : Rat) < Rat.divInt a b ↔ 2 * b < a := by
  rw [Rat.lt_iff]
  have ln := low_num (a := a) (b := b) hb
  have ld := low_den (a := a) (b := b) hb
  have w0 : (0 : Int) < (Int.gcd a b : Int) := by have := gcd_pos (a := a) (b := b) hb; omega
  have ga : (Int.gcd a b : Int) ∣ a := Int.gcd_dvd_left ..
  have gb : (Int.gcd a b : Int) ∣ b := Int.gcd_dvd_right ..
  rw [ln, ld]
  show (2 : Int) * _ < _ * 1 ↔ _
  obtain ⟨u, hu⟩ := ga
  obtain ⟨v, hv⟩ := gb
  generalize (Int.gcd a b : Int) = w at *
  rw [hu, hv, Int.mul_ediv_cancel_left _ (by omega), Int.mul_ediv_cancel_left _ (by omega), Int.mul_one]
  have e : 2 * (w * v) = w * (2 * v) := by rw [← Int.mul_assoc, Int.mul_comm 2 w, Int.mul_assoc]
  rw [e]
  exact (Int.mul_lt_mul_left w0).symm
end K08
end
section
set_option linter.all false
set_option autoImplicit false
set_option Elab.async false
set_option maxRecDepth 100000
set_option maxHeartbeats 4000000
namespace K08
open PySem Rt
/-! the law's jobs -/
def JB (call : Nat → Rt.Fn) : Sm := (sSeq (sSet 4 (xBin dAdd (xCon (.int 2)) (xCall (call 19) [(xVar 0), (xBin dAdd (xBin dAdd (xVar 1) (xCon (.int 1))) (xBin dMul (xCon (.int 3)) (xVar 3))), (xIdx (xLst [(false, (xCon (.int 10))), (false, (xCon (.int 30)))]) (xCall (call 19) [(xVar 0), (xBin dAdd (xVar 1) (xCon (.int 20))), (xCon (.int 2))]))])))
  (sSeq (sSet 5 (xBin dAdd (xCon (.int 1)) (xCall (call 19) [(xVar 0), (xBin dAdd (xBin dAdd (xVar 1) (xCon (.int 2))) (xBin dMul (xCon (.int 3)) (xVar 3))), (xBin dAdd (xCon (.int 1)) (xBin dDiv (xVar 4) (xCon (.int 3))))])))
  (sApp 2 (xTup [(false, (xVar 5)), (false, (xVar 4)), (false, (xIdx (xLst [(false, (xVar 4)), (false, (xBin dAdd (xCon (.int 1)) (xCall (call 19) [(xVar 0), (xBin dAdd (xBin dAdd (xVar 1) (xCon (.int 3))) (xBin dMul (xCon (.int 3)) (xVar 3))), (xVar 4)])))]) (xCall (call 19) [(xVar 0), (xBin dAdd (xVar 1) (xCon (.int 21))), (xCon (.int 2))])))]))))
theorem jb_ (n : Nat) (ys : List Int) {f t : Int} {F : List J3} {a4 a5 : Slot} (f0 : 0 ≤ f) (t0 : 0 ≤ t) (t1 : t < 10) (fl : F.length ≤ 10) : ∃ σ', JB (run T (n + 1)) [some (LI ys, false), some (.int f, false), some (LJ F, true), some (.int t, false), a4, a5] = .nx σ' ∧ ∃ (j : J3) (a4 a5 : Slot), Ok j ∧ σ' = [some (LI ys, false), some (.int f, false), some (LJ (F ++ [j]), true), some (.int t, false), a4, a5] := by
  have mu : dMul (.int 3) (.int t) = some (.int (3 * t), false) := mul_r (by omega) (by omega)
  obtain ⟨c, c0, c1, ec⟩ := mxn n ys (f + 20) 2 (by omega) (by decide)
  have ix := idx2 10 30 c c0 c1
  have g2 := getD2 10 30 c c0 c1
  generalize ([10, 30] : List Int).getD c.toNat 0 = w at *
  obtain ⟨p, p0, p1, ep⟩ := mxn n ys (f + 1 + 3 * t) w (by omega) (by omega)
  have q0 : 0 ≤ (2 + p) / 3 := Int.ediv_nonneg (by omega) (by omega)
  have q1 : (2 + p) / 3 ≤ 2 + p := Int.ediv_le_self _ (by omega)
  obtain ⟨c2, _, c21, e2⟩ := mxn n ys (f + 2 + 3 * t) (1 + (2 + p) / 3) (by omega) (by omega)
  obtain ⟨dd, d0, d1, ed⟩ := mxn n ys (f + 3 + 3 * t) (2 + p) (by omega) (by omega)
  obtain ⟨z, z0, z1, ez⟩ := mxn n ys (f + 21) 2 (by omega) (by decide)
  have ix2 := idx2 (2 + p) (1 + dd) z z0 z1
  have g3 := getD2 (2 + p) (1 + dd) z z0 z1
  generalize ([2 + p, 1 + dd] : List Int).getD z.toNat 0 = v at *
  refine ⟨[some (LI ys, false), some (.int f, false), some (LJ (F ++ [(1 + c2, 2 + p, v)]), true), some (.int t, false), some (.int (2 + p), false), some (.int (1 + c2), false)], ?_, _, _, _, ⟨?_, ?_, ?_, ?_, ?_⟩, rfl⟩
  · have dv : dDiv (.int (2 + p)) (.int 3) = _ := div_s (by decide) (by decide)
    have ap : (F ++ [(1 + c2, 2 + p, v)]).map TR = F.map TR ++ [.tup [.int (1 + c2), .int (2 + p), .int v]] := by rw [List.map_append]; rfl
    have zl : (F.map TR).length < line := by rw [List.length_map, line_val]; omega
    simp only [LI, LJ] at *
    rw [ap]
    generalize F.map TR = FM at *
    generalize ys.map D.int = YM at *
    generalize (2 + p) / 3 = q at *
    simp [JB, mu, ec, ix, le2_, ep, dv, e2, ed, ez, ix2, l3_, zl]
  · show 1 ≤ 1 + c2; omega
  · show 1 + c2 ≤ 60; omega
  · show 1 ≤ v; omega
  · show v ≤ 2 + p; omega
  · show 2 + p ≤ 60; omega
theorem lawJobs (n : Nat) (ys : List Int) {f : Int} (f0 : 0 ≤ f) : ∃ J, Js J ∧ J.length ≤ 4 ∧ run T (n + 2) 27 [LI ys, .int f] = .ok (LJ J, true) := by
  obtain ⟨c, c0, c1, ec⟩ := mxn n ys f 4 f0 (by decide)
  obtain ⟨σ', e, r⟩ := for_upto (g := gName 3) (b := JB (run T (n + 1))) (lo := 0) (n := (1 + c).toNat) (fun i σ => ∃ (F : List J3) (o3 o4 o5 : Slot), (∀ j ∈ F, Ok j) ∧ F.length = i ∧ σ = [some (LI ys, false), some (.int f, false), some (LJ F, true), o3, o4, o5]) (by
    rintro i σ hi ⟨F, o3, o4, o5, gF, fl, rfl⟩
    rw [Int.zero_add, stp_of (σ' := [some (LI ys, false), some (.int f, false), some (LJ F, true), some (.int (i : Int), false), o4, o5]) (by simp)]
    obtain ⟨σ', e, j, a4, a5, ok, rfl⟩ := jb_ n ys (F := F) (t := (i : Int)) (a4 := o4) (a5 := o5) f0 (by omega) (by omega) (by omega)
    refine ⟨_, e, F ++ [j], _, _, _, fun x hx => ?_, by simp; omega, rfl⟩
    rcases List.mem_append.mp hx with h | h
    · exact gF x h
    · rw [List.mem_singleton.mp h]; exact ok) (σ := [some (LI ys, false), some (.int f, false), some (LJ [], true), none, none, none]) ⟨[], none, none, none, (fun j hj => by cases hj), rfl, rfl⟩
  obtain ⟨J, o3, o4, o5, gJ, jl, rfl⟩ := r
  refine ⟨J, ⟨gJ, by omega, by omega⟩, by omega, (run_at (f := d__law_jobs.df) rfl _ rfl).trans ?_⟩
  show ends (sSeq (sSet 2 (xLst [])) (sSeq (sFor (gName 3) (iRng1 (xBin dAdd (xCon (.int 1)) (xCall (run T (n + 1) 19) [(xVar 0), (xVar 1), (xCon (.int 4))]))) (JB (run T (n + 1)))) (sRet (xVar 2))) [some (LI ys, false), some (.int f, false), none, none, none, none]) = _
  have kr : okRng (1 + c) = true := okRng_of (by omega) (by omega)
  simp only [LI, LJ, List.map_nil] at *
  generalize J.map TR = JM at *
  generalize ys.map D.int = YM at *
  generalize JB (run T (n + 1)) = B at *
  simp [l0_, ec, kr, -List.map_map, e]
/-! minute by minute -/
theorem eqv_trs (p q : J3) : PyData.eqv (TR p).py (TR q).py = decide (p = q) := by
  rw [py_tr, py_tr]
  obtain ⟨p1, p2, p3⟩ := p
  obtain ⟨q1, q2, q3⟩ := q
  simp only [PyData.eqv, PyData.eqvAll, Prod.mk.injEq, Bool.and_true, Bool.decide_and]
  rfl
theorem cmp_neT (p q : J3) : cmpD .ne (TR p) (TR q) = some (!decide (p = q)) := by
  show (if okEq (TR p).py (TR q).py then some (PyData.eqv (TR p).py (TR q).py) else none).map not = _
  have ok : okEq (TR p).py (TR q).py = true := by
    rw [py_tr, py_tr]
    simp [okEq, PyData.plain, PyData.plainAll, PyData.depth, PyData.depthAll]
  rw [if_pos ok, eqv_trs]; rfl
theorem cmp_eqN (L : List J3) : cmpD .eq (LJ L) (.lst []) = some L.isEmpty := by
  have := cmp_neN_tr L
  have e : cmpD .ne (LJ L) (.lst []) = (cmpD .eq (LJ L) (.lst [])).map not := rfl
  rw [show cmpD .ne (.lst (L.map TR)) (.lst []) = cmpD .ne (LJ L) (.lst []) from rfl, e] at this
  cases q : cmpD .eq (LJ L) (.lst []) with
  | none => rw [q] at this; cases this
  | some b =>
    rw [q] at this
    have := Option.some.inj this
    cases b <;> cases h : L.isEmpty <;> simp [h] at this ⊢
def arrN (J : List J3) (t : Int) (i : Nat) : List J3 := ((upto 0 i).filter fun k => decide (t % (gt J k).2.1 = 0)).map fun k => (k, t, (gt J k).1)
theorem up_succ (a : Int) (n : Nat) : upto a (n + 1) = upto a n ++ [a + (n : Int)] := by
  unfold upto
  rw [List.range_succ, List.map_append]; rfl
theorem arrN_succ (J : List J3) (t : Int) (i : Nat) : arrN J t (i + 1) = arrN J t i ++ (if t % (gt J (i : Int)).2.1 = 0 then [((i : Int), t, (gt J (i : Int)).1)] else []) := by
  unfold arrN
  rw [up_succ, List.filter_append, List.map_append, Int.zero_add]
  congr 1
  rw [List.filter_cons]
  by_cases c : t % (gt J (i : Int)).2.1 = 0
  · rw [if_pos (decide_eq_true c), if_pos c]; rfl
  · rw [if_neg (by simp [c]), if_neg c]; rfl
theorem arrN_len (J : List J3) (t : Int) (i : Nat) : (arrN J t i).length ≤ i := by
  unfold arrN
  rw [List.length_map]
  have := List.length_filter_le (fun k => decide (t % (gt J k).2.1 = 0)) (upto 0 i)
  rw [up_len] at this
  exact this
def IB : Sm := (sIf (tOf (xCmp .eq (xBin dMod (xBi bInt [(xVar 5)]) (xIdx (xIdx (xVar 0) (xVar 6)) (xCon (.int 1)))) (xCon (.int 0))))
  (sApp 2 (xTup [(false, (xVar 6)), (false, (xVar 5)), (false, (xIdx (xIdx (xVar 0) (xVar 6)) (xCon (.int 0))))]))
  sPass)
def M2 : Sm := (sIf (tOf (xCmp .eq (xVar 2) (xLst [])))
  (sApp 3 (xCon .non))
  (sSeq (sTg (gTup [(gName 6), (gName 7), (gName 8)]) (xBi bMin [(xVar 2)]))
  (sSeq (sSet 2 (xLC [9] (iSeq (xVar 2)) (gName 9) (tOf (xCmp .ne (xVar 9) (xTup [(false, (xVar 6)), (false, (xVar 7)), (false, (xVar 8))]))) (xVar 9)))
  (sSeq (sApp 3 (xVar 6))
  (sIf (tOf (xCmp .gt (xVar 8) (xCon (.int 1))))
  (sApp 2 (xTup [(false, (xVar 6)), (false, (xVar 7)), (false, (xBin dSub (xVar 8) (xCon (.int 1))))]))
  (sApp 4 (xTup [(false, (xVar 6)), (false, (xVar 7)), (false, (xBin dAdd (xVar 5) (xCon (.int 1))))])))))))
def RB : Sm := sSeq (sFor (gName 6) (iRng1 (xBi bLen [(xVar 0)])) IB) M2
abbrev EN (J : List J3) (m : Int) (L : List J3) (row : List (Option Int)) (dn : List J3) (a5 a6 a7 a8 a9 : Slot) : Rt.Env := [some (LJ J, false), some (.int m, false), some (LJ L, true), some (LA row, true), some (LJ dn, true), a5, a6, a7, a8, a9]
theorem i_loop {J : List J3} (g : Js J) {m t : Int} {L : List J3} {row : List (Option Int)} {dn : List J3} {a6 a7 a8 a9 : Slot} (hl : L.length ≤ 5000) : ∃ σ', sFor (gName 6) (iRng1 (xBi bLen [(xVar 0)])) IB (EN J m L row dn (some (.int t, false)) a6 a7 a8 a9) = .nx σ' ∧ ∃ a6 : Slot, σ' = EN J m (L ++ arr J t) row dn (some (.int t, false)) a6 a7 a8 a9 := by
  obtain ⟨σ', e, r⟩ := for_upto (g := gName 6) (b := IB) (lo := 0) (n := J.length) (fun i σ => ∃ a6 : Slot, σ = EN J m (L ++ arrN J t i) row dn (some (.int t, false)) a6 a7 a8 a9) (by
    rintro i σ hi ⟨a6, rfl⟩
    rw [Int.zero_add]
    have ix := idx_gt (J := J) (k := (i : Int)) (by omega) (by omega)
    have mf := mkF_tr (gt J (i : Int))
    have i0 := tr0 (gt J (i : Int))
    have i1 := tr1 (gt J (i : Int))
    have ok := g.at (k := (i : Int)) (by omega) (by omega)
    have md : dMod (.int t) (.int (gt J (i : Int)).2.1) = _ := mod_s (by have := ok.t0; omega)
    have al := arrN_len J t i
    have gn := g.n
    have zl : ((L ++ arrN J t i).map TR).length < line := by rw [List.length_map, List.length_append, line_val]; omega
    rw [arrN_succ]
    by_cases c : t % (gt J (i : Int)).2.1 = 0
    · rw [if_pos c]
      refine ⟨EN J m (L ++ (arrN J t i ++ [((i : Int), t, (gt J (i : Int)).1)])) row dn (some (.int t, false)) (some (.int (i : Int), false)) a7 a8 a9, ?_, _, rfl⟩
      have ap : (L ++ (arrN J t i ++ [((i : Int), t, (gt J (i : Int)).1)])).map TR = (L ++ arrN J t i).map TR ++ [.tup [.int (i : Int), .int t, .int (gt J (i : Int)).1]] := by rw [← List.append_assoc, List.map_append]; rfl
      rw [c] at md
      simp only [EN, LJ, LA] at *
      rw [ap]
      generalize (gt J (i : Int)).1 = w at *
      generalize (gt J (i : Int)).2.1 = p at *
      generalize TR (gt J (i : Int)) = G at *
      generalize (L ++ arrN J t i).map TR = LM at *
      generalize row.map oA = RM at *
      generalize dn.map TR = DM at *
      generalize J.map TR = JM at *
      simp [stp, IB, ix, mf, i0, i1, md, l3_, zl]
    · rw [if_neg c]
      refine ⟨EN J m (L ++ (arrN J t i ++ [])) row dn (some (.int t, false)) (some (.int (i : Int), false)) a7 a8 a9, ?_, _, rfl⟩
      rw [List.append_nil]
      simp only [EN, LJ, LA] at *
      generalize t % (gt J (i : Int)).2.1 = r at *
      generalize (gt J (i : Int)).2.1 = p at *
      generalize TR (gt J (i : Int)) = G at *
      generalize (L ++ arrN J t i).map TR = LM at *
      generalize row.map oA = RM at *
      generalize dn.map TR = DM at *
      generalize J.map TR = JM at *
      simp [stp, IB, ix, mf, i1, md, c]) (σ := EN J m L row dn (some (.int t, false)) a6 a7 a8 a9) ⟨a6, by rw [show arrN J t 0 = [] from rfl, List.append_nil]⟩
  obtain ⟨a6', rfl⟩ := r
  refine ⟨_, ?_, a6', rfl⟩
  have bl : bLen [LJ J] = some (.int ((J.length : Nat) : Int), false) := by simp
  have kr : okRng (J.length : Int) = true := okRng_of (by omega) (by have := g.n; omega)
  rw [sFor_eq]
  rw [show arrN J t J.length = arr J t from rfl] at *
  simp only [EN, LJ, LA] at *
  generalize (L ++ arr J t).map TR = LM2 at *
  generalize L.map TR = LM at *
  generalize row.map oA = RM at *
  generalize dn.map TR = DM at *
  generalize J.map TR = JM at *
  generalize IB = B at *
  simp [-bLen_lst, bl, kr, e]
theorem m2_ {J : List J3} {m t : Int} {L : List J3} {row : List (Option Int)} {dn : List J3} {a6 a7 a8 a9 : Slot} (hl : L.length ≤ 6000) (hr : row.length ≤ 1000) (hd : dn.length ≤ 1000) : ∃ σ', M2 (EN J m L row dn (some (.int t, false)) a6 a7 a8 a9) = .nx σ' ∧ ∃ a6 a7 a8 a9 : Slot, σ' = EN J m (stepL L row dn t).left (stepL L row dn t).row (stepL L row dn t).done (some (.int t, false)) a6 a7 a8 a9 := by
  have ce := cmp_eqN L
  have zr : (row.map oA).length < line := by rw [List.length_map, line_val]; omega
  have zd : (dn.map TR).length < line := by rw [List.length_map, line_val]; omega
  unfold stepL
  by_cases ne : L = []
  · rw [if_pos ne]
    subst ne
    refine ⟨EN J m [] (row ++ [none]) dn (some (.int t, false)) a6 a7 a8 a9, ?_, _, _, _, _, rfl⟩
    have ap : (row ++ [none]).map oA = row.map oA ++ [.non] := by rw [List.map_append]; rfl
    simp only [EN, LJ, LA] at *
    rw [ap]
    simp only [List.map_nil] at *
    generalize row.map oA = RM at *
    generalize dn.map TR = DM at *
    generalize J.map TR = JM at *
    have ce : cmpD .eq (.lst []) (.lst []) = some true := ce
    simp [M2, ce, l0_, zr]
  · rw [if_neg ne]
    have nE : L.isEmpty = false := by cases L with | nil => exact (ne rfl).elim | cons a b => rfl
    rw [nE] at ce
    have bm := bMin_trs ne
    generalize mnT L = q at *
    have mf := mkF_tr q
    have lc : ∀ b6 b7 b8 : Slot, b6 = some (.int q.1, false) → b7 = some (.int q.2.1, false) → b8 = some (.int q.2.2, false) → lcGo [9] (gName 9) (tOf (xCmp .ne (xVar 9) (xTup [(false, (xVar 6)), (false, (xVar 7)), (false, (xVar 8))]))) (xVar 9) (EN J m L row dn (some (.int t, false)) b6 b7 b8 none) (L.map TR) = .ok ((L.filter fun e => !decide (e = q)).map TR, []) := fun b6 b7 b8 e6 e7 e8 => lc_fm TR (fun e => !decide (e = q)) TR L (fun e _ => ⟨EN J m L row dn (some (.int t, false)) b6 b7 b8 (some (TR e, false)), by simp, by
      subst e6 e7 e8
      have cn := cmp_neT e q
      have tq : TR q = .tup [.int q.1, .int q.2.1, .int q.2.2] := rfl
      rw [tq] at cn
      generalize TR e = E at *
      simp [l3_, cn], fun _ => by simp⟩)
    have lc := lc _ _ _ rfl rfl rfl
    have fl : (L.filter fun e => !decide (e = q)).length ≤ 6000 := by have := List.length_filter_le (fun e => !decide (e = q)) L; omega
    have zf : ((L.filter fun e => !decide (e = q)).map TR).length ≤ line := by rw [List.length_map, line_val]; omega
    have zf2 : ((L.filter fun e => !decide (e = q)).map TR).length < line := by rw [List.length_map, line_val]; omega
    have mk := mkN_trs (L.filter fun e => !decide (e = q))
    have ap : (row ++ [some q.1]).map oA = row.map oA ++ [.int q.1] := by rw [List.map_append]; rfl
    have tg : gTup [(gName 6), (gName 7), (gName 8)] (TR q) (EN J m L row dn (some (.int t, false)) a6 a7 a8 a9) = some (EN J m L row dn (some (.int t, false)) (some (.int q.1, false)) (some (.int q.2.1, false)) (some (.int q.2.2, false)) a9) := by simp [TR]
    by_cases c : 1 < q.2.2
    · rw [if_pos c]
      refine ⟨EN J m (L.filter (fun e => !decide (e = q)) ++ [(q.1, q.2.1, q.2.2 - 1)]) (row ++ [some q.1]) dn (some (.int t, false)) (some (.int q.1, false)) (some (.int q.2.1, false)) (some (.int q.2.2, false)) a9, ?_, _, _, _, _, rfl⟩
      have ap2 : (L.filter (fun e => !decide (e = q)) ++ [(q.1, q.2.1, q.2.2 - 1)]).map TR = (L.filter fun e => !decide (e = q)).map TR ++ [.tup [.int q.1, .int q.2.1, .int (q.2.2 - 1)]] := by rw [List.map_append]; rfl
      simp only [EN, LJ, LA] at *
      rw [ap, ap2]
      generalize TR q = Q at *
      generalize (L.filter fun e => !decide (e = q)).map TR = FM at *
      generalize L.map TR = LM at *
      generalize row.map oA = RM at *
      generalize dn.map TR = DM at *
      generalize J.map TR = JM at *
      simp [M2, ce, l0_, bm, mf, tg, lc, zf, mk, zr, c, l3_, zf2]
    · rw [if_neg c]
      refine ⟨EN J m (L.filter (fun e => !decide (e = q))) (row ++ [some q.1]) (dn ++ [(q.1, q.2.1, t + 1)]) (some (.int t, false)) (some (.int q.1, false)) (some (.int q.2.1, false)) (some (.int q.2.2, false)) a9, ?_, _, _, _, _, rfl⟩
      have ap2 : (dn ++ [(q.1, q.2.1, t + 1)]).map TR = dn.map TR ++ [.tup [.int q.1, .int q.2.1, .int (t + 1)]] := by rw [List.map_append]; rfl
      simp only [EN, LJ, LA] at *
      rw [ap, ap2]
      generalize TR q = Q at *
      generalize (L.filter fun e => !decide (e = q)).map TR = FM at *
      generalize L.map TR = LM at *
      generalize row.map oA = RM at *
      generalize dn.map TR = DM at *
      generalize J.map TR = JM at *
      simp [M2, ce, l0_, bm, mf, tg, lc, zf, mk, zr, c, l3_, zd]
theorem lawRow (n : Nat) {J : List J3} (g : Js J) {m : Nat} (hm : m ≤ 400) : run T (n + 1) 28 [LJ J, .int m] = .ok (.tup [LA (sim J m).row, LJ (sim J m).done], false) := by
  refine (run_at (f := d__law_row.df) rfl _ rfl).trans ?_
  show ends (sSeq (sSet 2 (xLst [])) (sSeq (sSet 3 (xLst [])) (sSeq (sSet 4 (xLst [])) (sSeq (sFor (gName 5) (iRng1 (xVar 1)) RB) (sRet (xTup [(false, (xVar 3)), (false, (xVar 4))]))))) [some (LJ J, false), some (.int m, false), none, none, none, none, none, none, none, none]) = _
  obtain ⟨σ', e, r⟩ := for_upto (g := gName 5) (b := RB) (lo := 0) (n := m) (fun i σ => ((sim J i).left.length ≤ 6 * i ∧ (sim J i).row.length = i ∧ (sim J i).done.length ≤ i) ∧ ∃ a5 a6 a7 a8 a9 : Slot, σ = EN J m (sim J i).left (sim J i).row (sim J i).done a5 a6 a7 a8 a9) (by
    rintro i σ hi ⟨⟨l1, l2, l3⟩, a5, a6, a7, a8, a9, rfl⟩
    rw [Int.zero_add, stp_of (σ' := EN J m (sim J i).left (sim J i).row (sim J i).done (some (.int (i : Int), false)) a6 a7 a8 a9) (by simp)]
    obtain ⟨σ1, e1, b6, rfl⟩ := i_loop g (m := (m : Int)) (t := (i : Int)) (L := (sim J i).left) (row := (sim J i).row) (dn := (sim J i).done) (a6 := a6) (a7 := a7) (a8 := a8) (a9 := a9) (by omega)
    have al := arrN_len J (i : Int) J.length
    rw [show arrN J (i : Int) J.length = arr J (i : Int) from rfl] at al
    have gn := g.n
    obtain ⟨σ2, e2, c6, c7, c8, c9, rfl⟩ := m2_ (J := J) (m := (m : Int)) (t := (i : Int)) (L := (sim J i).left ++ arr J (i : Int)) (row := (sim J i).row) (dn := (sim J i).done) (a6 := b6) (a7 := a7) (a8 := a8) (a9 := a9) (by rw [List.length_append]; omega) (by omega) (by omega)
    have sl := step_len ((sim J i).left ++ arr J (i : Int)) (sim J i).row (sim J i).done (i : Int)
    rw [List.length_append] at sl
    refine ⟨_, ?_, ⟨?_, ?_, ?_⟩, some (.int (i : Int), false), c6, c7, c8, c9, rfl⟩
    · show sSeq _ _ _ = _
      rw [sSeq_eq, e1, O.bd_nx, e2]
      rfl
    · show (stepL ((sim J i).left ++ arr J (i : Int)) (sim J i).row (sim J i).done (i : Int)).left.length ≤ _; omega
    · show (stepL ((sim J i).left ++ arr J (i : Int)) (sim J i).row (sim J i).done (i : Int)).row.length = _; omega
    · show (stepL ((sim J i).left ++ arr J (i : Int)) (sim J i).row (sim J i).done (i : Int)).done.length ≤ _; omega) (σ := EN J m [] [] [] none none none none none) ⟨⟨Nat.zero_le _, rfl, Nat.zero_le _⟩, none, none, none, none, none, rfl⟩
  obtain ⟨_, a5, a6, a7, a8, a9, rfl⟩ := r
  have kr : okRng (m : Int) = true := okRng_of (by omega) (by omega)
  have fz : ∀ (k : Rt.Env → O) (A B : D), True := fun _ _ _ => trivial
  simp only [EN, LJ, LA, List.map_nil] at *
  generalize (sim J m).left.map TR = LM at *
  generalize (sim J m).row.map oA = RM at *
  generalize (sim J m).done.map TR = DM at *
  generalize J.map TR = JM at *
  generalize RB = B at *
  simp [l0_, kr, e, le2_]
  rfl
end K08
end
section
set_option linter.all false
set_option autoImplicit false
set_option Elab.async false
set_option maxRecDepth 100000
set_option maxHeartbeats 4000000
namespace K08
open PySem Rt
/-! the law's answers -/
theorem take_last {J : List J3} {k : Int} (h : 0 ≤ k) (h2 : k < J.length) : J.take (k + 1).toNat = J.take k.toNat ++ [gt J k] := by
  have l : k.toNat < J.length := by omega
  rw [show (k + 1).toNat = k.toNat + 1 by omega, List.take_add_one, List.getElem?_eq_getElem l]
  unfold gt
  rw [List.getD_eq_getElem?_getD, List.getElem?_eq_getElem l]; rfl
def ansK (J : List J3) (k : Int) : Option Int := ansO (J.take k.toNat) (gt J k)
def AB (call : Nat → Rt.Fn) : Sm := (sSeq (sTg (gTup [(gName 4), (gName 5)]) (xCall (call 28) [(xSlice (xVar 0) none (some (xBin dAdd (xVar 2) (xCon (.int 1))))), (xIdx (xIdx (xVar 0) (xVar 2)) (xCon (.int 2)))]))
  (sSeq (sSet 3 (xLC [6, 7, 8] (iSeq (xVar 5)) (gTup [(gName 6), (gName 7), (gName 8)]) (tAnd (tOf (xCmp .eq (xVar 6) (xVar 2))) (tOf (xCmp .eq (xVar 7) (xCon (.int 0))))) (xVar 8)))
  (sApp 1 (xIdx (xBin dAdd (xVar 3) (xLst [(false, (xCon .non))])) (xCon (.int 0))))))
theorem ab_ (n : Nat) {J : List J3} (g : Js J) {k : Int} (h : 0 ≤ k) (h2 : k < J.length) {F : List (Option Int)} (fl : F.length ≤ 100) {a3 a4 a5 : Slot} : ∃ σ', AB (run T (n + 1)) [some (LJ J, false), some (LA F, true), some (.int k, false), a3, a4, a5, none, none, none] = .nx σ' ∧ ∃ a3 a4 a5 : Slot, σ' = [some (LJ J, false), some (LA (F ++ [ansK J k]), true), some (.int k, false), a3, a4, a5, none, none, none] := by
  have ok := g.at h h2
  have d0 := ok.d0
  have d1 := ok.d1
  have t1 := ok.t1
  have tl := take_last h h2
  have ct := cut_j J (k + 1) (by omega)
  rw [tl] at ct
  have ct : cutL (J.map TR) none (some (k + 1)) = (JJ (J.take k.toNat) (gt J k)).map TR := ct
  have gk : Js (JJ (J.take k.toNat) (gt J k)) := ⟨fun j hj => by
    rcases List.mem_append.mp hj with q | q
    · exact g.ok j (List.mem_of_mem_take q)
    · rw [List.mem_singleton.mp q]; exact ok, by rw [List.length_append]; simp, by
    have := g.n
    rw [List.length_append, List.length_take, List.length_singleton]; omega⟩
  have hl : (J.take k.toNat).length = k.toNat := by rw [List.length_take]; omega
  have lr := lawRow n gk (m := (gt J k).2.2.toNat) (by omega)
  rw [show (((gt J k).2.2.toNat : Nat) : Int) = (gt J k).2.2 by omega] at lr
  have sa := sim_ans (h := J.take k.toNat) (j := gt J k) (fun i hi => g.ok i (List.mem_of_mem_take hi)) ok
  have ix := idx_gt h h2
  have mf := mkF_tr (gt J k)
  have i2 := tr2 (gt J k)
  generalize hS : sim (JJ (J.take k.toNat) (gt J k)) (gt J k).2.2.toNat = S at *
  have lc := lc_fm (own := [6, 7, 8]) (g := gTup [(gName 6), (gName 7), (gName 8)]) (t := (tAnd (tOf (xCmp .eq (xVar 6) (xVar 2))) (tOf (xCmp .eq (xVar 7) (xCon (.int 0)))))) (e := xVar 8) (σ := [some (LJ J, false), some (LA F, true), some (.int k, false), a3, some (LA S.row, false), some (LJ S.done, false), none, none, none]) TR (mine (J.take k.toNat)) (fun e => D.int e.2.2) S.done (fun e _ => ⟨[some (LJ J, false), some (LA F, true), some (.int k, false), a3, some (LA S.row, false), some (LJ S.done, false), some (.int e.1, false), some (.int e.2.1, false), some (.int e.2.2, false)], by simp [TR], by
    unfold mine
    rw [hl, show ((k.toNat : Nat) : Int) = k by omega]
    by_cases c1 : e.1 = k <;> by_cases c2 : e.2.1 = 0 <;> simp [c1, c2], fun _ => by simp⟩)
  have sp : (S.done.filter (mine (J.take k.toNat))).map (fun e => D.int e.2.2) = ((S.done.filter (mine (J.take k.toNat))).map fun e => e.2.2).map D.int := by rw [List.map_map]; rfl
  rw [sp, sa] at lc
  have tg : gTup [(gName 4), (gName 5)] (.tup [LA S.row, LJ S.done]) [some (LJ J, false), some (LA F, true), some (.int k, false), a3, a4, a5, none, none, none] = some [some (LJ J, false), some (LA F, true), some (.int k, false), a3, some (LA S.row, false), some (LJ S.done, false), none, none, none] := by simp
  have zF : (F.map oA).length < line := by rw [List.length_map, line_val]; omega
  have ap : (F ++ [ansK J k]).map oA = F.map oA ++ [oA (ansK J k)] := by rw [List.map_append]; rfl
  have e0 : ansO (J.take k.toNat) (gt J k) = ansK J k := rfl
  rw [e0] at lc
  generalize ansK J k = A at *
  have mkt : ∀ p, mkF (.tup [LA S.row, LJ S.done]) p = ⟨.tup [LA S.row, LJ S.done], .fz, p⟩ := fun p => by cases p <;> rfl
  have st : AB (run T (n + 1)) [some (LJ J, false), some (LA F, true), some (.int k, false), a3, a4, a5, none, none, none] = sSeq (sSet 3 (xLC [6, 7, 8] (iSeq (xVar 5)) (gTup [(gName 6), (gName 7), (gName 8)]) (tAnd (tOf (xCmp .eq (xVar 6) (xVar 2))) (tOf (xCmp .eq (xVar 7) (xCon (.int 0))))) (xVar 8))) (sApp 1 (xIdx (xBin dAdd (xVar 3) (xLst [(false, (xCon .non))])) (xCon (.int 0)))) [some (LJ J, false), some (LA F, true), some (.int k, false), a3, some (LA S.row, false), some (LJ S.done, false), none, none, none] := by
    show sSeq _ _ _ = _
    rw [sSeq_eq]
    have e1 : sTg (gTup [(gName 4), (gName 5)]) (xCall (run T (n + 1) 28) [(xSlice (xVar 0) none (some (xBin dAdd (xVar 2) (xCon (.int 1))))), (xIdx (xIdx (xVar 0) (xVar 2)) (xCon (.int 2)))]) [some (LJ J, false), some (LA F, true), some (.int k, false), a3, a4, a5, none, none, none] = .nx [some (LJ J, false), some (LA F, true), some (.int k, false), a3, some (LA S.row, false), some (LJ S.done, false), none, none, none] := by
      have mn := mkN_trs (JJ (J.take k.toNat) (gt J k))
      generalize (gt J k).2.2 = dd at *
      generalize TR (gt J k) = G at *
      generalize JJ (J.take k.toNat) (gt J k) = HJ at *
      simp only [LJ, LA] at *
      generalize HJ.map TR = HM at *
      generalize S.row.map oA = SR at *
      generalize S.done.map TR = SD at *
      generalize F.map oA = FM at *
      generalize J.map TR = JM at *
      generalize D.tup [.lst SR, .lst SD] = TP at *
      simp [ct, mn, ix, mf, i2, lr, mkt, tg]
    rw [e1, O.bd_nx]
  rw [st]
  cases A with
  | none =>
    refine ⟨[some (LJ J, false), some (LA (F ++ [none]), true), some (.int k, false), some (.lst [], true), some (LA S.row, false), some (LJ S.done, false), none, none, none], ?_, _, _, _, rfl⟩
    have lc : lcGo _ _ _ _ _ _ = .ok ([], []) := lc
    have ix0 : dIdx (.lst [.non]) (.int 0) = some .non := rfl
    have ad : dAdd (.lst []) (.lst [.non]) = some (.lst [.non], true) := dAdd_lst (by decide)
    have ap : (F ++ [none]).map oA = F.map oA ++ [.non] := ap
    simp only [LJ, LA] at *
    rw [ap]
    generalize S.row.map oA = SR at *
    generalize S.done.map TR = SD at *
    generalize F.map oA = FM at *
    generalize J.map TR = JM at *
    simp [lc, l0_, l1_, ad, ix0, zF]
  | some R =>
    refine ⟨[some (LJ J, false), some (LA (F ++ [some R]), true), some (.int k, false), some (.lst [.int R], true), some (LA S.row, false), some (LJ S.done, false), none, none, none], ?_, _, _, _, rfl⟩
    have lc : lcGo _ _ _ _ _ _ = .ok ([.int R], []) := lc
    have ix0 : dIdx (.lst [.int R, .non]) (.int 0) = some (.int R) := rfl
    have ad : dAdd (.lst [.int R]) (.lst [.non]) = some (.lst [.int R, .non], true) := dAdd_lst le2_
    have ap : (F ++ [some R]).map oA = F.map oA ++ [.int R] := ap
    simp only [LJ, LA] at *
    rw [ap]
    generalize S.row.map oA = SR at *
    generalize S.done.map TR = SD at *
    generalize F.map oA = FM at *
    generalize J.map TR = JM at *
    simp [lc, l0_, l1_, ad, ix0, zF]
theorem lawAns (n : Nat) {J : List J3} (g : Js J) : run T (n + 2) 29 [LJ J] = .ok (LA (ansL J), true) := by
  refine (run_at (f := d__law_answers.df) rfl _ rfl).trans ?_
  show ends (sSeq (sSet 1 (xLst [])) (sSeq (sFor (gName 2) (iRng1 (xBi bLen [(xVar 0)])) (AB (run T (n + 1)))) (sRet (xVar 1))) [some (LJ J, false), none, none, none, none, none, none, none, none]) = _
  have gn := g.n
  obtain ⟨σ', e, r⟩ := for_upto (g := gName 2) (b := AB (run T (n + 1))) (lo := 0) (n := J.length) (fun i σ => ∃ a2 a3 a4 a5 : Slot, σ = [some (LJ J, false), some (LA ((upto 0 i).map (ansK J)), true), a2, a3, a4, a5, none, none, none]) (by
    rintro i σ hi ⟨a2, a3, a4, a5, rfl⟩
    rw [Int.zero_add, stp_of (σ' := [some (LJ J, false), some (LA ((upto 0 i).map (ansK J)), true), some (.int (i : Int), false), a3, a4, a5, none, none, none]) (by simp)]
    obtain ⟨σ', e, b3, b4, b5, rfl⟩ := ab_ n g (k := (i : Int)) (by omega) (by omega) (F := (upto 0 i).map (ansK J)) (a3 := a3) (a4 := a4) (a5 := a5) (by rw [List.length_map, up_len]; omega)
    refine ⟨_, e, some (.int (i : Int), false), b3, b4, b5, ?_⟩
    rw [up_succ, List.map_append, Int.zero_add]
    rfl) (σ := [some (LJ J, false), some (LA [], true), none, none, none, none, none, none, none]) ⟨none, none, none, none, rfl⟩
  obtain ⟨a2, a3, a4, a5, rfl⟩ := r
  have bl : bLen [LJ J] = some (.int ((J.length : Nat) : Int), false) := by simp
  have kr : okRng (J.length : Int) = true := okRng_of (by omega) (by omega)
  rw [show (upto 0 J.length).map (ansK J) = ansL J from rfl] at *
  simp only [LJ, LA, List.map_nil] at *
  generalize (ansL J).map oA = AM at *
  generalize J.map TR = JM at *
  generalize AB (run T (n + 1)) = B at *
  simp [l0_, -bLen_lst, bl, kr, e]
/-! the law's orders -/
def more (n : Nat) (r : List Int) : List (List Int) := ((upto 0 n).filter fun k => !decide (k ∈ r)).map fun k => r ++ [k]
def OL (n : Nat) : Nat → List (List Int)
  | 0 => [[]]
  | i + 1 => (OL n i).flatMap (more n)
theorem OL_mem (n : Nat) : ∀ (i : Nat) (r : List Int), r ∈ OL n i ↔ r.length = i ∧ r.Nodup ∧ ∀ k ∈ r, 0 ≤ k ∧ k < n
  | 0, r => by
    show r ∈ [[]] ↔ _
    constructor
    · intro h
      rw [List.mem_singleton.mp h]
      exact ⟨rfl, List.nodup_nil, fun k hk => by cases hk⟩
    · intro h
      rw [List.eq_nil_of_length_eq_zero h.1]; simp
  | i + 1, r => by
    show r ∈ (OL n i).flatMap (more n) ↔ _
    rw [List.mem_flatMap]
    constructor
    · rintro ⟨q, hq, h⟩
      obtain ⟨h1, h2, h3⟩ := (OL_mem n i q).mp hq
      unfold more at h
      obtain ⟨k, hk, rfl⟩ := List.mem_map.mp h
      obtain ⟨k1, k2⟩ := List.mem_filter.mp hk
      have k1 := up_mem.mp k1
      have k2 : k ∉ q := by simpa using k2
      refine ⟨by simp [h1], List.nodup_append.mpr ⟨h2, by simp, fun x hx y hy e => ?_⟩, fun x hx => ?_⟩
      · rw [List.mem_singleton.mp hy] at e
        exact k2 (e ▸ hx)
      · rcases List.mem_append.mp hx with hx | hx
        · exact h3 x hx
        · rw [List.mem_singleton.mp hx]; omega
    · rintro ⟨h1, h2, h3⟩
      rcases List.eq_nil_or_concat r with rfl | ⟨q, k, rfl⟩
      · simp at h1
      · rw [List.concat_eq_append] at *
        have nd := List.nodup_append.mp h2
        refine ⟨q, (OL_mem n i q).mpr ⟨by simpa using h1, nd.1, fun x hx => h3 x (List.mem_append_left _ hx)⟩, ?_⟩
        have hk := h3 k (by simp)
        exact List.mem_map.mpr ⟨k, List.mem_filter.mpr ⟨up_mem.mpr (by omega), by
          have : k ∉ q := fun h => nd.2.2 k h k (by simp) rfl
          simpa using this⟩, rfl⟩
theorem more_len (n : Nat) (r : List Int) : (more n r).length ≤ n := by
  unfold more
  rw [List.length_map]
  have := List.length_filter_le (fun k => !decide (k ∈ r)) (upto 0 n)
  rw [up_len] at this
  exact this
theorem flat_len (n : Nat) : ∀ R : List (List Int), (R.flatMap (more n)).length ≤ n * R.length
  | [] => by simp
  | r :: R => by
    rw [List.flatMap_cons, List.length_append, List.length_cons, Nat.mul_succ]
    have := more_len n r
    have := flat_len n R
    omega
theorem OL_len {n : Nat} (h : n ≤ 4) : ∀ i, i ≤ 4 → (OL n i).length ≤ 256
  | 0, _ => by show 1 ≤ 256; decide
  | 1, _ => by have := flat_len n (OL n 0); have e : (OL n 0).length = 1 := rfl; show ((OL n 0).flatMap (more n)).length ≤ _; rw [e] at this; omega
  | i + 2, hi => by
    have key : ∀ i, (OL n i).length ≤ 4 ^ i := fun i => by
      induction i with
      | zero => show 1 ≤ 1; decide
      | succ i ih =>
        have a := flat_len n (OL n i)
        have b : n * (OL n i).length ≤ 4 * 4 ^ i := Nat.mul_le_mul h ih
        show ((OL n i).flatMap (more n)).length ≤ _
        rw [Nat.pow_succ]; omega
    have := key (i + 2)
    have e : i + 2 = 2 ∨ i + 2 = 3 ∨ i + 2 = 4 := by omega
    rcases e with e | e | e <;> rw [e] at this ⊢ <;> omega
abbrev LO (R : List (List Int)) : D := .lst (R.map LI)
def OB : Sm := (sSet 3 (xBin dAdd (xVar 3) (xLC [5] (iRng1 (xVar 0)) (gName 5) (tOf (xCmp .nin (xVar 5) (xVar 4))) (xBin dAdd (xVar 4) (xLst [(false, (xVar 5))])))))
def OT : Sm := (sSeq (sSet 3 (xLst []))
  (sSeq (sFor (gName 4) (iSeq (xVar 1)) OB)
  (sSet 1 (xVar 3))))
theorem ob_ {n : Nat} (hn : n ≤ 4) {r : List Int} (hr : r.length ≤ 10) {M : List (List Int)} (hm : M.length ≤ 10000) {a1 a2 a4 : Slot} : stp (gName 4) OB (LI r) [some (.int (n : Int), false), a1, a2, some (LO M, true), a4, none] = .nx [some (.int (n : Int), false), a1, a2, some (LO (M ++ more n r), true), some (LI r, false), none] := by
  rw [stp_of (σ' := [some (.int (n : Int), false), a1, a2, some (LO M, true), some (LI r, false), none]) (by simp)]
  have lc := lc_fmN (own := [5]) (g := gName 5) (t := (tOf (xCmp .nin (xVar 5) (xVar 4)))) (e := (xBin dAdd (xVar 4) (xLst [(false, (xVar 5))]))) (σ := [some (.int (n : Int), false), a1, a2, some (LO M, true), some (LI r, false), none]) D.int (fun k => !decide (k ∈ r)) (fun k => LI (r ++ [k])) (upto 0 n) (fun k _ => ⟨[some (.int (n : Int), false), a1, a2, some (LO M, true), some (LI r, false), some (.int k, false)], by simp, by
    have ci := cmp_ninI k r
    simp only [LI] at *
    generalize r.map D.int = RM at *
    simp [ci], fun _ => by
    have ad : dAdd (.lst (r.map D.int)) (.lst [.int k]) = some (.lst (r.map D.int ++ [.int k]), true) := dAdd_lst (by rw [List.length_map, line_val]; simp; omega)
    have ap : (r ++ [k]).map D.int = r.map D.int ++ [.int k] := by simp
    simp only [LI] at *
    rw [ap]
    generalize r.map D.int = RM at *
    simp [ad, l1_]⟩)
  have sp : ((upto 0 n).filter fun k => !decide (k ∈ r)).map (fun k => LI (r ++ [k])) = (more n r).map LI := by unfold more; rw [List.map_map]; rfl
  rw [sp] at lc
  have ml := more_len n r
  have zm : ((more n r).map LI).length ≤ line := by rw [List.length_map, line_val]; omega
  have ad : dAdd (.lst (M.map LI)) (.lst ((more n r).map LI)) = some (.lst (M.map LI ++ (more n r).map LI), true) := dAdd_lst (by rw [List.length_map, List.length_map, line_val]; omega)
  have ap : (M ++ more n r).map LI = M.map LI ++ (more n r).map LI := by rw [List.map_append]
  have kr : okRng (n : Int) = true := okRng_of (by omega) (by omega)
  unfold LO
  rw [ap]
  simp only [LO] at *
  generalize (more n r).map LI = MM at *
  generalize M.map LI = NM at *
  simp only [LI] at *
  generalize r.map D.int = RM at *
  simp [OB, kr, lc, zm, ad]
theorem ordersP (d : Nat) {n : Nat} (hn : n ≤ 4) : ∃ b, run T (d + 1) 30 [.int (n : Int)] = .ok (LO (OL n n), b) := by
  have un : ∀ r, ends (b__law_orders (run T d) (begin_ 6 [.int (n : Int)])) = r → run T (d + 1) 30 [.int (n : Int)] = r := fun r h => (run_at (f := d__law_orders.df) rfl _ rfl).trans h
  obtain ⟨σ', e, r⟩ := for_upto (g := gName 2) (b := OT) (lo := 0) (n := n) (fun i σ => ∃ (b : Bool) (a2 a3 a4 : Slot), σ = [some (.int (n : Int), false), some (LO (OL n i), b), a2, a3, a4, none]) (by
    rintro i σ hi ⟨b, a2, a3, a4, rfl⟩
    rw [Int.zero_add, stp_of (σ' := [some (.int (n : Int), false), some (LO (OL n i), b), some (.int (i : Int), false), a3, a4, none]) (by simp)]
    have ol := OL_len hn i (by omega)
    have mem := OL_mem n i
    obtain ⟨σ1, e1, q⟩ := for_ind (g := gName 4) (b := OB) (f := LI) (l := OL n i) (fun pre σ => pre.flatMap (more n) = pre.flatMap (more n) ∧ ∃ a4 : Slot, σ = [some (.int (n : Int), false), some (LO (OL n i), false), some (.int (i : Int), false), some (LO (pre.flatMap (more n)), true), a4, none]) (by
      rintro pre r post σ ep ⟨_, a4, rfl⟩
      have hr := ((mem r).mp (by rw [ep]; simp)).1
      have fl := flat_len n pre
      have pl := congrArg List.length ep
      rw [List.length_append, List.length_cons] at pl
      have : n * pre.length ≤ 4 * 256 := Nat.mul_le_mul hn (by omega)
      refine ⟨_, ob_ hn (by omega) (by omega), rfl, some (LI r, false), ?_⟩
      rw [List.flatMap_append, List.flatMap_cons, List.flatMap_nil, List.append_nil]) (σ := [some (.int (n : Int), false), some (LO (OL n i), false), some (.int (i : Int), false), some (LO [], true), a4, none]) ⟨rfl, a4, rfl⟩
    obtain ⟨_, b4, rfl⟩ := q
    refine ⟨[some (.int (n : Int), false), some (LO (OL n (i + 1)), false), some (.int (i : Int), false), some (LO (OL n (i + 1)), false), b4, none], ?_, false, _, _, _, rfl⟩
    rw [show (OL n i).flatMap (more n) = OL n (i + 1) from rfl] at e1
    unfold OT
    simp only [LO, List.map_nil] at *
    generalize (OL n (i + 1)).map LI = AM2 at *
    generalize (OL n i).map LI = AM at *
    generalize OB = B at *
    have fz1 : ∀ k : Rt.Env → O, frzO [1] [some (.int (n : Int), false), some (.lst AM, true), some (.int (i : Int), false), some (.lst [], true), a4, none] k = k [some (.int (n : Int), false), some (.lst AM, false), some (.int (i : Int), false), some (.lst [], true), a4, none] := fun _ => rfl
    have fz3 : ∀ k : Rt.Env → O, frzO [3] [some (.int (n : Int), false), some (.lst AM, false), some (.int (i : Int), false), some (.lst AM2, true), b4, none] k = k [some (.int (n : Int), false), some (.lst AM, false), some (.int (i : Int), false), some (.lst AM2, false), b4, none] := fun _ => rfl
    cases b <;> simp [l0_, fz1, fz3, e1]) (σ := [some (.int (n : Int), false), some (LO [[]], true), none, none, none, none]) ⟨true, none, none, none, rfl⟩
  obtain ⟨b, a2, a3, a4, rfl⟩ := r
  refine ⟨b, un _ ?_⟩
  show ends (sSeq (sSet 1 (xLst [(false, (xLst []))])) (sSeq (sFor (gName 2) (iRng1 (xVar 0)) OT) (sRet (xVar 1))) [some (.int (n : Int), false), none, none, none, none, none]) = _
  have kr : okRng (n : Int) = true := okRng_of (by omega) (by omega)
  simp only [LO] at *
  generalize (OL n n).map LI = AM at *
  simp only [LI, List.map_cons, List.map_nil] at *
  generalize OT = B at *
  cases b <;> simp [l0_, l1_, kr, e, -List.map_map]
end K08
end
section
set_option linter.all false
set_option autoImplicit false
set_option Elab.async false
set_option maxRecDepth 100000
set_option maxHeartbeats 4000000
namespace K08
open PySem Rt
theorem mx (xs : List Int) (k many : Int) (hk : 0 ≤ k) (hm : 0 < many) : ∃ m : Int, 0 ≤ m ∧ m < many ∧ run T 59 19 [.lst (xs.map .int), .int k, .int many] = .ok (.int m, false) := mxn 58 xs k many hk hm
theorem okJ {J : List J3} (g : Js J) : okRep (LJ J).py = true :=
  (sh_lst (shl_map J fun j hj => by
    have ok := g.ok j hj
    obtain ⟨c0, c1, d0, d1, t1⟩ := ok
    exact sh_tr (p := j) (by omega))).ok (by decide) (by have := g.n; omega)
theorem sh_oA {x : Option Int} (h : ∀ v, x = some v → 0 ≤ v ∧ v ≤ 60) : Sh 0 70 (oA x) := by
  cases x with
  | none => exact ⟨by decide +kernel, by decide +kernel, by decide +kernel, by decide +kernel⟩
  | some v => exact sh_int (by have := h v rfl; omega)
theorem ans_bd {J : List J3} (g : Js J) {k : Int} (h : 0 ≤ k) (h2 : k < J.length) : ∀ v, ansO (J.take k.toNat) (gt J k) = some v → 0 ≤ v ∧ v ≤ 60 := fun v e => by
  have ok := g.at h h2
  unfold ansO at e
  have := up_mem.mp (List.mem_of_find?_eq_some e)
  have := ok.d1
  have := ok.t1
  have := ok.d0
  omega
theorem okA {J : List J3} (g : Js J) : okRep (LA (ansL J)).py = true := by
  have sp : (ansL J).map oA = (upto 0 J.length).map fun k => oA (ansO (J.take k.toNat) (gt J k)) := by unfold ansL; rw [List.map_map]; rfl
  unfold LA
  rw [sp]
  exact (sh_lst (shl_map (upto 0 J.length) fun k hk => by
    have := up_mem.mp hk
    exact sh_oA (ans_bd g this.1 (by omega)))).ok (by decide) (by rw [up_len]; have := g.n; omega)
theorem okB {J : List J3} (g : Js J) : okRep (LI (bestO J)).py = true := okRep_list (bestO J) (fun x hx => by have := best_rg J x hx; have := g.n; omega) (by rw [best_len]; have := g.n; omega)
theorem ok_bl (b : Bool) : okRep (D.bl b).py = true := by cases b <;> rfl
theorem okRep_dF {x : Rat} (h : Sz 1900 x) : okRep (dF x).py = true := by
  have h1 := log2_le h.1
  have h2 := log2_le (show ((x.den : Int)).natAbs < 2 ^ 1900 by simpa using h.2)
  have e : (dF x).py = .tuple [.int x.num, .int x.den] := by simp [dF, D.py, D.pyL]
  rw [e]
  simp only [okRep, PyData.plain, PyData.plainAll, PyData.showable, PyData.showableAll, PyData.depth, PyData.depthAll, repW, repWL, Bool.true_and, Bool.and_true, Bool.and_eq_true, decide_eq_true_eq, line_val]
  refine ⟨⟨⟨by omega, by omega⟩, by simp⟩, decide_eq_true (by omega)⟩
theorem mk_d (fr : Bool) (d : D) (p : List Nat) : (Rt.mk fr d p).d = d := by cases fr <;> cases p <;> rfl
theorem mkN_d (d : D) (p : List Nat) : (mkN d p).d = d := by cases p <;> rfl
theorem mkF_d (d : D) (p : List Nat) : (mkF d p).d = d := by cases p <;> rfl
theorem mkN_LA (a : List (Option Int)) (p : List Nat) : mkN (LA a) p = ⟨LA a, .nw, []⟩ := by
  cases p with
  | nil => rfl
  | cons i p =>
    have im : ∀ a : List (Option Int), D.immL (a.map oA) = true := fun a => by
      induction a with
      | nil => rfl
      | cons x a ih =>
        show (D.imm (oA x) && D.immL (a.map oA)) = true
        rw [ih]; cases x <;> rfl
    show (⟨LA a, .nw, if D.immL (a.map oA) then [] else _⟩ : Rv) = _
    rw [im]; rfl
/-! whole periods as deadlines -/
def pl1 (j : J3) : J3 := (j.1, j.2.1, j.2.1)
def plJ (J : List J3) : List J3 := J.map pl1
theorem pl_js {J : List J3} (g : Js J) : Js (plJ J) := ⟨fun j hj => by
  obtain ⟨i, hi, rfl⟩ := List.mem_map.mp hj
  have ok := g.ok i hi
  have t0 := ok.t0
  exact ⟨ok.c0, ok.c1, t0, Int.le_refl _, ok.t1⟩, by unfold plJ; rw [List.length_map]; exact g.p, by unfold plJ; rw [List.length_map]; exact g.n⟩
theorem pl_eq {J : List J3} : ∀ j ∈ plJ J, j.2.2 = j.2.1 := fun j hj => by
  obtain ⟨i, hi, rfl⟩ := List.mem_map.mp hj
  rfl
theorem pl_prod (J : List J3) : prodQ (plJ J) = prodQ J := by
  unfold prodQ plJ
  rw [List.foldl_map]; rfl
theorem prod_pos {J : List J3} (g : Js J) : 0 < DP (J.map jq) := DP_pos fun q hq => by
  obtain ⟨i, hi, rfl⟩ := List.mem_map.mp hq
  exact ⟨(g.ok i hi).c0, (g.ok i hi).t0⟩
theorem sure_best {J : List J3} (g : Js J) (s : ¬ (2 : Rat) < prodQ J) : inT ((bestO (plJ J)).map (gt (plJ J))) = true := by
  have gp := pl_js g
  refine sure_ok gp.ok pl_eq (best_nd _) (best_rg _) (best_st _) ?_
  rw [← pl_prod, prod_eq gp.ok, two_lt (prod_pos gp)] at s
  omega
/-! the best order is as good as any -/
theorem sum_one : ∀ L : List Int, (L.map fun _ => (1 : Int)).sum = L.length
  | [] => rfl
  | a :: L => by rw [sum_cons, sum_one L, List.length_cons]; omega
theorem has_all {m : Nat} {o : List Int} (nd : o.Nodup) (ln : o.length = m) (rg : ∀ x ∈ o, 0 ≤ x ∧ x < (m : Int)) {k : Int} (k0 : 0 ≤ k) (k1 : k < m) : k ∈ o := by
  by_cases c : k ∈ o
  · exact c
  · exfalso
    have := sum_sub (f := fun _ => 1) (k :: o) (upto 0 m) (List.nodup_cons.mpr ⟨c, nd⟩) (fun x hx => by
      rw [up_mem]
      rcases List.mem_cons.mp hx with rfl | h
      · omega
      · have := rg x h; omega) (fun x _ => by decide)
    rw [sum_one, sum_one, List.length_cons, up_len, ln] at this
    omega
theorem any_best {J : List J3} (g : Js J) : (OL J.length J.length).any (fun o => inT (o.map (gt J))) = inT ((bestO J).map (gt J)) := by
  have bm : bestO J ∈ OL J.length J.length := (OL_mem _ _ _).mpr ⟨best_len J, best_nd J, best_rg J⟩
  cases h : inT ((bestO J).map (gt J)) with
  | true => exact List.any_eq_true.mpr ⟨_, bm, h⟩
  | false =>
    rw [List.any_eq_false]
    intro o ho q
    obtain ⟨h1, h2, h3⟩ := (OL_mem _ _ _).mp ho
    have := by_deadline g.ok (o := o) (p := bestO J) (best_nd J) h3 (fun k hk => by
      have r := best_rg J k hk
      exact has_all h2 h1 h3 r.1 r.2) (best_st J) q
    rw [h] at this
    cases this
/-! the law's product -/
theorem fold_comm (J : List J3) : J.foldl (fun r j => r * (1 + uQ j)) 1 = prodQ J := by
  unfold prodQ
  have : (fun (r : Rat) (j : J3) => r * (1 + uQ j)) = fun r j => r * (uQ j + 1) := by funext r j; rw [Rat.add_comm]
  rw [this]
/-! the first odd job -/
def oddL (J : List J3) : List Int := (upto 0 J.length).filter fun k => !decide ((gt J k).2.1 = (gt J k).2.2)
theorem go_app (g : Tg) (b : Sm) : ∀ (xs ys : List D) (σ : Rt.Env), forGo g b (xs ++ ys) σ = (forGo g b xs σ).bd (forGo g b ys)
  | [], ys, σ => rfl
  | x :: xs, ys, σ => by
    rw [List.cons_append, forGo_stp, forGo_stp]
    cases stp g b x σ with
    | nx σ' => rw [O.bd_nx, O.bd_nx, go_app g b xs ys σ']
    | _ => rfl
def S0 (call : Nat → Rt.Fn) : Sm := (sSet 1 (xCall (call 18) [(xVar 0)]))
def S2 (call : Nat → Rt.Fn) : Sm := (sRet (xCall (call 33) [(xVar 3)]))
def T0 (call : Nat → Rt.Fn) : Sm := (sSet 3 (xCall (call 27) [(xVar 1), (xBin dAdd (xCon (.int 10)) (xBin dMul (xCon (.int 30)) (xVar 2)))]))
def T1 (call : Nat → Rt.Fn) : Sm := (sSet 4 (xBi bRepr [(xVar 3)]))
def T2 (call : Nat → Rt.Fn) : Sm := (sSet 5 (xCall (call 29) [(xVar 3)]))
def T3 (call : Nat → Rt.Fn) : Sm := (sIf (tOr (tOf (xCmp .ne (xBi bRepr [(xCall (call 8) [(xVar 3)])]) (xBi bRepr [(xVar 5)]))) (tOf (xCmp .ne (xBi bRepr [(xCall (call 9) [(xVar 3)])]) (xBi bRepr [(xCmp .nin (xCon .non) (xVar 5))])))) (sRet (xCon (.bl false))) sPass)
def T4 (call : Nat → Rt.Fn) : Sm := (sSet 6 (xLC [16, 17] (iSeq (xBi bSorted [(xLC [17] (iRng1 (xBi bLen [(xVar 3)])) (gName 17) tYesD (xTup [(false, (xIdx (xIdx (xVar 3) (xVar 17)) (xCon (.int 2)))), (false, (xVar 17))]))])) (gTup [(gName 16), (gName 17)]) tYesD (xVar 17)))
def T5 (call : Nat → Rt.Fn) : Sm := (sIf (tOf (xCmp .ne (xBi bRepr [(xCall (call 10) [(xVar 3)])]) (xBi bRepr [(xVar 6)]))) (sRet (xCon (.bl false))) sPass)
def T6 (call : Nat → Rt.Fn) : Sm := (sSet 7 (xCon (.bl false)))
def T7 (call : Nat → Rt.Fn) : Sm := (sFor (gName 8) (iSeq (xCall (call 30) [(xBi bLen [(xVar 3)])])) (sSeq (sSet 13 (xCmp .nin (xCon .non) (xCall (call 29) [(xLC [17] (iSeq (xVar 8)) (gName 17) tYesD (xIdx (xVar 3) (xVar 17)))]))) (sSeq (sSet 7 (xOr (xVar 7) (xVar 13))) (sIf (tOf (xCmp .ne (xBi bRepr [(xCall (call 11) [(xVar 3), (xVar 8)])]) (xBi bRepr [(xVar 13)]))) (sRet (xCon (.bl false))) sPass))))
def T8 (call : Nat → Rt.Fn) : Sm := (sIf (tOf (xCmp .ne (xBi bRepr [(xCall (call 11) [(xVar 3), (xVar 6)])]) (xBi bRepr [(xVar 7)]))) (sRet (xCon (.bl false))) sPass)
def T9 (call : Nat → Rt.Fn) : Sm := (sSet 9 (xTup [(false, (xCon (.int 0))), (false, (xCon (.int 1)))]))
def T10 (call : Nat → Rt.Fn) : Sm := (sSet 10 (xTup [(false, (xCon (.int 1))), (false, (xCon (.int 1)))]))
def T11 (call : Nat → Rt.Fn) : Sm := (sFor (gTup [(gName 14), (gName 15), (gName 16)]) (iSeq (xVar 3)) (sSeq (sSet 9 (xCall (call 22) [(xVar 9), (xCall (call 21) [(xVar 14), (xVar 15)])])) (sSet 10 (xCall (call 23) [(xVar 10), (xCall (call 22) [(xTup [(false, (xCon (.int 1))), (false, (xCon (.int 1)))]), (xCall (call 21) [(xVar 14), (xVar 15)])])]))))
def T12 (call : Nat → Rt.Fn) : Sm := (sIf (tOf (xCmp .ne (xBi bRepr [(xCall (call 12) [(xVar 3)])]) (xBi bRepr [(xVar 9)]))) (sRet (xCon (.bl false))) sPass)
def T13 (call : Nat → Rt.Fn) : Sm := (sSet 11 (xLC [14, 15, 16] (iSeq (xVar 3)) (gTup [(gName 14), (gName 15), (gName 16)]) tYesD (xTup [(false, (xVar 14)), (false, (xVar 15)), (false, (xVar 15))])))
def T14 (call : Nat → Rt.Fn) : Sm := (sIf (tOr (tOf (xCmp .ne (xBi bRepr [(xCall (call 13) [(xVar 11)])]) (xBi bRepr [(xNot (xCall (call 24) [(xTup [(false, (xCon (.int 2))), (false, (xCon (.int 1)))]), (xVar 10)]))]))) (tAnd (tOf (xCall (call 13) [(xVar 11)])) (tNot (tOf (xCall (call 11) [(xVar 11), (xCall (call 10) [(xVar 11)])]))))) (sRet (xCon (.bl false))) sPass)
def T15 (call : Nat → Rt.Fn) : Sm := (sSet 12 (xLC [17] (iRng1 (xBi bLen [(xVar 3)])) (gName 17) (tOf (xCmp .ne (xIdx (xIdx (xVar 3) (xVar 17)) (xCon (.int 1))) (xIdx (xIdx (xVar 3) (xVar 17)) (xCon (.int 2))))) (xVar 17)))
def T16 (call : Nat → Rt.Fn) : Sm := (sIf (tOr (tAnd (tOf (xCmp .ne (xVar 12) (xLst []))) (tOf (xCmp .ne (xCall (call 32) [(xVar 3)]) (xTup [(false, (xCon (.str "job"))), (false, (xIdx (xVar 12) (xCon (.int 0))))])))) (tOf (xCmp .ne (xBi bRepr [(xVar 3)]) (xVar 4)))) (sRet (xCon (.bl false))) sPass)
def RR_ (call : Nat → Rt.Fn) : Sm := sSeq (T0 call) (sSeq (T1 call) (sSeq (T2 call) (sSeq (T3 call) (sSeq (T4 call) (sSeq (T5 call) (sSeq (T6 call) (sSeq (T7 call) (sSeq (T8 call) (sSeq (T9 call) (sSeq (T10 call) (sSeq (T11 call) (sSeq (T12 call) (sSeq (T13 call) (sSeq (T14 call) (sSeq (T15 call) (T16 call))))))))))))))))
def S1 (call : Nat → Rt.Fn) : Sm := sFor (gName 2) (iRng1 (xCon (.int 2))) (RR_ call)
theorem law_parts (call : Nat → Rt.Fn) : b_law call = sSeq (S0 call) (sSeq (S1 call) (S2 call)) := rfl
end K08
end
section
set_option linter.all false
set_option autoImplicit false
set_option Elab.async false
set_option maxRecDepth 100000
set_option maxHeartbeats 4000000
namespace K08
open PySem Rt
theorem t0_ {a0 a4 a5 a6 a7 a8 a9 a10 a11 a12 a13 a14 a15 a16 a17 a3 : Slot} {ys : List Int} {t : Int} (t0 : 0 ≤ t) : ∃ σ', T0 (run T 59) [a0, some (.lst ((ys).map .int), true), some (.int (t), false), a3, a4, a5, a6, a7, a8, a9, a10, a11, a12, a13, a14, a15, a16, a17] = .nx σ' ∧ ∃ J, (Js J ∧ J.length ≤ 4) ∧ σ' = [a0, some (.lst ((ys).map .int), true), some (.int (t), false), some (LJ J, true), a4, a5, a6, a7, a8, a9, a10, a11, a12, a13, a14, a15, a16, a17] := by
  obtain ⟨J, g, jl, e⟩ := lawJobs 57 ys (f := 10 + 30 * t) (by omega)
  have e : run T 59 27 [LI ys, .int (10 + 30 * t)] = _ := e
  refine ⟨[a0, some (.lst ((ys).map .int), true), some (.int (t), false), some (LJ J, true), a4, a5, a6, a7, a8, a9, a10, a11, a12, a13, a14, a15, a16, a17], ?_, J, ⟨g, jl⟩, rfl⟩
  have mu : dMul (.int 30) (.int t) = _ := mul_l (by decide) (by decide)
  have mk := mkN_trs J
  simp only [LI, LJ] at *
  generalize J.map TR = JM at *
  generalize ys.map D.int = YM at *
  simp [T0, mu, e, mk]
theorem t1_ {a0 a1 a2 a5 a6 a7 a8 a9 a10 a11 a12 a13 a14 a15 a16 a17 a4 : Slot} {J : List J3} (g : Js J) : T1 (run T 59) [a0, a1, a2, some (LJ J, true), a4, a5, a6, a7, a8, a9, a10, a11, a12, a13, a14, a15, a16, a17] = .nx [a0, a1, a2, some (LJ J, true), some (.rep (LJ J), false), a5, a6, a7, a8, a9, a10, a11, a12, a13, a14, a15, a16, a17] := by
  have b := bRepr_of (okJ g)
  simp only [LJ] at *
  generalize J.map TR = JM at *
  simp [T1, b]
theorem t2_ {a0 a1 a2 a4 a6 a7 a8 a9 a10 a11 a12 a13 a14 a15 a16 a17 a5 : Slot} {J : List J3} (g : Js J) : T2 (run T 59) [a0, a1, a2, some (LJ J, true), a4, a5, a6, a7, a8, a9, a10, a11, a12, a13, a14, a15, a16, a17] = .nx [a0, a1, a2, some (LJ J, true), a4, some (LA (ansL J), true), a6, a7, a8, a9, a10, a11, a12, a13, a14, a15, a16, a17] := by
  have e : run T 59 29 [LJ J] = _ := lawAns 57 g
  have mk := mkN_LA (ansL J)
  simp only [LJ, LA] at *
  generalize (ansL J).map oA = AM at *
  generalize J.map TR = JM at *
  simp [T2, e, mk]
theorem t3_ {a0 a1 a2 a4 a6 a7 a8 a9 a10 a11 a12 a13 a14 a15 a16 a17 : Slot} {J : List J3} (g : Js J) : T3 (run T 59) [a0, a1, a2, some (LJ J, true), a4, some (LA (ansL J), true), a6, a7, a8, a9, a10, a11, a12, a13, a14, a15, a16, a17] = .nx [a0, a1, a2, some (LJ J, true), a4, some (LA (ansL J), true), a6, a7, a8, a9, a10, a11, a12, a13, a14, a15, a16, a17] := by
  have e1 : run T 59 8 [LJ J] = _ := ansP 56 g
  have e2 : run T 59 9 [LJ J] = _ := inTimeP 55 g
  have ni := nin_non (ansL J)
  rw [show ((ansL J).all fun x => x.isSome) = inT J from rfl] at ni
  have b1 := bRepr_of (okA g)
  have c1 := cmp_neR _ (okA g)
  generalize inT J = q at *
  have b2 := bRepr_of (ok_bl q)
  have c2 := cmp_neR _ (ok_bl q)
  simp only [LJ, LA] at *
  generalize (ansL J).map oA = AM at *
  generalize J.map TR = JM at *
  simp [T3, e1, e2, ni, b1, c1, b2, c2, mk_d, mkN_d]
theorem t4_ {a0 a1 a2 a4 a5 a7 a8 a9 a10 a11 a12 a13 a14 a15 a6 a16 a17 : Slot} {J : List J3} (g : Js J) : T4 (run T 59) [a0, a1, a2, some (LJ J, true), a4, a5, a6, a7, a8, a9, a10, a11, a12, a13, a14, a15, a16, a17] = .nx [a0, a1, a2, some (LJ J, true), a4, a5, some (LI (bestO J), true), a7, a8, a9, a10, a11, a12, a13, a14, a15, a16, a17] := by
  have lc := lc_all (own := [17]) (g := gName 17) (e := (xTup [(false, (xIdx (xIdx (xVar 3) (xVar 17)) (xCon (.int 2)))), (false, (xVar 17))])) (σ := [a0, a1, a2, some (LJ J, true), a4, a5, a6, a7, a8, a9, a10, a11, a12, a13, a14, a15, a16, none]) D.int (fun k => PR (dk J k)) (upto 0 J.length) (fun k hk => ⟨[a0, a1, a2, some (LJ J, true), a4, a5, a6, a7, a8, a9, a10, a11, a12, a13, a14, a15, a16, some (.int (k), false)], by simp, by
    have hk := up_mem.mp hk
    have ix := idx_gt (J := J) hk.1 (by omega)
    have mf := mkF_tr (gt J k)
    have i2 := tr2 (gt J k)
    unfold dk PR
    generalize (gt J k).2.2 = d at *
    generalize TR (gt J k) = G at *
    simp only [LJ] at *
    generalize J.map TR = JM at *
    simp [ix, mf, i2, le2_]⟩)
  have srt := sort_prs ((upto 0 J.length).map (dk J))
  rw [List.map_map, show (PR ∘ dk J) = fun k => PR (dk J k) from rfl] at srt
  have lc2 := lc_all (own := [16, 17]) (g := (gTup [(gName 16), (gName 17)])) (e := (xVar 17)) (σ := [a0, a1, a2, some (LJ J, true), a4, a5, a6, a7, a8, a9, a10, a11, a12, a13, a14, a15, none, none]) PR (fun q => D.int q.2) (((upto 0 J.length).map (dk J)).mergeSort leP) (fun q _ => ⟨[a0, a1, a2, some (LJ J, true), a4, a5, a6, a7, a8, a9, a10, a11, a12, a13, a14, a15, some (.int q.1, false), some (.int q.2, false)], by simp [PR], by simp⟩)
  have bl : bLen [LJ J] = some (.int ((J.length : Nat) : Int), false) := by simp
  have kr : okRng (J.length : Int) = true := okRng_of (by omega) (by have := g.n; omega)
  have zl : ((upto 0 J.length).map fun k => PR (dk J k)).length ≤ line := by have := g.n; rw [List.length_map, up_len, line_val]; omega
  have bln := best_len J
  have sp : (bestO J).map D.int = (((upto 0 J.length).map (dk J)).mergeSort leP).map fun q => D.int q.2 := by unfold bestO; rw [List.map_map]; rfl
  have zl2 : ((((upto 0 J.length).map (dk J)).mergeSort leP).map fun q => D.int q.2).length ≤ line := by rw [← sp, List.length_map, bln, line_val]; have := g.n; omega
  have mk := mkN_ints (bestO J)
  have mk2 := mkN_prs ((upto 0 J.length).map (dk J))
  rw [List.map_map, show (PR ∘ dk J) = fun k => PR (dk J k) from rfl] at mk2
  have mk3 := mkN_prs (((upto 0 J.length).map (dk J)).mergeSort leP)
  rw [sp] at mk
  unfold LI
  rw [sp]
  generalize ((((upto 0 J.length).map (dk J)).mergeSort leP).map fun q => D.int q.2) = QM at *
  generalize (((upto 0 J.length).map (dk J)).mergeSort leP).map PR = SM at *
  generalize ((upto 0 J.length).map fun k => PR (dk J k)) = DM at *
  simp only [LJ] at *
  generalize J.map TR = JM at *
  simp [T4, -bLen_lst, bl, kr, lc, zl, mk2, srt, mk3, lc2, zl2, mk]
theorem t5_ {a0 a1 a2 a4 a5 a7 a8 a9 a10 a11 a12 a13 a14 a15 a16 a17 : Slot} {J : List J3} (g : Js J) : T5 (run T 59) [a0, a1, a2, some (LJ J, true), a4, a5, some (LI (bestO J), true), a7, a8, a9, a10, a11, a12, a13, a14, a15, a16, a17] = .nx [a0, a1, a2, some (LJ J, true), a4, a5, some (LI (bestO J), true), a7, a8, a9, a10, a11, a12, a13, a14, a15, a16, a17] := by
  have e : run T 59 10 [LJ J] = _ := bestP 57 g
  have b := bRepr_of (okB g)
  have c := cmp_neR _ (okB g)
  simp only [LJ, LI] at *
  generalize (bestO J).map D.int = BM at *
  generalize J.map TR = JM at *
  simp [T5, e, b, c, mk_d, mkN_d]
theorem t6_ {a0 a1 a2 a3 a4 a5 a6 a8 a9 a10 a11 a12 a13 a14 a15 a16 a17 a7 : Slot} : T6 (run T 59) [a0, a1, a2, a3, a4, a5, a6, a7, a8, a9, a10, a11, a12, a13, a14, a15, a16, a17] = .nx [a0, a1, a2, a3, a4, a5, a6, some (.bl false, false), a8, a9, a10, a11, a12, a13, a14, a15, a16, a17] := by
  simp [T6]
def WB7 (call : Nat → Rt.Fn) : Sm := (sSeq (sSet 13 (xCmp .nin (xCon .non) (xCall (call 29) [(xLC [17] (iSeq (xVar 8)) (gName 17) tYesD (xIdx (xVar 3) (xVar 17)))]))) (sSeq (sSet 7 (xOr (xVar 7) (xVar 13))) (sIf (tOf (xCmp .ne (xBi bRepr [(xCall (call 11) [(xVar 3), (xVar 8)])]) (xBi bRepr [(xVar 13)]))) (sRet (xCon (.bl false))) sPass)))
theorem w7_ {a0 a1 a2 a4 a5 a6 a9 a10 a11 a12 a14 a15 a16 a8 a13 a17 : Slot} {J : List J3} (g : Js J) {o : List Int} (v : Vo J o) {q : Bool} : stp (gName 8) (WB7 (run T 59)) (LI o) [a0, a1, a2, some (LJ J, true), a4, a5, a6, some (.bl (q), false), a8, a9, a10, a11, a12, a13, a14, a15, a16, a17] = .nx [a0, a1, a2, some (LJ J, true), a4, a5, a6, some (.bl (q || inT (o.map (gt J))), false), some (LI o, false), a9, a10, a11, a12, some (.bl (inT (o.map (gt J))), false), a14, a15, a16, a17] := by
  rw [stp_of (σ' := [a0, a1, a2, some (LJ J, true), a4, a5, a6, some (.bl (q), false), some (LI o, false), a9, a10, a11, a12, a13, a14, a15, a16, a17]) (by simp)]
  have e1 : run T 59 29 [LJ (o.map (gt J))] = _ := lawAns 57 (v.js g)
  have e2 : run T 59 11 [LJ J, LI o] = _ := goodP 54 g v
  have ni := nin_non (ansL (o.map (gt J)))
  rw [show ((ansL (o.map (gt J))).all fun x => x.isSome) = inT (o.map (gt J)) from rfl] at ni
  have lc := lc_all (own := [17]) (g := gName 17) (e := (xIdx (xVar 3) (xVar 17))) (σ := [a0, a1, a2, some (LJ J, true), a4, a5, a6, some (.bl (q), false), some (LI o, false), a9, a10, a11, a12, a13, a14, a15, a16, none]) D.int (fun k => TR (gt J k)) o (fun k hk => ⟨[a0, a1, a2, some (LJ J, true), a4, a5, a6, some (.bl (q), false), some (LI o, false), a9, a10, a11, a12, a13, a14, a15, a16, some (.int (k), false)], by simp, by
    have ix := idx_gt (v.rg k hk).1 (v.rg k hk).2
    have mf := mkF_tr (gt J k)
    generalize TR (gt J k) = G at *
    simp only [LJ] at *
    generalize J.map TR = JM at *
    simp [ix, mf]⟩)
  have sp : (o.map (gt J)).map TR = o.map fun k => TR (gt J k) := by rw [List.map_map]; rfl
  have zl : (o.map fun k => TR (gt J k)).length ≤ line := by have := g.n; have := v.ln; rw [List.length_map, line_val]; omega
  have mk := mkN_trs (o.map (gt J))
  unfold LJ at e1
  rw [sp] at e1 mk
  generalize inT (o.map (gt J)) = r at *
  have b := bRepr_of (ok_bl r)
  have c := cmp_neR _ (ok_bl r)
  have mk2 := mkN_LA (ansL (o.map (gt J)))
  generalize (o.map fun k => TR (gt J k)) = GM at *
  simp only [LJ, LI, LA] at *
  generalize (ansL (o.map (gt J))).map oA = AM at *
  generalize J.map TR = JM at *
  generalize o.map D.int = OM at *
  cases q <;> cases r <;> simp [WB7, lc, zl, mk, e1, mk2, ni, e2, b, c, mk_d, mkN_d]
theorem t7_ {a0 a1 a2 a4 a5 a6 a9 a10 a11 a12 a14 a15 a16 a8 a13 a17 : Slot} {J : List J3} (g : Js J) (jl : J.length ≤ 4) : ∃ σ', T7 (run T 59) [a0, a1, a2, some (LJ J, true), a4, a5, a6, some (.bl (false), false), a8, a9, a10, a11, a12, a13, a14, a15, a16, a17] = .nx σ' ∧ ∃ a8 a13 : Slot, σ' = [a0, a1, a2, some (LJ J, true), a4, a5, a6, some (.bl (inT ((bestO J).map (gt J))), false), a8, a9, a10, a11, a12, a13, a14, a15, a16, a17] := by
  have mem := OL_mem J.length J.length
  obtain ⟨σ', e, r⟩ := for_ind (g := gName 8) (b := WB7 (run T 59)) (f := LI) (l := OL J.length J.length) (fun pre σ => ∃ a8 a13 : Slot, σ = [a0, a1, a2, some (LJ J, true), a4, a5, a6, some (.bl (pre.any fun o => inT (o.map (gt J))), false), a8, a9, a10, a11, a12, a13, a14, a15, a16, a17]) (by
    rintro pre o post σ ep ⟨a8, a13, rfl⟩
    obtain ⟨h1, h2, h3⟩ := (mem o).mp (by rw [ep]; simp)
    refine ⟨_, w7_ g ⟨h2, h3, h1⟩, some (LI o, false), some (.bl (inT (o.map (gt J))), false), ?_⟩
    rw [List.any_append, List.any_cons, List.any_nil, Bool.or_false]) (σ := [a0, a1, a2, some (LJ J, true), a4, a5, a6, some (.bl (false), false), a8, a9, a10, a11, a12, a13, a14, a15, a16, a17]) ⟨a8, a13, rfl⟩
  obtain ⟨b8, b13, rfl⟩ := r
  refine ⟨_, ?_, b8, b13, rfl⟩
  rw [any_best g] at e
  obtain ⟨b, eo⟩ := ordersP 58 jl
  have eo : run T 59 30 [.int (J.length : Int)] = _ := eo
  have bl : bLen [LJ J] = some (.int ((J.length : Nat) : Int), false) := by simp
  show sFor (gName 8) (iSeq (xCall ((run T 59) 30) [(xBi bLen [(xVar 3)])])) (WB7 (run T 59)) _ = _
  rw [sFor_eq]
  generalize inT ((bestO J).map (gt J)) = q at *
  simp only [LJ, LO] at *
  generalize (OL J.length J.length).map LI = OM at *
  generalize J.map TR = JM at *
  generalize WB7 (run T 59) = B at *
  cases b <;> simp [-bLen_lst, bl, eo, e]
theorem t8_ {a0 a1 a2 a4 a5 a8 a9 a10 a11 a12 a13 a14 a15 a16 a17 : Slot} {J : List J3} (g : Js J) : T8 (run T 59) [a0, a1, a2, some (LJ J, true), a4, a5, some (LI (bestO J), true), some (.bl (inT ((bestO J).map (gt J))), false), a8, a9, a10, a11, a12, a13, a14, a15, a16, a17] = .nx [a0, a1, a2, some (LJ J, true), a4, a5, some (LI (bestO J), true), some (.bl (inT ((bestO J).map (gt J))), false), a8, a9, a10, a11, a12, a13, a14, a15, a16, a17] := by
  have e : run T 59 11 [LJ J, LI (bestO J)] = _ := goodP 54 g (best_vo J)
  generalize inT ((bestO J).map (gt J)) = q at *
  have b := bRepr_of (ok_bl q)
  have c := cmp_neR _ (ok_bl q)
  simp only [LJ, LI] at *
  generalize (bestO J).map D.int = BM at *
  generalize J.map TR = JM at *
  simp [T8, e, b, c, mk_d]
end K08
end
section
set_option linter.all false
set_option autoImplicit false
set_option Elab.async false
set_option maxRecDepth 100000
set_option maxHeartbeats 4000000
namespace K08
open PySem Rt
theorem t9_ {a0 a1 a2 a3 a4 a5 a6 a7 a8 a10 a11 a12 a13 a14 a15 a16 a17 a9 : Slot} : T9 (run T 59) [a0, a1, a2, a3, a4, a5, a6, a7, a8, a9, a10, a11, a12, a13, a14, a15, a16, a17] = .nx [a0, a1, a2, a3, a4, a5, a6, a7, a8, some (dF 0, false), a10, a11, a12, a13, a14, a15, a16, a17] := by
  rw [dF0]
  simp [T9, le2_]
theorem t10_ {a0 a1 a2 a3 a4 a5 a6 a7 a8 a9 a11 a12 a13 a14 a15 a16 a17 a10 : Slot} : T10 (run T 59) [a0, a1, a2, a3, a4, a5, a6, a7, a8, a9, a10, a11, a12, a13, a14, a15, a16, a17] = .nx [a0, a1, a2, a3, a4, a5, a6, a7, a8, a9, some (dF 1, false), a11, a12, a13, a14, a15, a16, a17] := by
  rw [dF1]
  simp [T10, le2_]
def PB_ (call : Nat → Rt.Fn) : Sm := (sSeq (sSet 9 (xCall (call 22) [(xVar 9), (xCall (call 21) [(xVar 14), (xVar 15)])])) (sSet 10 (xCall (call 23) [(xVar 10), (xCall (call 22) [(xTup [(false, (xCon (.int 1))), (false, (xCon (.int 1)))]), (xCall (call 21) [(xVar 14), (xVar 15)])])])))
theorem pb_ {a0 a1 a2 a4 a5 a6 a7 a8 a11 a12 a13 a17 a14 a15 a16 : Slot} {J : List J3} {j : J3} (ok : Ok j) {x y : Rat} (hx : Sz 1000 x) (hy : Sz 1000 y) : stp (gTup [(gName 14), (gName 15), (gName 16)]) (PB_ (run T 59)) (TR j) [a0, a1, a2, some (LJ J, false), a4, a5, a6, a7, a8, some (dF (x), false), some (dF (y), false), a11, a12, a13, a14, a15, a16, a17] = .nx [a0, a1, a2, some (LJ J, false), a4, a5, a6, a7, a8, some (dF (x + uQ j), false), some (dF (y * (1 + uQ j)), false), a11, a12, a13, some (.int j.1, false), some (.int j.2.1, false), some (.int j.2.2, false), a17] := by
  rw [stp_of (σ' := [a0, a1, a2, some (LJ J, false), a4, a5, a6, a7, a8, some (dF (x), false), some (dF (y), false), a11, a12, a13, some (.int j.1, false), some (.int j.2.1, false), some (.int j.2.2, false), a17]) (by simp [TR])]
  have fr : run T 59 21 [.int j.1, .int j.2.1] = _ := lowL 57 j.1 j.2.1 (by have := ok.t0; omega) (p8000 ok.t0 ok.t1)
  rw [show Rat.divInt j.1 j.2.1 = uQ j from rfl] at fr
  have su := (u_sz ok).mono (show 6 ≤ 4000 by decide)
  have s1 : Sz 8 (1 + uQ j) := sz_add one_sz (u_sz ok)
  have p1 : run T 59 22 [dF x, dF (uQ j)] = _ := lplus 56 (hx.mono (show 1000 ≤ 4000 by decide)) su
  have p2 : run T 59 22 [dF 1, dF (uQ j)] = _ := lplus 56 (one_sz.mono (show 1 ≤ 4000 by decide)) su
  rw [dF1] at p2
  have t2 : run T 59 23 [dF y, dF (1 + uQ j)] = _ := ltimes 56 (hy.mono (show 1000 ≤ 4000 by decide)) (s1.mono (show 8 ≤ 4000 by decide))
  have m1 := mkF_dF (uQ j)
  have m2 := mkF_dF (x + uQ j)
  have m3 := mkF_dF (1 + uQ j)
  have m4 := mkF_dF (y * (1 + uQ j))
  generalize dF (y * (1 + uQ j)) = Z at *
  generalize dF (1 + uQ j) = Y at *
  generalize dF (x + uQ j) = W at *
  generalize dF (uQ j) = U at *
  generalize dF x = A at *
  generalize dF y = B at *
  simp only [LJ] at *
  generalize J.map TR = JM at *
  simp [PB_, fr, p1, p2, t2, m1, m2, m3, m4, le2_]
theorem t11_ {a0 a1 a2 a4 a5 a6 a7 a8 a11 a12 a13 a17 a14 a15 a16 : Slot} {J : List J3} (g : Js J) : ∃ σ', T11 (run T 59) [a0, a1, a2, some (LJ J, true), a4, a5, a6, a7, a8, some (dF (0), false), some (dF (1), false), a11, a12, a13, a14, a15, a16, a17] = .nx σ' ∧ ∃ a14 a15 a16 : Slot, σ' = [a0, a1, a2, some (LJ J, false), a4, a5, a6, a7, a8, some (dF (loadQ J), false), some (dF (prodQ J), false), a11, a12, a13, a14, a15, a16, a17] := by
  have ps : ∀ {k : Nat} {r : Rat} (L : List J3), (∀ j ∈ L, Ok j) → Sz k r → Sz (k + 8 * L.length) (L.foldl (fun r j => r * (1 + uQ j)) r) := fun {k r} L => by
    intro gL hr
    have := prod_sz (J := L) gL hr
    have e : (fun (r : Rat) (j : J3) => r * (1 + uQ j)) = fun r j => r * (uQ j + 1) := by funext r j; rw [Rat.add_comm]
    rw [e]; exact this
  obtain ⟨σ', e, r⟩ := for_ind (g := gTup [(gName 14), (gName 15), (gName 16)]) (b := PB_ (run T 59)) (f := TR) (l := J) (fun pre σ => ∃ a14 a15 a16 : Slot, σ = [a0, a1, a2, some (LJ J, false), a4, a5, a6, a7, a8, some (dF (pre.foldl (fun r j => r + uQ j) 0), false), some (dF (pre.foldl (fun r j => r * (1 + uQ j)) 1), false), a11, a12, a13, a14, a15, a16, a17]) (by
    rintro pre j post σ ep ⟨a14, a15, a16, rfl⟩
    have pl := congrArg List.length ep
    rw [List.length_append, List.length_cons] at pl
    have gn := g.n
    have gp : ∀ i ∈ pre, Ok i := fun i hi => g.ok i (by rw [ep]; exact List.mem_append_left _ hi)
    have ok := g.ok j (by rw [ep]; simp)
    refine ⟨_, pb_ ok ((load_sz gp zero_sz).mono (by omega)) ((ps pre gp one_sz).mono (by omega)), some (.int j.1, false), some (.int j.2.1, false), some (.int j.2.2, false), ?_⟩
    rw [List.foldl_append, List.foldl_append]; rfl) (σ := [a0, a1, a2, some (LJ J, false), a4, a5, a6, a7, a8, some (dF (0), false), some (dF (1), false), a11, a12, a13, a14, a15, a16, a17]) ⟨a14, a15, a16, rfl⟩
  obtain ⟨b14, b15, b16, rfl⟩ := r
  refine ⟨_, ?_, b14, b15, b16, rfl⟩
  rw [fold_comm, show J.foldl (fun r j => r + uQ j) 0 = loadQ J from rfl] at e
  show sFor (gTup [(gName 14), (gName 15), (gName 16)]) (iSeq (xVar 3)) (PB_ (run T 59)) _ = _
  rw [sFor_eq]
  generalize dF (loadQ J) = A at *
  generalize dF (prodQ J) = B at *
  generalize dF 0 = A0 at *
  generalize dF 1 = B0 at *
  simp only [LJ] at *
  generalize J.map TR = JM at *
  generalize PB_ (run T 59) = PB at *
  have fz : ∀ k : Rt.Env → O, frzO [3] [a0, a1, a2, some (D.lst JM, true), a4, a5, a6, a7, a8, some (A0, false), some (B0, false), a11, a12, a13, a14, a15, a16, a17] k = k [a0, a1, a2, some (D.lst JM, false), a4, a5, a6, a7, a8, some (A0, false), some (B0, false), a11, a12, a13, a14, a15, a16, a17] := fun _ => rfl
  simp [fz, e]
theorem t12_ {a0 a1 a2 a4 a5 a6 a7 a8 a10 a11 a12 a13 a14 a15 a16 a17 : Slot} {J : List J3} (g : Js J) : T12 (run T 59) [a0, a1, a2, some (LJ J, false), a4, a5, a6, a7, a8, some (dF (loadQ J), false), a10, a11, a12, a13, a14, a15, a16, a17] = .nx [a0, a1, a2, some (LJ J, false), a4, a5, a6, a7, a8, some (dF (loadQ J), false), a10, a11, a12, a13, a14, a15, a16, a17] := by
  have e : run T 59 12 [LJ J] = _ := loadP 55 g
  have gn := g.n
  have sz : Sz 1900 (loadQ J) := (load_sz g.ok zero_sz).mono (by omega)
  have b := bRepr_of (okRep_dF sz)
  have c := cmp_neR _ (okRep_dF sz)
  generalize dF (loadQ J) = A at *
  simp only [LJ] at *
  generalize J.map TR = JM at *
  simp [T12, e, b, c, mk_d, mkF_d]
theorem t13_ {a0 a1 a2 a4 a5 a6 a7 a8 a9 a10 a12 a13 a17 a11 a14 a15 a16 : Slot} {J : List J3} (g : Js J) : T13 (run T 59) [a0, a1, a2, some (LJ J, false), a4, a5, a6, a7, a8, a9, a10, a11, a12, a13, a14, a15, a16, a17] = .nx [a0, a1, a2, some (LJ J, false), a4, a5, a6, a7, a8, a9, a10, some (LJ (plJ J), true), a12, a13, a14, a15, a16, a17] := by
  have lc := lc_all (own := [14, 15, 16]) (g := gTup [(gName 14), (gName 15), (gName 16)]) (e := (xTup [(false, (xVar 14)), (false, (xVar 15)), (false, (xVar 15))])) (σ := [a0, a1, a2, some (LJ J, false), a4, a5, a6, a7, a8, a9, a10, a11, a12, a13, none, none, none, a17]) TR (fun j => TR (pl1 j)) J (fun j _ => ⟨[a0, a1, a2, some (LJ J, false), a4, a5, a6, a7, a8, a9, a10, a11, a12, a13, some (.int j.1, false), some (.int j.2.1, false), some (.int j.2.2, false), a17], by simp [TR], by simp [TR, pl1, l3_]⟩)
  have sp : (plJ J).map TR = J.map fun j => TR (pl1 j) := by unfold plJ; rw [List.map_map]; rfl
  have zl : (J.map fun j => TR (pl1 j)).length ≤ line := by have := g.n; rw [List.length_map, line_val]; omega
  have mk := mkN_trs (plJ J)
  rw [sp] at mk
  simp only [LJ] at *
  rw [sp]
  generalize (J.map fun j => TR (pl1 j)) = PM at *
  generalize J.map TR = JM at *
  simp [T13, lc, zl, mk]
theorem t14_ {a0 a1 a2 a4 a5 a6 a7 a8 a9 a12 a13 a14 a15 a16 a17 : Slot} {J : List J3} (g : Js J) : T14 (run T 59) [a0, a1, a2, some (LJ J, false), a4, a5, a6, a7, a8, a9, some (dF (prodQ J), false), some (LJ (plJ J), true), a12, a13, a14, a15, a16, a17] = .nx [a0, a1, a2, some (LJ J, false), a4, a5, a6, a7, a8, a9, some (dF (prodQ J), false), some (LJ (plJ J), true), a12, a13, a14, a15, a16, a17] := by
  have gp := pl_js g
  have e1 : run T 59 13 [LJ (plJ J)] = _ := sureP 56 gp pl_eq
  rw [pl_prod] at e1
  have gn := g.n
  have sz : Sz 1000 (prodQ J) := (prod_sz g.ok one_sz).mono (by omega)
  have e2 : run T 59 24 [dF 2, dF (prodQ J)] = _ := lless 58 (x := 2) ⟨by decide, by decide⟩ (sz.mono (by decide))
  rw [dF2] at e2
  have e3 : run T 59 10 [LJ (plJ J)] = _ := bestP 57 gp
  have e4 : run T 59 11 [LJ (plJ J), LI (bestO (plJ J))] = _ := goodP 54 gp (best_vo (plJ J))
  have sb := sure_best g
  by_cases q : (2 : Rat) < prodQ J
  · rw [decide_eq_true q] at e1 e2
    have b := bRepr_of (ok_bl false)
    have c := cmp_neR _ (ok_bl false)
    generalize dF (prodQ J) = A at *
    simp only [LJ] at *
    generalize (plJ J).map TR = PM at *
    generalize J.map TR = JM at *
    simp at e1
    simp [T14, e1, e2, le2_, b, c]
  · rw [decide_eq_false q] at e1 e2
    rw [sb q] at e4
    have b := bRepr_of (ok_bl true)
    have c := cmp_neR _ (ok_bl true)
    have mk := mkN_ints (bestO (plJ J))
    generalize dF (prodQ J) = A at *
    simp only [LJ, LI] at *
    generalize (bestO (plJ J)).map D.int = BM at *
    generalize (plJ J).map TR = PM at *
    generalize J.map TR = JM at *
    simp at e1
    simp [T14, e1, e2, le2_, b, c, e3, e4, mk]
theorem t15_ {a0 a1 a2 a4 a5 a6 a7 a8 a9 a10 a11 a13 a14 a15 a16 a12 a17 : Slot} {J : List J3} (g : Js J) : T15 (run T 59) [a0, a1, a2, some (LJ J, false), a4, a5, a6, a7, a8, a9, a10, a11, a12, a13, a14, a15, a16, a17] = .nx [a0, a1, a2, some (LJ J, false), a4, a5, a6, a7, a8, a9, a10, a11, some (LI (oddL J), true), a13, a14, a15, a16, a17] := by
  have lc := lc_fm (own := [17]) (g := gName 17) (t := (tOf (xCmp .ne (xIdx (xIdx (xVar 3) (xVar 17)) (xCon (.int 1))) (xIdx (xIdx (xVar 3) (xVar 17)) (xCon (.int 2)))))) (e := (xVar 17)) (σ := [a0, a1, a2, some (LJ J, false), a4, a5, a6, a7, a8, a9, a10, a11, a12, a13, a14, a15, a16, none]) D.int (fun k => !decide ((gt J k).2.1 = (gt J k).2.2)) D.int (upto 0 J.length) (fun k hk => ⟨[a0, a1, a2, some (LJ J, false), a4, a5, a6, a7, a8, a9, a10, a11, a12, a13, a14, a15, a16, some (.int (k), false)], by simp, by
    have hk := up_mem.mp hk
    have ix := idx_gt (J := J) hk.1 (by omega)
    have mf := mkF_tr (gt J k)
    have i1 := tr1 (gt J k)
    have i2 := tr2 (gt J k)
    generalize (gt J k).2.2 = d at *
    generalize (gt J k).2.1 = p at *
    generalize TR (gt J k) = G at *
    simp only [LJ] at *
    generalize J.map TR = JM at *
    simp [ix, mf, i1, i2], fun _ => by simp⟩)
  rw [show (upto 0 J.length).filter (fun k => !decide ((gt J k).2.1 = (gt J k).2.2)) = oddL J from rfl] at lc
  have ol : (oddL J).length ≤ J.length := by
    unfold oddL
    have := List.length_filter_le (fun k => !decide ((gt J k).2.1 = (gt J k).2.2)) (upto 0 J.length)
    rw [up_len] at this
    exact this
  have bl : bLen [LJ J] = some (.int ((J.length : Nat) : Int), false) := by simp
  have kr : okRng (J.length : Int) = true := okRng_of (by omega) (by have := g.n; omega)
  have zl : ((oddL J).map D.int).length ≤ line := by have := g.n; rw [List.length_map, line_val]; omega
  have mk := mkN_ints (oddL J)
  simp only [LJ, LI] at *
  generalize (oddL J).map D.int = OM at *
  generalize J.map TR = JM at *
  simp [T15, -bLen_lst, bl, kr, lc, zl, mk]
end K08
end
section
set_option linter.all false
set_option autoImplicit false
set_option Elab.async false
set_option maxRecDepth 100000
set_option maxHeartbeats 4000000
namespace K08
open PySem Rt
theorem wd (w : Str) (d : D) : (HdF.word w).val d = .tup [.str w, d] := rfl
theorem u00 : up 0 0 = true := rfl
theorem u01 : up 0 1 = false := rfl
theorem u02 : up 0 2 = false := rfl
theorem u03 : up 0 3 = false := rfl
theorem u20 : up 2 0 = false := rfl
theorem u21 : up 2 1 = false := rfl
theorem u22 : up 2 2 = true := rfl
theorem u23 : up 2 3 = false := rfl
theorem u30 : up 3 0 = false := rfl
theorem u31 : up 3 1 = false := rfl
theorem u32 : up 3 2 = false := rfl
theorem u33 : up 3 3 = true := rfl
theorem l5_ : (5 : Nat) ≤ line := by decide
theorem l8_ : (8 : Nat) ≤ line := by decide
theorem ne_tw (w : Str) (k : Int) : cmpD .ne (.tup [.str w, .int k]) (.tup [.str w, .int k]) = some false := by
  show (if okEq (D.tup [.str w, .int k]).py (D.tup [.str w, .int k]).py then some (PyData.eqv (D.tup [.str w, .int k]).py (D.tup [.str w, .int k]).py) else none).map not = _
  have : (D.tup [.str w, .int k]).py = .tuple [.str w, .int k] := by simp [D.py, D.pyL]
  rw [this]
  have ok : okEq (.tuple [.str w, .int k]) (.tuple [.str w, .int k]) = true := by simp [okEq, PyData.plain, PyData.plainAll, PyData.depth, PyData.depthAll]
  rw [if_pos ok]
  simp [PyData.eqv, PyData.eqvAll]
theorem gt_app {J : List J3} {b : J3} {k : Int} (h : 0 ≤ k) (h2 : k < J.length) : gt (J ++ [b]) k = gt J k := by
  unfold gt
  rw [List.getD_eq_getElem?_getD, List.getD_eq_getElem?_getD, List.getElem?_append_left (by omega)]
theorem check_bad (n : Nat) {J : List J3} (g : Js J) (jl : J.length ≤ 4) {b : J3} (hb : ¬ (1 ≤ b.1 ∧ b.1 ≤ 60 ∧ 1 ≤ b.2.2 ∧ b.2.2 ≤ b.2.1 ∧ b.2.1 ≤ 60)) : run T (n + 1) 5 [LJ (J ++ [b])] = .ex 2 (.int (J.length : Int)) := by
  refine (run_at (f := d_check_jobs.df) rfl _ rfl).trans ?_
  show ends (sSeq (sIf (tNot (tOf (xChain (xCon (.int 1)) [(.le, (xBi bLen [(xVar 0)])), (.le, (xCon (.int 5)))]))) (sRaise 1 (xBi bLen [(xVar 0)])) sPass) (sFor (gTup [(gName 1), (gTup [(gName 2), (gName 3), (gName 4)])]) (iEnum (xVar 0)) CB) [some (LJ (J ++ [b]), false), none, none, none, none]) = _
  obtain ⟨σ', e, r⟩ := for_ind (g := gTup [(gName 1), (gTup [(gName 2), (gName 3), (gName 4)])]) (b := CB) (f := NR (J ++ [b])) (l := upto 0 J.length) (fun pre σ => ∃ o1 o2 o3 o4 : Slot, σ = [some (LJ (J ++ [b]), false), o1, o2, o3, o4]) (by
    rintro pre k post σ ep ⟨o1, o2, o3, o4, rfl⟩
    have hk := up_mem.mp (show k ∈ upto 0 J.length by rw [ep]; simp)
    have ok := g.at hk.1 (by omega)
    unfold NR
    rw [gt_app hk.1 (by omega)]
    generalize gt J k = p at *
    obtain ⟨c0, c1, d0, d1, t1⟩ := ok
    refine ⟨[some (LJ (J ++ [b]), false), some (.int k, false), some (.int p.1, false), some (.int p.2.1, false), some (.int p.2.2, false)], ?_, _, _, _, _, rfl⟩
    simp [stp, CB, TR, c0, c1, d0, d1, t1]) (σ := [some (LJ (J ++ [b]), false), none, none, none, none]) ⟨none, none, none, none, rfl⟩
  obtain ⟨o1, o2, o3, o4, rfl⟩ := r
  have nj : Rt.numbered 0 ((J ++ [b]).map TR) = (upto 0 J.length).map (NR (J ++ [b])) ++ [.tup [.int (J.length : Int), TR b]] := by
    rw [num_j, List.length_append, List.length_singleton, up_succ, List.map_append, Int.zero_add]
    congr 1
    show [NR (J ++ [b]) (J.length : Int)] = _
    unfold NR
    rw [gt_last]
  have last : stp (gTup [(gName 1), (gTup [(gName 2), (gName 3), (gName 4)])]) CB (.tup [.int (J.length : Int), TR b]) [some (LJ (J ++ [b]), false), o1, o2, o3, o4] = .ex 2 (.int (J.length : Int)) [some (LJ (J ++ [b]), false), some (.int (J.length : Int), false), some (.int b.1, false), some (.int b.2.1, false), some (.int b.2.2, false)] := by
    rw [stp_of (σ' := [some (LJ (J ++ [b]), false), some (.int (J.length : Int), false), some (.int b.1, false), some (.int b.2.1, false), some (.int b.2.2, false)]) (by simp [TR])]
    by_cases h1 : 1 ≤ b.1
    · by_cases h2 : b.1 ≤ 60
      · by_cases h3 : 1 ≤ b.2.2
        · by_cases h4 : b.2.2 ≤ b.2.1
          · have h5 : ¬ b.2.1 ≤ 60 := fun h5 => hb ⟨h1, h2, h3, h4, h5⟩
            simp [CB, h1, h2, h3, h4, h5]
          · simp [CB, h1, h2, h3, h4]
        · simp [CB, h1, h2, h3]
      · simp [CB, h1, h2]
    · simp [CB, h1]
  have bl : bLen [LJ (J ++ [b])] = some (.int ((J.length : Int) + 1), false) := by simp
  have a1 : (1 : Int) ≤ (J.length : Int) + 1 := by omega
  have a2 : (J.length : Int) + 1 ≤ 5 := by omega
  have go : forGo (gTup [(gName 1), (gTup [(gName 2), (gName 3), (gName 4)])]) CB (Rt.numbered 0 ((J ++ [b]).map TR)) [some (LJ (J ++ [b]), false), none, none, none, none] = .ex 2 (.int (J.length : Int)) [some (LJ (J ++ [b]), false), some (.int (J.length : Int), false), some (.int b.1, false), some (.int b.2.1, false), some (.int b.2.2, false)] := by
    rw [nj, go_app, e, O.bd_nx, forGo_stp, last]; rfl
  simp only [LJ] at *
  generalize (J ++ [b]).map TR = JB at *
  generalize (J.length : Int) = N at *
  simp [-bLen_lst, bl, a1, a2, go]
theorem w8 (n : Nat) {x d : D} {c : Nat} (h : run T (n + 1) 5 [x] = .ex c d) : run T (n + 2) 8 [x] = .ex c d := by
  refine (run_at (f := d_rank_answers.df) rfl _ rfl).trans ?_
  show ends (b_rank_answers (run T (n + 1)) (begin_ 2 [x])) = _
  simp [b_rank_answers, begin_, h]
theorem w10 (n : Nat) {x d : D} {c : Nat} (h : run T (n + 1) 5 [x] = .ex c d) : run T (n + 2) 10 [x] = .ex c d := by
  refine (run_at (f := d_best_order.df) rfl _ rfl).trans ?_
  show ends (b_best_order (run T (n + 1)) (begin_ 4 [x])) = _
  simp [b_best_order, begin_, h]
theorem w12 (n : Nat) {x d : D} {c : Nat} (h : run T (n + 1) 5 [x] = .ex c d) : run T (n + 2) 12 [x] = .ex c d := by
  refine (run_at (f := d_load_of_jobs.df) rfl _ rfl).trans ?_
  show ends (b_load_of_jobs (run T (n + 1)) (begin_ 4 [x])) = _
  simp [b_load_of_jobs, begin_, h]
theorem w13 (n : Nat) {x d : D} {c : Nat} (h : run T (n + 1) 5 [x] = .ex c d) : run T (n + 2) 13 [x] = .ex c d := by
  refine (run_at (f := d_is_sure.df) rfl _ rfl).trans ?_
  show ends (b_is_sure (run T (n + 1)) (begin_ 6 [x])) = _
  simp [b_is_sure, begin_, h]
theorem w11 (n : Nat) {x d : D} {y : D} {c : Nat} (h : run T (n + 1) 5 [x] = .ex c d) : run T (n + 2) 11 [x, y] = .ex c d := by
  refine (run_at (f := d_is_good.df) rfl _ rfl).trans ?_
  show ends (b_is_good (run T (n + 1)) (begin_ 4 [x, y])) = _
  simp [b_is_good, begin_, h]
theorem w14 (n : Nat) {x d : D} {y : D} {c : Nat} (h : run T (n + 1) 5 [x] = .ex c d) : run T (n + 2) 14 [x, y] = .ex c d := by
  refine (run_at (f := d_check_span.df) rfl _ rfl).trans ?_
  show ends (b_check_span (run T (n + 1)) (begin_ 2 [x, y])) = _
  simp [b_check_span, begin_, h]
theorem w9 (n : Nat) {x d : D} {c : Nat} (h : run T (n + 1) 8 [x] = .ex c d) : run T (n + 2) 9 [x] = .ex c d := by
  refine (run_at (f := d_are_in_time.df) rfl _ rfl).trans ?_
  show ends (b_are_in_time (run T (n + 1)) (begin_ 1 [x])) = _
  simp [b_are_in_time, begin_, h]
theorem w16 (n : Nat) {x d : D} {y : D} {c : Nat} (h : run T (n + 1) 14 [x, y] = .ex c d) : run T (n + 2) 16 [x, y] = .ex c d := by
  refine (run_at (f := d_minute_by_minute.df) rfl _ rfl).trans ?_
  show ends (b_minute_by_minute (run T (n + 1)) (begin_ 2 [x, y])) = _
  simp [b_minute_by_minute, begin_, h]
theorem w17 (n : Nat) {x d : D} {y : D} {c : Nat} (h : run T (n + 1) 14 [x, y] = .ex c d) : run T (n + 2) 17 [x, y] = .ex c d := by
  refine (run_at (f := d_job_ends.df) rfl _ rfl).trans ?_
  show ends (b_job_ends (run T (n + 1)) (begin_ 2 [x, y])) = _
  simp [b_job_ends, begin_, h]
theorem fn_0 : dIdx (.lst [.fn 8, .fn 9, .fn 10, .fn 12, .fn 13]) (.int 0) = some (.fn 8) := by rfl
theorem fn_1 : dIdx (.lst [.fn 8, .fn 9, .fn 10, .fn 12, .fn 13]) (.int 1) = some (.fn 9) := by rfl
theorem fn_2 : dIdx (.lst [.fn 8, .fn 9, .fn 10, .fn 12, .fn 13]) (.int 2) = some (.fn 10) := by rfl
theorem fn_3 : dIdx (.lst [.fn 8, .fn 9, .fn 10, .fn 12, .fn 13]) (.int 3) = some (.fn 12) := by rfl
theorem fn_4 : dIdx (.lst [.fn 8, .fn 9, .fn 10, .fn 12, .fn 13]) (.int 4) = some (.fn 13) := by rfl
theorem fn_6 : dIdx (.lst [.fn 16, .fn 17]) (.int 0) = some (.fn 16) := by rfl
theorem fn_7 : dIdx (.lst [.fn 16, .fn 17]) (.int 1) = some (.fn 17) := by rfl
theorem y0_2 (n : Nat) {x y d : D} (h : run T n 8 [x] = .ex 2 d) : run T (n + 1) 31 [.int 0, x, y] = .ok (.tup [.str "job", d], false) := by
  refine (run_at (f := d__law_fault.df) rfl _ rfl).trans ?_
  show ends (b__law_fault (run T n) (begin_ 4 [.int 0, x, y])) = _
  simp [b__law_fault, begin_, fn_0, l5_, h, u00, u01, u02, u03, u20, u21, u22, u23, u30, u31, u32, u33, wd]
theorem y1_2 (n : Nat) {x y d : D} (h : run T n 9 [x] = .ex 2 d) : run T (n + 1) 31 [.int 1, x, y] = .ok (.tup [.str "job", d], false) := by
  refine (run_at (f := d__law_fault.df) rfl _ rfl).trans ?_
  show ends (b__law_fault (run T n) (begin_ 4 [.int 1, x, y])) = _
  simp [b__law_fault, begin_, fn_1, l5_, h, u00, u01, u02, u03, u20, u21, u22, u23, u30, u31, u32, u33, wd]
theorem y2_2 (n : Nat) {x y d : D} (h : run T n 10 [x] = .ex 2 d) : run T (n + 1) 31 [.int 2, x, y] = .ok (.tup [.str "job", d], false) := by
  refine (run_at (f := d__law_fault.df) rfl _ rfl).trans ?_
  show ends (b__law_fault (run T n) (begin_ 4 [.int 2, x, y])) = _
  simp [b__law_fault, begin_, fn_2, l5_, h, u00, u01, u02, u03, u20, u21, u22, u23, u30, u31, u32, u33, wd]
theorem y3_2 (n : Nat) {x y d : D} (h : run T n 12 [x] = .ex 2 d) : run T (n + 1) 31 [.int 3, x, y] = .ok (.tup [.str "job", d], false) := by
  refine (run_at (f := d__law_fault.df) rfl _ rfl).trans ?_
  show ends (b__law_fault (run T n) (begin_ 4 [.int 3, x, y])) = _
  simp [b__law_fault, begin_, fn_3, l5_, h, u00, u01, u02, u03, u20, u21, u22, u23, u30, u31, u32, u33, wd]
theorem y4_2 (n : Nat) {x y d : D} (h : run T n 13 [x] = .ex 2 d) : run T (n + 1) 31 [.int 4, x, y] = .ok (.tup [.str "job", d], false) := by
  refine (run_at (f := d__law_fault.df) rfl _ rfl).trans ?_
  show ends (b__law_fault (run T n) (begin_ 4 [.int 4, x, y])) = _
  simp [b__law_fault, begin_, fn_4, l5_, h, u00, u01, u02, u03, u20, u21, u22, u23, u30, u31, u32, u33, wd]
theorem y5_2 (n : Nat) {x y d : D} (h : run T n 11 [x, y] = .ex 2 d) : run T (n + 1) 31 [.int 5, x, y] = .ok (.tup [.str "job", d], false) := by
  refine (run_at (f := d__law_fault.df) rfl _ rfl).trans ?_
  show ends (b__law_fault (run T n) (begin_ 4 [.int 5, x, y])) = _
  simp [b__law_fault, begin_, l5_, h, u00, u01, u02, u03, u20, u21, u22, u23, u30, u31, u32, u33, wd]
theorem y6_2 (n : Nat) {x y d : D} (h : run T n 16 [x, y] = .ex 2 d) : run T (n + 1) 31 [.int 6, x, y] = .ok (.tup [.str "job", d], false) := by
  refine (run_at (f := d__law_fault.df) rfl _ rfl).trans ?_
  show ends (b__law_fault (run T n) (begin_ 4 [.int 6, x, y])) = _
  simp [b__law_fault, begin_, fn_6, le2_, h, u00, u01, u02, u03, u20, u21, u22, u23, u30, u31, u32, u33, wd]
theorem y7_2 (n : Nat) {x y d : D} (h : run T n 17 [x, y] = .ex 2 d) : run T (n + 1) 31 [.int 7, x, y] = .ok (.tup [.str "job", d], false) := by
  refine (run_at (f := d__law_fault.df) rfl _ rfl).trans ?_
  show ends (b__law_fault (run T n) (begin_ 4 [.int 7, x, y])) = _
  simp [b__law_fault, begin_, fn_7, le2_, h, u00, u01, u02, u03, u20, u21, u22, u23, u30, u31, u32, u33, wd]
theorem y5_3 (n : Nat) {x y d : D} (h : run T n 11 [x, y] = .ex 3 d) : run T (n + 1) 31 [.int 5, x, y] = .ok (.tup [.str "order", d], false) := by
  refine (run_at (f := d__law_fault.df) rfl _ rfl).trans ?_
  show ends (b__law_fault (run T n) (begin_ 4 [.int 5, x, y])) = _
  simp [b__law_fault, begin_, l5_, h, u00, u01, u02, u03, u20, u21, u22, u23, u30, u31, u32, u33, wd]
theorem y6_0 (n : Nat) {x y d : D} (h : run T n 16 [x, y] = .ex 0 d) : run T (n + 1) 31 [.int 6, x, y] = .ok (.tup [.str "range", d], false) := by
  refine (run_at (f := d__law_fault.df) rfl _ rfl).trans ?_
  show ends (b__law_fault (run T n) (begin_ 4 [.int 6, x, y])) = _
  simp [b__law_fault, begin_, fn_6, le2_, h, u00, u01, u02, u03, u20, u21, u22, u23, u30, u31, u32, u33, wd]
theorem y7_0 (n : Nat) {x y d : D} (h : run T n 17 [x, y] = .ex 0 d) : run T (n + 1) 31 [.int 7, x, y] = .ok (.tup [.str "range", d], false) := by
  refine (run_at (f := d__law_fault.df) rfl _ rfl).trans ?_
  show ends (b__law_fault (run T n) (begin_ 4 [.int 7, x, y])) = _
  simp [b__law_fault, begin_, fn_7, le2_, h, u00, u01, u02, u03, u20, u21, u22, u23, u30, u31, u32, u33, wd]
theorem job_fault {J : List J3} (g : Js J) (jl : J.length ≤ 4) {b : J3} (hb : ¬ (1 ≤ b.1 ∧ b.1 ≤ 60 ∧ 1 ≤ b.2.2 ∧ b.2.2 ≤ b.2.1 ∧ b.2.1 ≤ 60)) (w : Nat) (hw : w < 8) (y : D) : run T 58 31 [.int (w : Int), LJ (J ++ [b]), y] = .ok (.tup [.str "job", .int (J.length : Int)], false) := by
  have h : ∀ n, run T (n + 1) 5 [LJ (J ++ [b])] = .ex 2 (.int (J.length : Int)) := fun n => check_bad n g jl hb
  match w, hw with
  | 0, _ => exact y0_2 57 (w8 55 (h 55))
  | 1, _ => exact y1_2 57 (w9 55 (w8 54 (h 54)))
  | 2, _ => exact y2_2 57 (w10 55 (h 55))
  | 3, _ => exact y3_2 57 (w12 55 (h 55))
  | 4, _ => exact y4_2 57 (w13 55 (h 55))
  | 5, _ => exact y5_2 57 (w11 55 (h 55))
  | 6, _ => exact y6_2 57 (w16 55 (w14 54 (h 54)))
  | 7, _ => exact y7_2 57 (w17 55 (w14 54 (h 54)))
def F0 (call : Nat → Rt.Fn) : Sm := (sSet 1 (xBi bLen [(xVar 0)]))
def F1 (call : Nat → Rt.Fn) : Sm := (sFor (gName 2) (iRng1 (xCon (.int 8))) (sSeq (sSet 3 (xIdx (xLst [(false, (xCon (.int 0))), (false, (xCon (.int 0))), (false, (xCon (.int 0))), (false, (xCon (.int 0))), (false, (xCon (.int 0))), (false, (xLst [])), (false, (xNeg (xCon (.int 1)))), (false, (xNeg (xCon (.int 1))))]) (xVar 2))) (sSeq (sIf (tOr (tOf (xCmp .ne (xCall (call 31) [(xVar 2), (xLst []), (xVar 3)]) (xTup [(false, (xCon (.str "size"))), (false, (xCon (.int 0)))]))) (tOf (xCmp .ne (xCall (call 31) [(xVar 2), (xBin dMul (xLst [(false, (xTup [(false, (xCon (.int 0))), (false, (xCon (.int 0))), (false, (xCon (.int 0)))]))]) (xCon (.int 6))), (xVar 3)]) (xTup [(false, (xCon (.str "size"))), (false, (xCon (.int 6)))])))) (sRet (xCon (.bl false))) sPass) (sFor (gName 4) (iSeqF (xLst [(false, (xTup [(false, (xCon (.int 0))), (false, (xCon (.int 5))), (false, (xCon (.int 5)))])), (false, (xTup [(false, (xCon (.int 61))), (false, (xCon (.int 60))), (false, (xCon (.int 60)))])), (false, (xTup [(false, (xCon (.int 1))), (false, (xCon (.int 61))), (false, (xCon (.int 5)))])), (false, (xTup [(false, (xCon (.int 1))), (false, (xCon (.int 5))), (false, (xCon (.int 0)))])), (false, (xTup [(false, (xCon (.int 1))), (false, (xCon (.int 5))), (false, (xCon (.int 6)))]))])) (sIf (tOf (xCmp .ne (xCall (call 31) [(xVar 2), (xBin dAdd (xVar 0) (xLst [(false, (xVar 4))])), (xVar 3)]) (xTup [(false, (xCon (.str "job"))), (false, (xVar 1))]))) (sRet (xCon (.bl false))) sPass)))))
def F2 (call : Nat → Rt.Fn) : Sm := (sFor (gTup [(gName 4), (gName 5)]) (iSeqF (xLst [(false, (xTup [(false, (xLst [])), (false, (xCon (.int 0)))])), (false, (xTup [(false, (xLst [(false, (xVar 1))])), (false, (xCon (.int 0)))])), (false, (xTup [(false, (xLst [(false, (xNeg (xCon (.int 1))))])), (false, (xCon (.int 0)))])), (false, (xTup [(false, (xBin dAdd (xLst [(false, (xCon (.int 0)))]) (xLst [(false, (xCon (.int 0)))]))), (false, (xCon (.int 1)))])), (false, (xTup [(false, (xBin dAdd (xLRg1 (xVar 1)) (xLst [(false, (xCon (.int 0)))]))), (false, (xBin dAdd (xVar 1) (xCon (.int 1))))]))])) (sIf (tAnd (tOf (xCmp .ne (xCall (call 31) [(xCon (.int 5)), (xVar 0), (xVar 4)]) (xTup [(false, (xCon (.str "order"))), (false, (xVar 5))]))) (tOr (tOf (xCmp .gt (xVar 1) (xCon (.int 1)))) (tOf (xCmp .ne (xVar 4) (xLst [(false, (xCon (.int 0))), (false, (xCon (.int 0)))]))))) (sRet (xCon (.bl false))) sPass))
def F3 (call : Nat → Rt.Fn) : Sm := (sFor (gName 2) (iSeqF (xLst [(false, (xCon (.int 6))), (false, (xCon (.int 7)))])) (sFor (gName 4) (iSeqF (xLst [(false, (xNeg (xCon (.int 1)))), (false, (xCon (.int 401)))])) (sIf (tOf (xCmp .ne (xCall (call 31) [(xVar 2), (xVar 0), (xVar 4)]) (xTup [(false, (xCon (.str "range"))), (false, (xVar 4))]))) (sRet (xCon (.bl false))) sPass)))
def F4 (call : Nat → Rt.Fn) : Sm := (sRet (xCon (.bl true)))
theorem faults_parts (call : Nat → Rt.Fn) : b__law_faults call = sSeq (F0 call) (sSeq (F1 call) (sSeq (F2 call) (sSeq (F3 call) (F4 call)))) := rfl
def V0 (call : Nat → Rt.Fn) : Sm := (sSet 3 (xIdx (xLst [(false, (xCon (.int 0))), (false, (xCon (.int 0))), (false, (xCon (.int 0))), (false, (xCon (.int 0))), (false, (xCon (.int 0))), (false, (xLst [])), (false, (xNeg (xCon (.int 1)))), (false, (xNeg (xCon (.int 1))))]) (xVar 2)))
def V1 (call : Nat → Rt.Fn) : Sm := (sIf (tOr (tOf (xCmp .ne (xCall (call 31) [(xVar 2), (xLst []), (xVar 3)]) (xTup [(false, (xCon (.str "size"))), (false, (xCon (.int 0)))]))) (tOf (xCmp .ne (xCall (call 31) [(xVar 2), (xBin dMul (xLst [(false, (xTup [(false, (xCon (.int 0))), (false, (xCon (.int 0))), (false, (xCon (.int 0)))]))]) (xCon (.int 6))), (xVar 3)]) (xTup [(false, (xCon (.str "size"))), (false, (xCon (.int 6)))])))) (sRet (xCon (.bl false))) sPass)
def V2 (call : Nat → Rt.Fn) : Sm := (sFor (gName 4) (iSeqF (xLst [(false, (xTup [(false, (xCon (.int 0))), (false, (xCon (.int 5))), (false, (xCon (.int 5)))])), (false, (xTup [(false, (xCon (.int 61))), (false, (xCon (.int 60))), (false, (xCon (.int 60)))])), (false, (xTup [(false, (xCon (.int 1))), (false, (xCon (.int 61))), (false, (xCon (.int 5)))])), (false, (xTup [(false, (xCon (.int 1))), (false, (xCon (.int 5))), (false, (xCon (.int 0)))])), (false, (xTup [(false, (xCon (.int 1))), (false, (xCon (.int 5))), (false, (xCon (.int 6)))]))])) (sIf (tOf (xCmp .ne (xCall (call 31) [(xVar 2), (xBin dAdd (xVar 0) (xLst [(false, (xVar 4))])), (xVar 3)]) (xTup [(false, (xCon (.str "job"))), (false, (xVar 1))]))) (sRet (xCon (.bl false))) sPass))
def QW (call : Nat → Rt.Fn) : Sm := sSeq (V0 call) (sSeq (V1 call) (V2 call))
def QB (call : Nat → Rt.Fn) : Sm := (sIf (tOf (xCmp .ne (xCall (call 31) [(xVar 2), (xBin dAdd (xVar 0) (xLst [(false, (xVar 4))])), (xVar 3)]) (xTup [(false, (xCon (.str "job"))), (false, (xVar 1))]))) (sRet (xCon (.bl false))) sPass)
theorem qb_0 {J : List J3} (g : Js J) (jl : J.length ≤ 4) {w : Nat} (hw : w < 8) {y : D} {a5 : Slot} : QB (run T 58) [some (LJ J, false), some (.int (J.length : Int), false), some (.int (w : Int), false), some (y, false), some (.tup [.int 0, .int 5, .int 5], false), a5] = .nx [some (LJ J, false), some (.int (J.length : Int), false), some (.int (w : Int), false), some (y, false), some (.tup [.int 0, .int 5, .int 5], false), a5] := by
  have f := job_fault g jl (b := (0, 5, 5)) (by decide) w hw y
  have ap : (J ++ [((0, 5, 5) : J3)]).map TR = J.map TR ++ [.tup [.int 0, .int 5, .int 5]] := by rw [List.map_append]; rfl
  have ad : dAdd (.lst (J.map TR)) (.lst [.tup [.int 0, .int 5, .int 5]]) = some (.lst (J.map TR ++ [.tup [.int 0, .int 5, .int 5]]), true) := dAdd_lst (by have := g.n; rw [List.length_map, line_val]; simp; omega)
  have ne := ne_tw "job" (J.length : Int)
  simp only [LJ] at *
  rw [ap] at f
  generalize J.map TR = JM at *
  generalize (J.length : Int) = N at *
  simp [QB, l1_, ad, f, le2_, ne]
theorem qb_1 {J : List J3} (g : Js J) (jl : J.length ≤ 4) {w : Nat} (hw : w < 8) {y : D} {a5 : Slot} : QB (run T 58) [some (LJ J, false), some (.int (J.length : Int), false), some (.int (w : Int), false), some (y, false), some (.tup [.int 61, .int 60, .int 60], false), a5] = .nx [some (LJ J, false), some (.int (J.length : Int), false), some (.int (w : Int), false), some (y, false), some (.tup [.int 61, .int 60, .int 60], false), a5] := by
  have f := job_fault g jl (b := (61, 60, 60)) (by decide) w hw y
  have ap : (J ++ [((61, 60, 60) : J3)]).map TR = J.map TR ++ [.tup [.int 61, .int 60, .int 60]] := by rw [List.map_append]; rfl
  have ad : dAdd (.lst (J.map TR)) (.lst [.tup [.int 61, .int 60, .int 60]]) = some (.lst (J.map TR ++ [.tup [.int 61, .int 60, .int 60]]), true) := dAdd_lst (by have := g.n; rw [List.length_map, line_val]; simp; omega)
  have ne := ne_tw "job" (J.length : Int)
  simp only [LJ] at *
  rw [ap] at f
  generalize J.map TR = JM at *
  generalize (J.length : Int) = N at *
  simp [QB, l1_, ad, f, le2_, ne]
theorem qb_2 {J : List J3} (g : Js J) (jl : J.length ≤ 4) {w : Nat} (hw : w < 8) {y : D} {a5 : Slot} : QB (run T 58) [some (LJ J, false), some (.int (J.length : Int), false), some (.int (w : Int), false), some (y, false), some (.tup [.int 1, .int 61, .int 5], false), a5] = .nx [some (LJ J, false), some (.int (J.length : Int), false), some (.int (w : Int), false), some (y, false), some (.tup [.int 1, .int 61, .int 5], false), a5] := by
  have f := job_fault g jl (b := (1, 61, 5)) (by decide) w hw y
  have ap : (J ++ [((1, 61, 5) : J3)]).map TR = J.map TR ++ [.tup [.int 1, .int 61, .int 5]] := by rw [List.map_append]; rfl
  have ad : dAdd (.lst (J.map TR)) (.lst [.tup [.int 1, .int 61, .int 5]]) = some (.lst (J.map TR ++ [.tup [.int 1, .int 61, .int 5]]), true) := dAdd_lst (by have := g.n; rw [List.length_map, line_val]; simp; omega)
  have ne := ne_tw "job" (J.length : Int)
  simp only [LJ] at *
  rw [ap] at f
  generalize J.map TR = JM at *
  generalize (J.length : Int) = N at *
  simp [QB, l1_, ad, f, le2_, ne]
theorem qb_3 {J : List J3} (g : Js J) (jl : J.length ≤ 4) {w : Nat} (hw : w < 8) {y : D} {a5 : Slot} : QB (run T 58) [some (LJ J, false), some (.int (J.length : Int), false), some (.int (w : Int), false), some (y, false), some (.tup [.int 1, .int 5, .int 0], false), a5] = .nx [some (LJ J, false), some (.int (J.length : Int), false), some (.int (w : Int), false), some (y, false), some (.tup [.int 1, .int 5, .int 0], false), a5] := by
  have f := job_fault g jl (b := (1, 5, 0)) (by decide) w hw y
  have ap : (J ++ [((1, 5, 0) : J3)]).map TR = J.map TR ++ [.tup [.int 1, .int 5, .int 0]] := by rw [List.map_append]; rfl
  have ad : dAdd (.lst (J.map TR)) (.lst [.tup [.int 1, .int 5, .int 0]]) = some (.lst (J.map TR ++ [.tup [.int 1, .int 5, .int 0]]), true) := dAdd_lst (by have := g.n; rw [List.length_map, line_val]; simp; omega)
  have ne := ne_tw "job" (J.length : Int)
  simp only [LJ] at *
  rw [ap] at f
  generalize J.map TR = JM at *
  generalize (J.length : Int) = N at *
  simp [QB, l1_, ad, f, le2_, ne]
theorem qb_4 {J : List J3} (g : Js J) (jl : J.length ≤ 4) {w : Nat} (hw : w < 8) {y : D} {a5 : Slot} : QB (run T 58) [some (LJ J, false), some (.int (J.length : Int), false), some (.int (w : Int), false), some (y, false), some (.tup [.int 1, .int 5, .int 6], false), a5] = .nx [some (LJ J, false), some (.int (J.length : Int), false), some (.int (w : Int), false), some (y, false), some (.tup [.int 1, .int 5, .int 6], false), a5] := by
  have f := job_fault g jl (b := (1, 5, 6)) (by decide) w hw y
  have ap : (J ++ [((1, 5, 6) : J3)]).map TR = J.map TR ++ [.tup [.int 1, .int 5, .int 6]] := by rw [List.map_append]; rfl
  have ad : dAdd (.lst (J.map TR)) (.lst [.tup [.int 1, .int 5, .int 6]]) = some (.lst (J.map TR ++ [.tup [.int 1, .int 5, .int 6]]), true) := dAdd_lst (by have := g.n; rw [List.length_map, line_val]; simp; omega)
  have ne := ne_tw "job" (J.length : Int)
  simp only [LJ] at *
  rw [ap] at f
  generalize J.map TR = JM at *
  generalize (J.length : Int) = N at *
  simp [QB, l1_, ad, f, le2_, ne]
theorem q0_0 {A B : D} {a3 a4 a5 : Slot} : V0 (run T 58) [some (A, false), some (B, false), some (.int 0, false), a3, a4, a5] = .nx [some (A, false), some (B, false), some (.int 0, false), some (.int 0, false), a4, a5] := by kernel_rfl
theorem q1_0 {A B : D} {a4 a5 : Slot} : V1 (run T 58) [some (A, false), some (B, false), some (.int 0, false), some (.int 0, false), a4, a5] = .nx [some (A, false), some (B, false), some (.int 0, false), some (.int 0, false), a4, a5] := by kernel_rfl
theorem qw_0 {J : List J3} (g : Js J) (jl : J.length ≤ 4) {a2 a3 a4 a5 : Slot} : stp (gName 2) (QW (run T 58)) (.int 0) [some (LJ J, false), some (.int (J.length : Int), false), a2, a3, a4, a5] = .nx [some (LJ J, false), some (.int (J.length : Int), false), some (.int 0, false), some (.int 0, false), some (.tup [.int 1, .int 5, .int 6], false), a5] := by
  rw [stp_of (σ' := [some (LJ J, false), some (.int (J.length : Int), false), some (.int 0, false), a3, a4, a5]) (by simp), show QW (run T 58) = sSeq (V0 (run T 58)) (sSeq (V1 (run T 58)) (V2 (run T 58))) from rfl, sSeq_eq, q0_0, O.bd_nx, sSeq_eq, q1_0, O.bd_nx]
  show sFor (gName 4) _ (QB (run T 58)) _ = _
  have b0 := qb_0 g jl (w := 0) (by decide) (y := .int 0) (a5 := a5)
  have b1 := qb_1 g jl (w := 0) (by decide) (y := .int 0) (a5 := a5)
  have b2 := qb_2 g jl (w := 0) (by decide) (y := .int 0) (a5 := a5)
  have b3 := qb_3 g jl (w := 0) (by decide) (y := .int 0) (a5 := a5)
  have b4 := qb_4 g jl (w := 0) (by decide) (y := .int 0) (a5 := a5)
  rw [show (((0 : Nat) : Nat) : Int) = 0 from rfl] at b0 b1 b2 b3 b4
  simp only [LJ] at *
  generalize J.map TR = JM at *
  generalize (J.length : Int) = N at *
  generalize QB (run T 58) = QQ at *
  simp [forGo_cons, l3_, l5_, b0, b1, b2, b3, b4]
theorem q0_1 {A B : D} {a3 a4 a5 : Slot} : V0 (run T 58) [some (A, false), some (B, false), some (.int 1, false), a3, a4, a5] = .nx [some (A, false), some (B, false), some (.int 1, false), some (.int 0, false), a4, a5] := by kernel_rfl
theorem q1_1 {A B : D} {a4 a5 : Slot} : V1 (run T 58) [some (A, false), some (B, false), some (.int 1, false), some (.int 0, false), a4, a5] = .nx [some (A, false), some (B, false), some (.int 1, false), some (.int 0, false), a4, a5] := by kernel_rfl
theorem qw_1 {J : List J3} (g : Js J) (jl : J.length ≤ 4) {a2 a3 a4 a5 : Slot} : stp (gName 2) (QW (run T 58)) (.int 1) [some (LJ J, false), some (.int (J.length : Int), false), a2, a3, a4, a5] = .nx [some (LJ J, false), some (.int (J.length : Int), false), some (.int 1, false), some (.int 0, false), some (.tup [.int 1, .int 5, .int 6], false), a5] := by
  rw [stp_of (σ' := [some (LJ J, false), some (.int (J.length : Int), false), some (.int 1, false), a3, a4, a5]) (by simp), show QW (run T 58) = sSeq (V0 (run T 58)) (sSeq (V1 (run T 58)) (V2 (run T 58))) from rfl, sSeq_eq, q0_1, O.bd_nx, sSeq_eq, q1_1, O.bd_nx]
  show sFor (gName 4) _ (QB (run T 58)) _ = _
  have b0 := qb_0 g jl (w := 1) (by decide) (y := .int 0) (a5 := a5)
  have b1 := qb_1 g jl (w := 1) (by decide) (y := .int 0) (a5 := a5)
  have b2 := qb_2 g jl (w := 1) (by decide) (y := .int 0) (a5 := a5)
  have b3 := qb_3 g jl (w := 1) (by decide) (y := .int 0) (a5 := a5)
  have b4 := qb_4 g jl (w := 1) (by decide) (y := .int 0) (a5 := a5)
  rw [show (((1 : Nat) : Nat) : Int) = 1 from rfl] at b0 b1 b2 b3 b4
  simp only [LJ] at *
  generalize J.map TR = JM at *
  generalize (J.length : Int) = N at *
  generalize QB (run T 58) = QQ at *
  simp [forGo_cons, l3_, l5_, b0, b1, b2, b3, b4]
theorem q0_2 {A B : D} {a3 a4 a5 : Slot} : V0 (run T 58) [some (A, false), some (B, false), some (.int 2, false), a3, a4, a5] = .nx [some (A, false), some (B, false), some (.int 2, false), some (.int 0, false), a4, a5] := by kernel_rfl
theorem q1_2 {A B : D} {a4 a5 : Slot} : V1 (run T 58) [some (A, false), some (B, false), some (.int 2, false), some (.int 0, false), a4, a5] = .nx [some (A, false), some (B, false), some (.int 2, false), some (.int 0, false), a4, a5] := by kernel_rfl
theorem qw_2 {J : List J3} (g : Js J) (jl : J.length ≤ 4) {a2 a3 a4 a5 : Slot} : stp (gName 2) (QW (run T 58)) (.int 2) [some (LJ J, false), some (.int (J.length : Int), false), a2, a3, a4, a5] = .nx [some (LJ J, false), some (.int (J.length : Int), false), some (.int 2, false), some (.int 0, false), some (.tup [.int 1, .int 5, .int 6], false), a5] := by
  rw [stp_of (σ' := [some (LJ J, false), some (.int (J.length : Int), false), some (.int 2, false), a3, a4, a5]) (by simp), show QW (run T 58) = sSeq (V0 (run T 58)) (sSeq (V1 (run T 58)) (V2 (run T 58))) from rfl, sSeq_eq, q0_2, O.bd_nx, sSeq_eq, q1_2, O.bd_nx]
  show sFor (gName 4) _ (QB (run T 58)) _ = _
  have b0 := qb_0 g jl (w := 2) (by decide) (y := .int 0) (a5 := a5)
  have b1 := qb_1 g jl (w := 2) (by decide) (y := .int 0) (a5 := a5)
  have b2 := qb_2 g jl (w := 2) (by decide) (y := .int 0) (a5 := a5)
  have b3 := qb_3 g jl (w := 2) (by decide) (y := .int 0) (a5 := a5)
  have b4 := qb_4 g jl (w := 2) (by decide) (y := .int 0) (a5 := a5)
  rw [show (((2 : Nat) : Nat) : Int) = 2 from rfl] at b0 b1 b2 b3 b4
  simp only [LJ] at *
  generalize J.map TR = JM at *
  generalize (J.length : Int) = N at *
  generalize QB (run T 58) = QQ at *
  simp [forGo_cons, l3_, l5_, b0, b1, b2, b3, b4]
theorem q0_3 {A B : D} {a3 a4 a5 : Slot} : V0 (run T 58) [some (A, false), some (B, false), some (.int 3, false), a3, a4, a5] = .nx [some (A, false), some (B, false), some (.int 3, false), some (.int 0, false), a4, a5] := by kernel_rfl
theorem q1_3 {A B : D} {a4 a5 : Slot} : V1 (run T 58) [some (A, false), some (B, false), some (.int 3, false), some (.int 0, false), a4, a5] = .nx [some (A, false), some (B, false), some (.int 3, false), some (.int 0, false), a4, a5] := by kernel_rfl
theorem qw_3 {J : List J3} (g : Js J) (jl : J.length ≤ 4) {a2 a3 a4 a5 : Slot} : stp (gName 2) (QW (run T 58)) (.int 3) [some (LJ J, false), some (.int (J.length : Int), false), a2, a3, a4, a5] = .nx [some (LJ J, false), some (.int (J.length : Int), false), some (.int 3, false), some (.int 0, false), some (.tup [.int 1, .int 5, .int 6], false), a5] := by
  rw [stp_of (σ' := [some (LJ J, false), some (.int (J.length : Int), false), some (.int 3, false), a3, a4, a5]) (by simp), show QW (run T 58) = sSeq (V0 (run T 58)) (sSeq (V1 (run T 58)) (V2 (run T 58))) from rfl, sSeq_eq, q0_3, O.bd_nx, sSeq_eq, q1_3, O.bd_nx]
  show sFor (gName 4) _ (QB (run T 58)) _ = _
  have b0 := qb_0 g jl (w := 3) (by decide) (y := .int 0) (a5 := a5)
  have b1 := qb_1 g jl (w := 3) (by decide) (y := .int 0) (a5 := a5)
  have b2 := qb_2 g jl (w := 3) (by decide) (y := .int 0) (a5 := a5)
  have b3 := qb_3 g jl (w := 3) (by decide) (y := .int 0) (a5 := a5)
  have b4 := qb_4 g jl (w := 3) (by decide) (y := .int 0) (a5 := a5)
  rw [show (((3 : Nat) : Nat) : Int) = 3 from rfl] at b0 b1 b2 b3 b4
  simp only [LJ] at *
  generalize J.map TR = JM at *
  generalize (J.length : Int) = N at *
  generalize QB (run T 58) = QQ at *
  simp [forGo_cons, l3_, l5_, b0, b1, b2, b3, b4]
theorem q0_4 {A B : D} {a3 a4 a5 : Slot} : V0 (run T 58) [some (A, false), some (B, false), some (.int 4, false), a3, a4, a5] = .nx [some (A, false), some (B, false), some (.int 4, false), some (.int 0, false), a4, a5] := by kernel_rfl
theorem q1_4 {A B : D} {a4 a5 : Slot} : V1 (run T 58) [some (A, false), some (B, false), some (.int 4, false), some (.int 0, false), a4, a5] = .nx [some (A, false), some (B, false), some (.int 4, false), some (.int 0, false), a4, a5] := by kernel_rfl
theorem qw_4 {J : List J3} (g : Js J) (jl : J.length ≤ 4) {a2 a3 a4 a5 : Slot} : stp (gName 2) (QW (run T 58)) (.int 4) [some (LJ J, false), some (.int (J.length : Int), false), a2, a3, a4, a5] = .nx [some (LJ J, false), some (.int (J.length : Int), false), some (.int 4, false), some (.int 0, false), some (.tup [.int 1, .int 5, .int 6], false), a5] := by
  rw [stp_of (σ' := [some (LJ J, false), some (.int (J.length : Int), false), some (.int 4, false), a3, a4, a5]) (by simp), show QW (run T 58) = sSeq (V0 (run T 58)) (sSeq (V1 (run T 58)) (V2 (run T 58))) from rfl, sSeq_eq, q0_4, O.bd_nx, sSeq_eq, q1_4, O.bd_nx]
  show sFor (gName 4) _ (QB (run T 58)) _ = _
  have b0 := qb_0 g jl (w := 4) (by decide) (y := .int 0) (a5 := a5)
  have b1 := qb_1 g jl (w := 4) (by decide) (y := .int 0) (a5 := a5)
  have b2 := qb_2 g jl (w := 4) (by decide) (y := .int 0) (a5 := a5)
  have b3 := qb_3 g jl (w := 4) (by decide) (y := .int 0) (a5 := a5)
  have b4 := qb_4 g jl (w := 4) (by decide) (y := .int 0) (a5 := a5)
  rw [show (((4 : Nat) : Nat) : Int) = 4 from rfl] at b0 b1 b2 b3 b4
  simp only [LJ] at *
  generalize J.map TR = JM at *
  generalize (J.length : Int) = N at *
  generalize QB (run T 58) = QQ at *
  simp [forGo_cons, l3_, l5_, b0, b1, b2, b3, b4]
theorem q0_5 {A B : D} {a3 a4 a5 : Slot} : V0 (run T 58) [some (A, false), some (B, false), some (.int 5, false), a3, a4, a5] = .nx [some (A, false), some (B, false), some (.int 5, false), some (.lst [], false), a4, a5] := by kernel_rfl
theorem q1_5 {A B : D} {a4 a5 : Slot} : V1 (run T 58) [some (A, false), some (B, false), some (.int 5, false), some (.lst [], false), a4, a5] = .nx [some (A, false), some (B, false), some (.int 5, false), some (.lst [], false), a4, a5] := by kernel_rfl
theorem qw_5 {J : List J3} (g : Js J) (jl : J.length ≤ 4) {a2 a3 a4 a5 : Slot} : stp (gName 2) (QW (run T 58)) (.int 5) [some (LJ J, false), some (.int (J.length : Int), false), a2, a3, a4, a5] = .nx [some (LJ J, false), some (.int (J.length : Int), false), some (.int 5, false), some (.lst [], false), some (.tup [.int 1, .int 5, .int 6], false), a5] := by
  rw [stp_of (σ' := [some (LJ J, false), some (.int (J.length : Int), false), some (.int 5, false), a3, a4, a5]) (by simp), show QW (run T 58) = sSeq (V0 (run T 58)) (sSeq (V1 (run T 58)) (V2 (run T 58))) from rfl, sSeq_eq, q0_5, O.bd_nx, sSeq_eq, q1_5, O.bd_nx]
  show sFor (gName 4) _ (QB (run T 58)) _ = _
  have b0 := qb_0 g jl (w := 5) (by decide) (y := .lst []) (a5 := a5)
  have b1 := qb_1 g jl (w := 5) (by decide) (y := .lst []) (a5 := a5)
  have b2 := qb_2 g jl (w := 5) (by decide) (y := .lst []) (a5 := a5)
  have b3 := qb_3 g jl (w := 5) (by decide) (y := .lst []) (a5 := a5)
  have b4 := qb_4 g jl (w := 5) (by decide) (y := .lst []) (a5 := a5)
  rw [show (((5 : Nat) : Nat) : Int) = 5 from rfl] at b0 b1 b2 b3 b4
  simp only [LJ] at *
  generalize J.map TR = JM at *
  generalize (J.length : Int) = N at *
  generalize QB (run T 58) = QQ at *
  simp [forGo_cons, l3_, l5_, b0, b1, b2, b3, b4]
theorem q0_6 {A B : D} {a3 a4 a5 : Slot} : V0 (run T 58) [some (A, false), some (B, false), some (.int 6, false), a3, a4, a5] = .nx [some (A, false), some (B, false), some (.int 6, false), some (.int (-1), false), a4, a5] := by kernel_rfl
theorem q1_6 {A B : D} {a4 a5 : Slot} : V1 (run T 58) [some (A, false), some (B, false), some (.int 6, false), some (.int (-1), false), a4, a5] = .nx [some (A, false), some (B, false), some (.int 6, false), some (.int (-1), false), a4, a5] := by kernel_rfl
theorem qw_6 {J : List J3} (g : Js J) (jl : J.length ≤ 4) {a2 a3 a4 a5 : Slot} : stp (gName 2) (QW (run T 58)) (.int 6) [some (LJ J, false), some (.int (J.length : Int), false), a2, a3, a4, a5] = .nx [some (LJ J, false), some (.int (J.length : Int), false), some (.int 6, false), some (.int (-1), false), some (.tup [.int 1, .int 5, .int 6], false), a5] := by
  rw [stp_of (σ' := [some (LJ J, false), some (.int (J.length : Int), false), some (.int 6, false), a3, a4, a5]) (by simp), show QW (run T 58) = sSeq (V0 (run T 58)) (sSeq (V1 (run T 58)) (V2 (run T 58))) from rfl, sSeq_eq, q0_6, O.bd_nx, sSeq_eq, q1_6, O.bd_nx]
  show sFor (gName 4) _ (QB (run T 58)) _ = _
  have b0 := qb_0 g jl (w := 6) (by decide) (y := .int (-1)) (a5 := a5)
  have b1 := qb_1 g jl (w := 6) (by decide) (y := .int (-1)) (a5 := a5)
  have b2 := qb_2 g jl (w := 6) (by decide) (y := .int (-1)) (a5 := a5)
  have b3 := qb_3 g jl (w := 6) (by decide) (y := .int (-1)) (a5 := a5)
  have b4 := qb_4 g jl (w := 6) (by decide) (y := .int (-1)) (a5 := a5)
  rw [show (((6 : Nat) : Nat) : Int) = 6 from rfl] at b0 b1 b2 b3 b4
  simp only [LJ] at *
  generalize J.map TR = JM at *
  generalize (J.length : Int) = N at *
  generalize QB (run T 58) = QQ at *
  simp [forGo_cons, l3_, l5_, b0, b1, b2, b3, b4]
theorem q0_7 {A B : D} {a3 a4 a5 : Slot} : V0 (run T 58) [some (A, false), some (B, false), some (.int 7, false), a3, a4, a5] = .nx [some (A, false), some (B, false), some (.int 7, false), some (.int (-1), false), a4, a5] := by kernel_rfl
theorem q1_7 {A B : D} {a4 a5 : Slot} : V1 (run T 58) [some (A, false), some (B, false), some (.int 7, false), some (.int (-1), false), a4, a5] = .nx [some (A, false), some (B, false), some (.int 7, false), some (.int (-1), false), a4, a5] := by kernel_rfl
theorem qw_7 {J : List J3} (g : Js J) (jl : J.length ≤ 4) {a2 a3 a4 a5 : Slot} : stp (gName 2) (QW (run T 58)) (.int 7) [some (LJ J, false), some (.int (J.length : Int), false), a2, a3, a4, a5] = .nx [some (LJ J, false), some (.int (J.length : Int), false), some (.int 7, false), some (.int (-1), false), some (.tup [.int 1, .int 5, .int 6], false), a5] := by
  rw [stp_of (σ' := [some (LJ J, false), some (.int (J.length : Int), false), some (.int 7, false), a3, a4, a5]) (by simp), show QW (run T 58) = sSeq (V0 (run T 58)) (sSeq (V1 (run T 58)) (V2 (run T 58))) from rfl, sSeq_eq, q0_7, O.bd_nx, sSeq_eq, q1_7, O.bd_nx]
  show sFor (gName 4) _ (QB (run T 58)) _ = _
  have b0 := qb_0 g jl (w := 7) (by decide) (y := .int (-1)) (a5 := a5)
  have b1 := qb_1 g jl (w := 7) (by decide) (y := .int (-1)) (a5 := a5)
  have b2 := qb_2 g jl (w := 7) (by decide) (y := .int (-1)) (a5 := a5)
  have b3 := qb_3 g jl (w := 7) (by decide) (y := .int (-1)) (a5 := a5)
  have b4 := qb_4 g jl (w := 7) (by decide) (y := .int (-1)) (a5 := a5)
  rw [show (((7 : Nat) : Nat) : Int) = 7 from rfl] at b0 b1 b2 b3 b4
  simp only [LJ] at *
  generalize J.map TR = JM at *
  generalize (J.length : Int) = N at *
  generalize QB (run T 58) = QQ at *
  simp [forGo_cons, l3_, l5_, b0, b1, b2, b3, b4]
theorem f1_ {J : List J3} (g : Js J) (jl : J.length ≤ 4) {a2 a3 a4 a5 : Slot} : ∃ σ', F1 (run T 58) [some (LJ J, false), some (.int (J.length : Int), false), a2, a3, a4, a5] = .nx σ' ∧ ∃ a2 a3 a4 a5 : Slot, σ' = [some (LJ J, false), some (.int (J.length : Int), false), a2, a3, a4, a5] := by
  show ∃ σ', sFor (gName 2) (iRng1 (xCon (.int 8))) (QW (run T 58)) _ = .nx σ' ∧ _
  have k8 : okRng 8 = true := rfl
  have u : (upto 0 8).map D.int = [.int 0, .int 1, .int 2, .int 3, .int 4, .int 5, .int 6, .int 7] := rfl
  have it : iRng1 (xCon (.int 8)) [some (LJ J, false), some (.int (J.length : Int), false), a2, a3, a4, a5] = .ok ([.int 0, .int 1, .int 2, .int 3, .int 4, .int 5, .int 6, .int 7], []) := by
    simp [k8, u]
  rw [sFor_eq, it, R.to_ok, frzO_nil, forGo_stp, qw_0 g jl, O.bd_nx, forGo_stp, qw_1 g jl, O.bd_nx, forGo_stp, qw_2 g jl, O.bd_nx, forGo_stp, qw_3 g jl, O.bd_nx, forGo_stp, qw_4 g jl, O.bd_nx, forGo_stp, qw_5 g jl, O.bd_nx, forGo_stp, qw_6 g jl, O.bd_nx, forGo_stp, qw_7 g jl, O.bd_nx]
  exact ⟨_, rfl, _, _, _, _, rfl⟩
end K08
end
section
set_option linter.all false
set_option autoImplicit false
set_option Elab.async false
set_option maxRecDepth 100000
set_option maxHeartbeats 4000000
namespace K08
open PySem Rt
theorem loop_ok {J : List J3} (g : Js J) {l : List Int} (nd : (l.take J.length).Nodup) (rg : ∀ k ∈ l.take J.length, 0 ≤ k ∧ k < J.length) : ∃ o2 o3 : Slot, forGo (gTup [(gName 2), (gName 3)]) GB (Rt.numbered 0 ((l.take J.length).map D.int)) [some (LJ J, false), some (LI l, false), none, none] = .nx [some (LJ J, false), some (LI l, false), o2, o3] := by
  have bl : bLen [LJ J] = some (.int ((J.length : Nat) : Int), false) := by simp
  generalize ho : l.take J.length = o at *
  have ol : o.length ≤ J.length := by rw [← ho, List.length_take]; omega
  obtain ⟨σ', e, r⟩ := for_ind (g := gTup [(gName 2), (gName 3)]) (b := GB) (f := NI o) (l := List.range o.length) (fun pre σ => ∃ o2 o3 : Slot, σ = [some (LJ J, false), some (LI l, false), o2, o3]) (by
    rintro pre k post σ ep ⟨o2, o3, rfl⟩
    have hk : k < o.length := List.mem_range.mp (by rw [ep]; simp)
    have gd : o.getD k 0 = o[k] := by rw [List.getD_eq_getElem?_getD, List.getElem?_eq_getElem hk]; rfl
    have rk := rg _ (List.getElem_mem hk)
    have no : decide (o[k] ∈ o.take k) = false := decide_eq_false fun h => by
      obtain ⟨i, hi, he⟩ := List.mem_iff_getElem.mp h
      rw [List.length_take] at hi
      rw [List.getElem_take] at he
      have := (List.getElem_inj nd).mp he
      omega
    have tk : l.take k = o.take k := by rw [← ho, List.take_take, Nat.min_eq_left (by omega)]
    have ci := cmp_inI o[k] (o.take k)
    rw [no] at ci
    have ct := cut_i l (k : Int) (by omega)
    rw [Int.toNat_natCast, tk] at ct
    unfold NI
    rw [gd]
    generalize o[k] = x at *
    refine ⟨[some (LJ J, false), some (LI l, false), some (.int k, false), some (.int x, false)], ?_, _, _, rfl⟩
    generalize (o.take k).map D.int = TM at *
    generalize ((J.length : Nat) : Int) = N at *
    obtain ⟨r1, r2⟩ := rk
    simp only [LJ, LI] at *
    generalize J.map TR = JM at *
    generalize l.map D.int = OM at *
    simp [stp, GB, -bLen_lst, bl, r1, r2, ct, ci]) (σ := [some (LJ J, false), some (LI l, false), none, none]) ⟨none, none, rfl⟩
  rw [← num_i] at e
  obtain ⟨o2, o3, rfl⟩ := r
  exact ⟨o2, o3, e⟩
theorem good_show {r : Rt.R (D × Bool)} (n : Nat) {J : List J3} {l : List Int} (h : ends (sSeq (sExpr (xCall (run T (n + 1) 5) [(xVar 0)])) (sSeq (sFor (gTup [(gName 2), (gName 3)]) (iEnum (xSlice (xVar 1) none (some (xBi bLen [(xVar 0)])))) GB) (sSeq (sIf (tOf (xCmp .ne (xBi bLen [(xVar 1)]) (xBi bLen [(xVar 0)]))) (sRaise 3 (xBi bLen [(xVar 1)])) sPass) (sRet (xCall (run T (n + 1) 9) [(xLC [3] (iSeq (xVar 1)) (gName 3) tYesD (xIdx (xVar 0) (xVar 3)))])))) [some (LJ J, false), some (LI l, false), none, none]) = r) : run T (n + 2) 11 [LJ J, LI l] = r :=
  (run_at (f := d_is_good.df) rfl _ rfl).trans h
theorem good_len (n : Nat) {J : List J3} (g : Js J) {l : List Int} (nd : (l.take J.length).Nodup) (rg : ∀ k ∈ l.take J.length, 0 ≤ k ∧ k < J.length) (ne : l.length ≠ J.length) : run T (n + 2) 11 [LJ J, LI l] = .ex 3 (.int (l.length : Int)) := by
  refine good_show n ?_
  obtain ⟨o2, o3, e⟩ := loop_ok g nd rg
  have c := checkJ n g
  have bl : bLen [LJ J] = some (.int ((J.length : Nat) : Int), false) := by simp
  have bl2 : bLen [LI l] = some (.int ((l.length : Nat) : Int), false) := by simp
  have ct := cut_i l ((J.length : Nat) : Int) (by omega)
  rw [Int.toNat_natCast] at ct
  have ne' : ¬ ((l.length : Nat) : Int) = ((J.length : Nat) : Int) := by omega
  generalize (l.take J.length).map D.int = TM at *
  generalize ((J.length : Nat) : Int) = N at *
  generalize ((l.length : Nat) : Int) = M at *
  simp only [LJ, LI] at *
  generalize J.map TR = JM at *
  generalize l.map D.int = OM at *
  simp [c, -bLen_lst, bl, bl2, ct, e, ne']
theorem good_raise (n : Nat) {J : List J3} (g : Js J) {l : List Int} {a : Int} (h : ∃ σ', forGo (gTup [(gName 2), (gName 3)]) GB (Rt.numbered 0 ((l.take J.length).map D.int)) [some (LJ J, false), some (LI l, false), none, none] = .ex 3 (.int a) σ') : run T (n + 2) 11 [LJ J, LI l] = .ex 3 (.int a) := by
  refine good_show n ?_
  obtain ⟨σ', e⟩ := h
  have c := checkJ n g
  have bl : bLen [LJ J] = some (.int ((J.length : Nat) : Int), false) := by simp
  have ct := cut_i l ((J.length : Nat) : Int) (by omega)
  rw [Int.toNat_natCast] at ct
  generalize (l.take J.length).map D.int = TM at *
  generalize ((J.length : Nat) : Int) = N at *
  simp only [LJ, LI] at *
  generalize J.map TR = JM at *
  generalize l.map D.int = OM at *
  simp [c, -bLen_lst, bl, ct, e]
theorem ord_0 (n : Nat) {J : List J3} (g : Js J) : run T (n + 3) 31 [.int 5, LJ J, LI []] = .ok (.tup [.str "order", .int 0], false) :=
  y5_3 _ (good_len n g (l := []) (by simp) (by simp) (by have := g.p; simp; omega))
theorem one_out {J : List J3} (g : Js J) {x : Int} (hx : ¬ (0 ≤ x ∧ x < J.length)) : ∃ σ', forGo (gTup [(gName 2), (gName 3)]) GB (Rt.numbered 0 (([x].take J.length).map D.int)) [some (LJ J, false), some (LI [x], false), none, none] = .ex 3 (.int 0) σ' := by
  have bl : bLen [LJ J] = some (.int ((J.length : Nat) : Int), false) := by simp
  have t : [x].take J.length = [x] := List.take_of_length_le (by have := g.p; simp; omega)
  rw [t]
  refine ⟨[some (LJ J, false), some (LI [x], false), some (.int 0, false), some (.int x, false)], ?_⟩
  show forGo _ GB [.tup [.int 0, .int x]] _ = _
  generalize ((J.length : Nat) : Int) = N at *
  simp only [LJ] at *
  generalize J.map TR = JM at *
  by_cases c : 0 ≤ x
  · have c2 : ¬ x < N := fun q => hx ⟨c, q⟩
    simp [forGo_cons, GB, -bLen_lst, bl, c, c2]
  · simp [forGo_cons, GB, -bLen_lst, bl, c]
theorem ord_1 (n : Nat) {J : List J3} (g : Js J) : run T (n + 3) 31 [.int 5, LJ J, LI [(J.length : Int)]] = .ok (.tup [.str "order", .int 0], false) :=
  y5_3 _ (good_raise n g (one_out g (by omega)))
theorem ord_2 (n : Nat) {J : List J3} (g : Js J) : run T (n + 3) 31 [.int 5, LJ J, LI [-1]] = .ok (.tup [.str "order", .int 0], false) :=
  y5_3 _ (good_raise n g (one_out g (by omega)))
theorem ord_3 (n : Nat) {J : List J3} (g : Js J) (h : 2 ≤ J.length) : run T (n + 3) 31 [.int 5, LJ J, LI [0, 0]] = .ok (.tup [.str "order", .int 1], false) := by
  refine y5_3 _ (good_raise n g ?_)
  have bl : bLen [LJ J] = some (.int ((J.length : Nat) : Int), false) := by simp
  have t : ([0, 0] : List Int).take J.length = [0, 0] := List.take_of_length_le (by simp; omega)
  rw [t]
  refine ⟨[some (LJ J, false), some (LI [0, 0], false), some (.int 1, false), some (.int 0, false)], ?_⟩
  show forGo _ GB [.tup [.int 0, .int 0], .tup [.int 1, .int 0]] _ = _
  have p : (0 : Int) < (J.length : Int) := by omega
  have c0 : cutL ([0, 0].map D.int) none (some 0) = ([] : List Int).map D.int := cut_i [0, 0] 0 (by decide)
  have c1 : cutL ([0, 0].map D.int) none (some 1) = ([0] : List Int).map D.int := cut_i [0, 0] 1 (by decide)
  have i0 := cmp_inI 0 []
  have i1 := cmp_inI 0 [0]
  rw [decide_eq_false (by simp)] at i0
  rw [decide_eq_true (by simp)] at i1
  generalize ((J.length : Nat) : Int) = N at *
  simp only [LJ, LI] at *
  generalize J.map TR = JM at *
  generalize ([0, 0] : List Int).map D.int = OM at *
  generalize ([] : List Int).map D.int = O0 at *
  generalize ([0] : List Int).map D.int = O1 at *
  simp [forGo_cons, GB, -bLen_lst, bl, p, c0, c1, i0, i1]
theorem ord_3b (n : Nat) {J : List J3} (g : Js J) (h : J.length = 1) : run T (n + 3) 31 [.int 5, LJ J, LI [0, 0]] = .ok (.tup [.str "order", .int 2], false) :=
  y5_3 _ (good_len n g (l := [0, 0]) (by rw [h]; simp) (by rw [h]; simp) (by rw [h]; simp))
theorem ord_4 (n : Nat) {J : List J3} (g : Js J) : run T (n + 3) 31 [.int 5, LJ J, LI (upto 0 J.length ++ [0])] = .ok (.tup [.str "order", .int ((J.length : Int) + 1)], false) := by
  have t : (upto 0 J.length ++ [0]).take J.length = upto 0 J.length := by
    rw [List.take_append_of_le_length (by rw [up_len]; exact Nat.le_refl _), List.take_of_length_le (by rw [up_len]; exact Nat.le_refl _)]
  have := good_len n g (l := upto 0 J.length ++ [0]) (by rw [t]; exact (up_sorted 0 J.length).imp fun {a b} h => by omega) (by
    rw [t]
    intro k hk
    have := up_mem.mp hk
    omega) (by rw [List.length_append, up_len]; simp)
  rw [List.length_append, up_len, List.length_singleton, Int.natCast_add] at this
  exact y5_3 _ this
theorem span_bad (n : Nat) {J : List J3} (g : Js J) {b : Int} (hb : ¬ (0 ≤ b ∧ b ≤ 400)) : run T (n + 2) 14 [LJ J, .int b] = .ex 0 (.int b) := by
  refine (run_at (f := d_check_span.df) rfl _ rfl).trans ?_
  show ends (b_check_span (run T (n + 1)) (begin_ 2 [LJ J, .int b])) = _
  have c := checkJ n g
  simp only [LJ] at *
  generalize J.map TR = JM at *
  by_cases c1 : 0 ≤ b
  · have c2 : ¬ b ≤ 400 := fun q => hb ⟨c1, q⟩
    simp [b_check_span, begin_, c, c1, c2]
  · simp [b_check_span, begin_, c, c1]
def VB (call : Nat → Rt.Fn) : Sm := (sIf (tAnd (tOf (xCmp .ne (xCall (call 31) [(xCon (.int 5)), (xVar 0), (xVar 4)]) (xTup [(false, (xCon (.str "order"))), (false, (xVar 5))]))) (tOr (tOf (xCmp .gt (xVar 1) (xCon (.int 1)))) (tOf (xCmp .ne (xVar 4) (xLst [(false, (xCon (.int 0))), (false, (xCon (.int 0)))]))))) (sRet (xCon (.bl false))) sPass)
theorem vb_0 {J : List J3} (g : Js J) {a2 a3 : Slot} : VB (run T 58) [some (LJ J, false), some (.int (J.length : Int), false), a2, a3, some (LI ([]), false), some (.int 0, false)] = .nx [some (LJ J, false), some (.int (J.length : Int), false), a2, a3, some (LI ([]), false), some (.int 0, false)] := by
  have f : run T 58 31 [.int 5, LJ J, LI ([])] = _ := ord_0 55 g
  have ne := ne_tw "order" (0)
  simp only [LJ, LI] at *
  generalize ([]).map D.int = OM at *
  generalize J.map TR = JM at *
  generalize (J.length : Int) = N at *
  simp [VB, f, le2_, ne]
theorem vb_1 {J : List J3} (g : Js J) {a2 a3 : Slot} : VB (run T 58) [some (LJ J, false), some (.int (J.length : Int), false), a2, a3, some (LI ([(J.length : Int)]), false), some (.int 0, false)] = .nx [some (LJ J, false), some (.int (J.length : Int), false), a2, a3, some (LI ([(J.length : Int)]), false), some (.int 0, false)] := by
  have f : run T 58 31 [.int 5, LJ J, LI ([(J.length : Int)])] = _ := ord_1 55 g
  have ne := ne_tw "order" (0)
  simp only [LJ, LI] at *
  generalize ([(J.length : Int)]).map D.int = OM at *
  generalize J.map TR = JM at *
  generalize (J.length : Int) = N at *
  simp [VB, f, le2_, ne]
theorem vb_2 {J : List J3} (g : Js J) {a2 a3 : Slot} : VB (run T 58) [some (LJ J, false), some (.int (J.length : Int), false), a2, a3, some (LI ([-1]), false), some (.int 0, false)] = .nx [some (LJ J, false), some (.int (J.length : Int), false), a2, a3, some (LI ([-1]), false), some (.int 0, false)] := by
  have f : run T 58 31 [.int 5, LJ J, LI ([-1])] = _ := ord_2 55 g
  have ne := ne_tw "order" (0)
  simp only [LJ, LI] at *
  generalize ([-1]).map D.int = OM at *
  generalize J.map TR = JM at *
  generalize (J.length : Int) = N at *
  simp [VB, f, le2_, ne]
theorem vb_4 {J : List J3} (g : Js J) {a2 a3 : Slot} : VB (run T 58) [some (LJ J, false), some (.int (J.length : Int), false), a2, a3, some (LI (upto 0 J.length ++ [0]), false), some (.int ((J.length : Int) + 1), false)] = .nx [some (LJ J, false), some (.int (J.length : Int), false), a2, a3, some (LI (upto 0 J.length ++ [0]), false), some (.int ((J.length : Int) + 1), false)] := by
  have f : run T 58 31 [.int 5, LJ J, LI (upto 0 J.length ++ [0])] = _ := ord_4 55 g
  have ne := ne_tw "order" (((J.length : Int) + 1))
  simp only [LJ, LI] at *
  generalize (upto 0 J.length ++ [0]).map D.int = OM at *
  generalize J.map TR = JM at *
  generalize (J.length : Int) = N at *
  simp [VB, f, le2_, ne]
theorem vb_3 {J : List J3} (g : Js J) {a2 a3 : Slot} : VB (run T 58) [some (LJ J, false), some (.int (J.length : Int), false), a2, a3, some (LI ([0, 0]), false), some (.int 1, false)] = .nx [some (LJ J, false), some (.int (J.length : Int), false), a2, a3, some (LI ([0, 0]), false), some (.int 1, false)] := by
  by_cases h : 2 ≤ J.length
  · have f : run T 58 31 [.int 5, LJ J, LI [0, 0]] = _ := ord_3 55 g h
    have ne := ne_tw "order" 1
    simp only [LJ, LI] at *
    generalize ([0, 0] : List Int).map D.int = OM at *
    generalize J.map TR = JM at *
    generalize (J.length : Int) = N at *
    simp [VB, f, le2_, ne]
  · have h1 : J.length = 1 := by have := g.p; omega
    have f : run T 58 31 [.int 5, LJ J, LI [0, 0]] = _ := ord_3b 55 g h1
    have ne : cmpD .ne (.tup [.str "order", .int 2]) (.tup [.str "order", .int 1]) = some true := by kernel_rfl
    have nl : cmpD .ne (LI [0, 0]) (.lst [.int 0, .int 0]) = some false := by
      have := cmp_neL [0, 0] [0, 0]
      rw [decide_eq_true rfl] at this
      exact this
    rw [h1]
    simp only [LJ, LI] at *
    generalize ([0, 0] : List Int).map D.int = OM at *
    generalize J.map TR = JM at *
    simp [VB, f, le2_, ne, nl]
theorem lrg (n : Nat) (h : n ≤ 100) {σ : Rt.Env} {x : Ex} (e : x σ = .ok ⟨.int (n : Int), .fz, []⟩) : xLRg1 x σ = .ok ⟨LI (upto 0 n), .nw, []⟩ := by
  have kr : okRl (n : Int) = true := okRl_of (by omega) (by omega)
  simp [e, kr]
theorem f2_ {J : List J3} (g : Js J) {a2 a3 a4 a5 : Slot} : ∃ σ', F2 (run T 58) [some (LJ J, false), some (.int (J.length : Int), false), a2, a3, a4, a5] = .nx σ' ∧ ∃ a4 a5 : Slot, σ' = [some (LJ J, false), some (.int (J.length : Int), false), a2, a3, a4, a5] := by
  refine ⟨[some (LJ J, false), some (.int (J.length : Int), false), a2, a3, some (LI (upto 0 J.length ++ [0]), false), some (.int ((J.length : Int) + 1), false)], ?_, _, _, rfl⟩
  show sFor (gTup [(gName 4), (gName 5)]) _ (VB (run T 58)) _ = _
  have b0 := vb_0 g (a2 := a2) (a3 := a3)
  have b1 := vb_1 g (a2 := a2) (a3 := a3)
  have b2 := vb_2 g (a2 := a2) (a3 := a3)
  have b3 := vb_3 g (a2 := a2) (a3 := a3)
  have b4 := vb_4 g (a2 := a2) (a3 := a3)
  have gn := g.n
  have rg := lrg J.length (by omega) (σ := [some (LJ J, false), some (.int (J.length : Int), false), a2, a3, a4, a5]) (x := xVar 1) (by simp)
  have ad : dAdd (LI (upto 0 J.length)) (.lst [.int 0]) = some (LI (upto 0 J.length ++ [0]), true) := by
    have := dAdd_lst (xs := (upto 0 J.length).map D.int) (ys := [.int 0]) (by rw [List.length_map, up_len, line_val]; simp; omega)
    rw [this]
    unfold LI
    rw [List.map_append]; rfl
  have ad2 : dAdd (.lst [.int 0]) (.lst [.int 0]) = some (.lst [.int 0, .int 0], true) := dAdd_lst le2_
  have mk : ∀ p, mkN (LI (upto 0 J.length ++ [0])) p = ⟨LI (upto 0 J.length ++ [0]), .nw, []⟩ := mkN_ints _
  simp only [LI, List.map_nil, List.map_cons] at b0 b1 b2 b3
  simp only [LJ] at *
  generalize LI (upto 0 J.length ++ [0]) = L4 at *
  generalize LI (upto 0 J.length) = L5 at *
  generalize J.map TR = JM at *
  generalize (J.length : Int) = N at *
  generalize VB (run T 58) = B at *
  simp [-xLRg1_eq, rg, ad, ad2, mk, l0_, l1_, le2_, l5_, forGo_cons, b0, b1, b2, b3, b4]
theorem f0_ {J : List J3} {a1 a2 a3 a4 a5 : Slot} : F0 (run T 58) [some (LJ J, false), a1, a2, a3, a4, a5] = .nx [some (LJ J, false), some (.int (J.length : Int), false), a2, a3, a4, a5] := by
  simp [F0]
theorem f3_ {J : List J3} (g : Js J) {a1 a2 a3 a4 a5 : Slot} : ∃ σ', F3 (run T 58) [some (LJ J, false), a1, a2, a3, a4, a5] = .nx σ' := by
  refine ⟨[some (LJ J, false), a1, some (.int 7, false), a3, some (.int 401, false), a5], ?_⟩
  have r1 : run T 58 31 [.int 6, LJ J, .int (-1)] = _ := y6_0 57 (w16 55 (span_bad 54 g (by decide)))
  have r2 : run T 58 31 [.int 6, LJ J, .int 401] = _ := y6_0 57 (w16 55 (span_bad 54 g (by decide)))
  have r3 : run T 58 31 [.int 7, LJ J, .int (-1)] = _ := y7_0 57 (w17 55 (span_bad 54 g (by decide)))
  have r4 : run T 58 31 [.int 7, LJ J, .int 401] = _ := y7_0 57 (w17 55 (span_bad 54 g (by decide)))
  have n1 := ne_tw "range" (-1)
  have n2 := ne_tw "range" 401
  simp only [LJ] at *
  generalize J.map TR = JM at *
  simp [F3, forGo_cons, le2_, r1, r2, r3, r4, n1, n2]
theorem faultsP {J : List J3} (g : Js J) (jl : J.length ≤ 4) : run T 59 33 [LJ J] = .ok (.bl true, false) := by
  refine (run_at (f := d__law_faults.df) rfl _ rfl).trans ?_
  show ends (b__law_faults (run T 58) (begin_ 6 [LJ J])) = _
  rw [faults_parts, show begin_ 6 [LJ J] = [some (LJ J, false), none, none, none, none, none] from rfl]
  refine seq_e f0_ ?_
  refine seq_ex (f1_ g jl) ?_
  rintro _ ⟨a2, a3, a4, a5, rfl⟩
  refine seq_ex (f2_ g) ?_
  rintro _ ⟨a4, a5, rfl⟩
  obtain ⟨σ', e⟩ := f3_ g (a1 := some (.int (J.length : Int), false)) (a2 := a2) (a3 := a3) (a4 := a4) (a5 := a5)
  refine seq_e e ?_
  simp [F4]
/-! a job that is not sure -/
theorem sure_bad (n : Nat) {J : List J3} (g : Js J) {k : Int} {r : List Int} (h : oddL J = k :: r) : run T (n + 3) 13 [LJ J] = .ex 2 (.int k) := by
  refine (run_at (f := d_is_sure.df) rfl _ rfl).trans ?_
  show ends (sSeq (sExpr (xCall (run T (n + 2) 5) [(xVar 0)])) (sSeq (sSet 1 (xTup [(false, (xCon (.int 1))), (false, (xCon (.int 1)))])) (sSeq (sFor (gTup [(gName 2), (gTup [(gName 3), (gName 4), (gName 5)])]) (iEnum (xVar 0)) (SB (run T (n + 2)))) (sRet (xNot (xCall (run T (n + 2) 3) [(xTup [(false, (xCon (.int 2))), (false, (xCon (.int 1)))]), (xVar 1)]))))) [some (LJ J, false), none, none, none, none, none]) = _
  have c := checkJ (n + 1) g
  unfold oddL at h
  obtain ⟨l1, l2, e1, e2, e3, _⟩ := List.filter_eq_cons_iff.mp h
  have gn := g.n
  have mem : ∀ i ∈ l1 ++ k :: l2, 0 ≤ i ∧ i < J.length := fun i hi => by
    have := up_mem.mp (show i ∈ upto 0 J.length by rw [e1]; exact hi)
    omega
  have pl := congrArg List.length e1
  rw [up_len, List.length_append, List.length_cons] at pl
  obtain ⟨σ', e, q⟩ := for_ind (g := gTup [(gName 2), (gTup [(gName 3), (gName 4), (gName 5)])]) (b := SB (run T (n + 2))) (f := NR J) (l := l1) (fun pre σ => ∃ o2 o3 o4 o5 : Slot, σ = [some (LJ J, false), some (dF (prodQ (pre.map (gt J))), false), o2, o3, o4, o5]) (by
    rintro pre i post σ ep ⟨o2, o3, o4, o5, rfl⟩
    have il : i ∈ l1 := by rw [ep]; simp
    have hi := mem i (List.mem_append_left _ il)
    have pe := e2 i il
    have pp : (gt J i).2.2 = (gt J i).2.1 := by simp at pe; exact pe.symm
    have sz := prod_sz (J := pre.map (gt J)) (fun x hx => by
      obtain ⟨y, hy, rfl⟩ := List.mem_map.mp hx
      have := mem y (List.mem_append_left _ (by rw [ep]; exact List.mem_append_left _ hy))
      exact g.at this.1 this.2) one_sz
    have pl2 := congrArg List.length ep
    rw [List.length_append, List.length_cons] at pl2
    refine ⟨_, sure_step n (g.at hi.1 hi.2) pp (sz.mono (by rw [List.length_map]; omega)) i, ?_⟩
    rw [List.map_append, show [i].map (gt J) = [gt J i] from rfl, prodQ_app]
    exact ⟨_, _, _, _, rfl⟩) (σ := [some (LJ J, false), some (dF 1, false), none, none, none, none]) ⟨none, none, none, none, rfl⟩
  obtain ⟨o2, o3, o4, o5, rfl⟩ := q
  have last : stp (gTup [(gName 2), (gTup [(gName 3), (gName 4), (gName 5)])]) (SB (run T (n + 2))) (NR J k) [some (LJ J, false), some (dF (prodQ (l1.map (gt J))), false), o2, o3, o4, o5] = .ex 2 (.int k) [some (LJ J, false), some (dF (prodQ (l1.map (gt J))), false), some (.int k, false), some (.int (gt J k).1, false), some (.int (gt J k).2.1, false), some (.int (gt J k).2.2, false)] := by
    rw [stp_of (σ' := [some (LJ J, false), some (dF (prodQ (l1.map (gt J))), false), some (.int k, false), some (.int (gt J k).1, false), some (.int (gt J k).2.1, false), some (.int (gt J k).2.2, false)]) (by simp [NR, TR])]
    have ne : ¬ (gt J k).2.2 = (gt J k).2.1 := by simp at e3; exact fun q => e3 q.symm
    generalize dF (prodQ (l1.map (gt J))) = A at *
    simp [SB, ne]
  have go : forGo (gTup [(gName 2), (gTup [(gName 3), (gName 4), (gName 5)])]) (SB (run T (n + 2))) (Rt.numbered 0 (J.map TR)) [some (LJ J, false), some (.tup [.int 1, .int 1], false), none, none, none, none] = .ex 2 (.int k) [some (LJ J, false), some (dF (prodQ (l1.map (gt J))), false), some (.int k, false), some (.int (gt J k).1, false), some (.int (gt J k).2.1, false), some (.int (gt J k).2.2, false)] := by
    rw [← dF1, num_j, e1, List.map_append, List.map_cons, go_app, e, O.bd_nx, forGo_stp, last]; rfl
  generalize dF (prodQ (l1.map (gt J))) = A at *
  simp only [LJ] at *
  generalize J.map TR = JM at *
  generalize SB (run T (n + 2)) = B at *
  simp [c, le2_, go]
theorem sureF {J : List J3} (g : Js J) {k : Int} {r : List Int} (h : oddL J = k :: r) : run T 59 32 [LJ J] = .ok (.tup [.str "job", .int k], false) := by
  have f : run T 58 31 [.int 4, LJ J, .int 0] = _ := y4_2 57 (sure_bad 54 g h)
  refine (run_at (f := d__law_sure_fault.df) rfl _ rfl).trans ?_
  show ends (b__law_sure_fault (run T 58) (begin_ 1 [LJ J])) = _
  simp only [LJ] at *
  generalize J.map TR = JM at *
  simp [b__law_sure_fault, begin_, f]
theorem t16_ {a0 a1 a2 a5 a6 a7 a8 a9 a10 a11 a13 a14 a15 a16 a17 : Slot} {J : List J3} (g : Js J) : T16 (run T 59) [a0, a1, a2, some (LJ J, false), some (.rep (LJ J), false), a5, a6, a7, a8, a9, a10, a11, some (LI (oddL J), true), a13, a14, a15, a16, a17] = .nx [a0, a1, a2, some (LJ J, false), some (.rep (LJ J), false), a5, a6, a7, a8, a9, a10, a11, some (LI (oddL J), true), a13, a14, a15, a16, a17] := by
  have b := bRepr_of (okJ g)
  have c := cmp_neR _ (okJ g)
  have cn := cmp_neL (oddL J) []
  cases q : oddL J with
  | nil =>
    rw [q] at cn
    simp at cn
    simp only [LJ, LI, List.map_nil] at *
    generalize J.map TR = JM at *
    simp [T16, l0_, cn, b, c]
  | cons k r =>
    have f := sureF g q
    rw [q, decide_eq_false (by simp)] at cn
    have i0 : dIdx (D.lst ((k :: r).map D.int)) (D.int 0) = some (D.int k) := idx_ints (xs := k :: r) (i := 0) (by omega) (by simp)
    have ne := ne_tw "job" k
    simp only [LJ, LI] at *
    rw [show ([] : List Int).map D.int = [] from rfl] at cn
    generalize (k :: r).map D.int = OM at *
    generalize J.map TR = JM at *
    simp [T16, l0_, cn, b, c, f, i0, le2_, ne, mk_d]
end K08
end
section
set_option linter.all false
set_option autoImplicit false
set_option Elab.async false
set_option maxRecDepth 100000
set_option maxHeartbeats 4000000
namespace K08
open PySem Rt
theorem turn {a0 a2 a3 a4 a5 a6 a7 a8 a9 a10 a11 a12 a13 a14 a15 a16 a17 : Slot} {ys : List Int} {t : Int} (h0 : 0 ≤ t) : ∃ σ', stp (gName 2) (RR_ (run T 59)) (.int t) [a0, some (.lst ((ys).map .int), true), a2, a3, a4, a5, a6, a7, a8, a9, a10, a11, a12, a13, a14, a15, a16, a17] = .nx σ' ∧ ∃ J, (Js J ∧ J.length ≤ 4) ∧ ∃ a2 a4 a5 a6 a7 a8 a9 a10 a11 a12 a13 a14 a15 a16 a17 : Slot, σ' = [a0, some (.lst ((ys).map .int), true), a2, some (LJ J, false), a4, a5, a6, a7, a8, a9, a10, a11, a12, a13, a14, a15, a16, a17] := by
  rw [stp_of (σ' := [a0, some (.lst ((ys).map .int), true), some (.int (t), false), a3, a4, a5, a6, a7, a8, a9, a10, a11, a12, a13, a14, a15, a16, a17]) (by simp)]
  refine seq_nx (t0_ h0) ?_
  rintro _ ⟨J, ⟨g, jl⟩, rfl⟩
  refine seq_nx1 (t1_ g) ?_
  refine seq_nx1 (t2_ g) ?_
  refine seq_nx1 (t3_ g) ?_
  refine seq_nx1 (t4_ g) ?_
  refine seq_nx1 (t5_ g) ?_
  refine seq_nx1 t6_ ?_
  refine seq_nx (t7_ g jl) ?_
  rintro _ ⟨b8, b13, rfl⟩
  refine seq_nx1 (t8_ g) ?_
  refine seq_nx1 t9_ ?_
  refine seq_nx1 t10_ ?_
  refine seq_nx (t11_ g) ?_
  rintro _ ⟨b14, b15, b16, rfl⟩
  refine seq_nx1 (t12_ g) ?_
  refine seq_nx1 (t13_ g) ?_
  refine seq_nx1 (t14_ g) ?_
  refine seq_nx1 (t15_ g) ?_
  exact ⟨_, t16_ g, J, ⟨g, jl⟩, _, _, _, _, _, _, _, _, _, _, _, _, _, _, _, rfl⟩
theorem plain (ns : List Int) (h : ns.length ≤ 63) : run T 60 34 [.scr ns] = .ok (.bl true, false) := by
  obtain ⟨ys, hy, d⟩ := draws 58 ns h
  have d' : run T 59 18 [.scr ns] = .ok (.lst (ys.map .int), true) := d
  refine (run_at (f := d_law.df) rfl _ rfl).trans ?_
  show ends (b_law (run T 59) (begin_ 18 [.scr ns])) = _
  rw [law_parts, show begin_ 18 [D.scr ns] = [some (.scr ns, false), none, none, none, none, none, none, none, none, none, none, none, none, none, none, none, none, none] from rfl]
  refine seq_e (σ' := [some (.scr ns, false), some (.lst ((ys).map .int), true), none, none, none, none, none, none, none, none, none, none, none, none, none, none, none, none]) (by simp [S0, d', mkN_ints]) ?_
  have k2 : okRng 2 = true := rfl
  have u : (upto 0 2).map D.int = [.int 0, .int 1] := rfl
  have it : iRng1 (xCon (.int 2)) [some (.scr ns, false), some (.lst ((ys).map .int), true), none, none, none, none, none, none, none, none, none, none, none, none, none, none, none, none] = .ok ([.int 0, .int 1], []) := by
    simp [k2, u]
  obtain ⟨σ1, e1, J1, _, b2, b4, b5, b6, b7, b8, b9, b10, b11, b12, b13, b14, b15, b16, b17, rfl⟩ := turn (a0 := some (.scr ns, false)) (a2 := none) (a3 := none) (a4 := none) (a5 := none) (a6 := none) (a7 := none) (a8 := none) (a9 := none) (a10 := none) (a11 := none) (a12 := none) (a13 := none) (a14 := none) (a15 := none) (a16 := none) (a17 := none) (ys := ys) (t := 0) (by decide)
  obtain ⟨σ2, e2, J2, ⟨g, jl⟩, c2, c4, c5, c6, c7, c8, c9, c10, c11, c12, c13, c14, c15, c16, c17, rfl⟩ := turn (a0 := some (.scr ns, false)) (a2 := b2) (a3 := some (LJ J1, false)) (a4 := b4) (a5 := b5) (a6 := b6) (a7 := b7) (a8 := b8) (a9 := b9) (a10 := b10) (a11 := b11) (a12 := b12) (a13 := b13) (a14 := b14) (a15 := b15) (a16 := b16) (a17 := b17) (ys := ys) (t := 1) (by decide)
  refine seq_e (σ' := [some (.scr ns, false), some (.lst ((ys).map .int), true), c2, some (LJ J2, false), c4, c5, c6, c7, c8, c9, c10, c11, c12, c13, c14, c15, c16, c17]) ?_ ?_
  · show sFor (gName 2) (iRng1 (xCon (.int 2))) (RR_ (run T 59)) _ = _
    rw [sFor_eq, it, R.to_ok, frzO_nil, forGo_stp, e1, O.bd_nx, forGo_stp, e2, O.bd_nx]
    rfl
  · have f := faultsP g jl
    simp only [LJ] at *
    generalize J2.map TR = JM at *
    generalize ys.map D.int = YM at *
    simp [S2, f]
end K08
end
theorem PySem.Challenge.cw_runattimes_k08_whole_answers_of_ranked_j_holds : PySem.Challenge.rw_runattimes_k08_whole_answers_of_ranked_j.Holds := by
  exact K08.holds K08.plain

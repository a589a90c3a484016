import PyProof.Rows.All
import KE.Datum
import KE.SortData
import HandS.ForMost
import HandS.ForExc
import HandS.TryMany
import HandS.Deep
import HandS.Wide
import HandS.Conv
import HandS.Gcd
import HandS.SortKw
import HandS.Style
import HandS.TupAny
import HandS.TupLe
import HandS.DictTup
import KE.KExcSuper
import HandS.TupMul
import HandS.Flow
import HandS.Star
import HandS.Zip
import PyProof.ReprRoads
import PyProof.FitsInt
import HandS.Iter
import KE.GoesEnum
import HandS.SetFor
import HandS.SortInts
import PyProof.Rows.ChunkLeaf
import KE.DataCmp
import HandS.DictComp
import HandS.ExcField
import HandS.ExcSuper
import HandS.HeadEnd
import HandS.Head0
import HandS.Head1
import HandS.Head2
import HandS.HeadHook1
import HandS.HeadHook2
import HandS.Defaults
import HandS.Words
import KE.KStateDown
import Wide.FinOn
import HandS.Head3
import PySem.Challenge.RW_runattimes_k13_whole_times_that_beats_fi
section
set_option linter.all false
set_option autoImplicit false
namespace Rt
open PySem

/-! ## Data as trees, results, environments -/
inductive D where
  | non | bl (b : Bool) | int (i : Int) | str (x : Str)
  | lst (xs : List D) | tup (xs : List D)
  | dct (ks vs : List D) | set (xs : List D)
  | rep (d : D) | fn (i : Nat)
  /-- the script -/
  | scr (is : List Int)
  deriving Inhabited

mutual
def D.py : D → PyData
  | .non => .none | .bl b => .bool b | .int i => .int i | .str x => .str x
  | .lst xs => .list (D.pyL xs) | .tup xs => .tuple (D.pyL xs)
  | .dct ks vs => .dict ((D.pyL ks).zip (D.pyL vs)) | .set _ => .dict [] | .rep _ => .dict [] | .fn _ => .dict [] | .scr _ => .dict []
def D.pyL : List D → List PyData
  | [] => []
  | x :: xs => D.py x :: D.pyL xs
end
mutual
/-- nothing in it that may change -/
def D.imm : D → Bool
  | .non | .bl _ | .int _ | .str _ | .rep _ | .fn _ | .scr _ => true
  | .tup xs => D.immL xs
  | .lst _ | .dct _ _ | .set _ => false
def D.immL : List D → Bool
  | [] => true
  | x :: xs => D.imm x && D.immL xs
end
def D.kids : D → Bool
  | .lst xs => D.immL xs
  | .dct _ vs => D.immL vs
  | _ => false

theorem nrfl {α : Sort _} {a : α} : a = a := Eq.trans (Eq.refl a) (Eq.refl a)
inductive R (α : Type) where
  | ok (a : α) | ex (c : Nat) (a : D) | bad
def R.bd {α β : Type} : R α → (α → R β) → R β
  | .ok a, f => f a
  | .ex c a, _ => .ex c a
  | .bad, _ => .bad
@[simp] theorem R.bd_ok {α β : Type} (a : α) (f : α → R β) : (R.ok a).bd f = f a := nrfl
@[simp] theorem R.bd_ex {α β : Type} (c : Nat) (a : D) (f : α → R β) : (R.ex c a : R α).bd f = .ex c a := nrfl
@[simp] theorem R.bd_bad {α β : Type} (f : α → R β) : (R.bad : R α).bd f = .bad := nrfl
theorem R.bd_assoc {α β γ : Type} (x : R α) (f : α → R β) (g : β → R γ) : (x.bd f).bd g = x.bd fun a => (f a).bd g := by cases x <;> rfl
def R.op {α : Type} : Option α → R α
  | some a => .ok a
  | none => .bad
@[simp] theorem R.op_some {α : Type} (a : α) : R.op (some a) = .ok a := nrfl
@[simp] theorem R.op_none {α : Type} : R.op (none : Option α) = .bad := nrfl

/-- where the top object of a value stands: with what is shared, new, or in a slot that owns it -/
inductive Tp where
  | fz | nw | sl (i : Nat)
structure Rv where
  d : D
  t : Tp
  p : List Nat
/-- the slots whose objects the value itself may hold -/
def Rv.kp (r : Rv) : List Nat := match r.t with | .sl i => [i] | _ => r.p
/-- the slots whose objects its items may hold -/
def Rv.kc (r : Rv) : List Nat := match r.t with | .sl _ => [] | _ => r.p
def Rv.isNw (r : Rv) : Bool := match r.t with | .nw => true | _ => false
def mkF (d : D) (p : List Nat) : Rv := ⟨d, .fz, match p with | [] => [] | _ :: _ => if d.imm then [] else p⟩
def mkN (d : D) (p : List Nat) : Rv := ⟨d, .nw, match p with | [] => [] | _ :: _ => if d.kids then [] else p⟩
def mk (fr : Bool) (d : D) (p : List Nat) : Rv := if fr then mkN d p else mkF d p

abbrev Slot := Option (D × Bool)
abbrev Env := List Slot
abbrev Ex := Env → R Rv
abbrev Tst := Env → R Bool
/-- what a loop walks: its items -/
abbrev Itr := Env → R (List D × List Nat)
abbrev Tg := D → Env → Option Env
abbrev Fn := List D → R (D × Bool)

/-! ## Operations on data -/
def line : Nat := 16777216
def D.isInt : D → Option Int
  | .int i => some i
  | _ => none
/-- from -(c + 1) to c; said so that a kernel stays still at what it does not know -/
def below (i : Int) (c : Nat) : Bool := match i with
  | .ofNat n => Nat.ble n c
  | .negSucc n => Nat.ble n c
theorem below_iff {i : Int} {c : Nat} : below i c = true ↔ -((c : Int) + 1) ≤ i ∧ i ≤ c := by
  cases i with
  | ofNat n =>
    show Nat.ble n c = true ↔ _
    rw [Nat.ble_eq]
    simp only [Int.ofNat_eq_natCast]
    omega
  | negSucc n =>
    show Nat.ble n c = true ↔ _
    rw [Nat.ble_eq]
    omega
def posI : Int → Bool
  | .ofNat (_ + 1) => true
  | _ => false
theorem posI_iff {i : Int} : posI i = true ↔ 0 < i := by
  cases i with
  | ofNat n =>
    cases n with
    | zero => simp [posI]
    | succ n => exact ⟨fun _ => by simp only [Int.ofNat_eq_natCast]; omega, fun _ => rfl⟩
  | negSucc n => exact ⟨fun h => Bool.noConfusion h, fun h => by omega⟩
def nnI : Int → Bool
  | .ofNat _ => true
  | _ => false
theorem nnI_iff {i : Int} : nnI i = true ↔ 0 ≤ i := by
  cases i with
  | ofNat n => exact ⟨fun _ => by simp only [Int.ofNat_eq_natCast]; omega, fun _ => rfl⟩
  | negSucc n => exact ⟨fun h => Bool.noConfusion h, fun h => by omega⟩
def wideOk (i j : Int) : Bool := below i 18446744073709551614 || below j 18446744073709551614 || decide (i.natAbs.log2 + j.natAbs.log2 < 1000000)
def dAdd : D → D → Option (D × Bool)
  | .int i, .int j => some (.int (i + j), false)
  | .str x, .str y => if x.length + y.length ≤ line then some (.str (x ++ y), false) else none
  | .lst xs, .lst ys => if xs.length + ys.length ≤ line then some (.lst (xs ++ ys), true) else none
  | .tup xs, .tup ys => if xs.length + ys.length ≤ line then some (.tup (xs ++ ys), false) else none
  | _, _ => none
def dSub : D → D → Option (D × Bool)
  | .int i, .int j => some (.int (i - j), false)
  | _, _ => none
def dMul : D → D → Option (D × Bool)
  | .int i, .int j => if wideOk i j then some (.int (i * j), false) else none
  | .lst xs, .int k => if below k 9223372036854775807 && decide (xs.length * k.toNat ≤ line) then some (.lst (List.replicate k.toNat xs).flatten, true) else none
  | .tup xs, .int k => if nnI k && below k 1000 && !xs.isEmpty && decide (xs.length ≤ 1000) then some (.tup (List.replicate k.toNat xs).flatten, false) else none
  | _, _ => none
def dDiv : D → D → Option (D × Bool)
  | .int i, .int j => if posI j && (below j 18446744073709551614 || decide (j.natAbs.log2 < 9000)) then some (.int (i / j), false) else none
  | _, _ => none
def dMod : D → D → Option (D × Bool)
  | .int i, .int j => if 0 < j then some (.int (i % j), false) else none
  | _, _ => none
def dPow : D → D → Option (D × Bool)
  | .int i, .int j => if nnI j && below j 1000000 && below i 18446744073709551614 then some (.int (i ^ j.toNat), false) else none
  | _, _ => none

mutual
def sameP : PyData → PyData → Bool
  | .none, .none => true
  | .bool a, .bool b => a == b
  | .int a, .int b => decide (a = b)
  | .str a, .str b => decide (a = b)
  | .list a, .list b => samePL a b
  | .tuple a, .tuple b => samePL a b
  | _, _ => false
def samePL : List PyData → List PyData → Bool
  | [], [] => true
  | x :: xs, y :: ys => sameP x y && samePL xs ys
  | _, _ => false
end
def sameD : PyData → PyData → Bool
  | .dict a, .dict b => samePL (a.map (·.1)) (b.map (·.1)) && samePL (a.map (·.2)) (b.map (·.2))
  | _, _ => false
def okEq (p q : PyData) : Bool := p.plain && q.plain && (decide (p.depth ≤ 60) || decide (q.depth ≤ 60))
/-- == -/
def dEq : D → D → Option Bool
  | .int i, .int j => some (decide (i = j))
  | .str x, .str y => some (decide (x = y))
  | .bl x, .bl y => some (x == y)
  | .rep x, .rep y => if sameP x.py y.py || sameD x.py y.py then some true else none
  | a, b => if okEq a.py b.py then some (PyData.eqv a.py b.py) else none
def dLt : D → D → Option Bool
  | .int i, .int j => some (decide (i < j))
  | _, _ => none
def dLe : D → D → Option Bool
  | .int i, .int j => some (decide (i ≤ j))
  | _, _ => none
def D.isNon : D → Bool
  | .non => true
  | _ => false
def dIs : D → D → Option Bool
  | a, .non => some a.isNon
  | .bl a, .bl b => some (a == b)
  | _, _ => none
def okIn (x : D) (ys : List D) : Bool := x.py.plain && PyData.plainAll (D.pyL ys) && (decide (PyData.depthAll (D.pyL ys) ≤ 59) || decide (x.py.depth ≤ 59))
def sameKey : D → D → Bool
  | .int i, .int j => decide (i = j)
  | .str x, .str y => decide (x = y)
  | _, _ => false
def isKey : D → Bool
  | .int _ => true
  | .str _ => true
  | _ => false
/-- x in a list, a tuple, a dict -/
def dIn (x : D) : D → Option Bool
  | .dct ks _ => if isKey x then some (ks.any fun k => sameKey k x) else none
  | .lst ys => if okIn x ys then some ((D.pyL ys).any fun z => PyData.eqv z x.py) else none
  | .tup ys => if okIn x ys then some ((D.pyL ys).any fun z => PyData.eqv z x.py) else none
  | _ => none
inductive Cop where
  | eq | ne | lt | le | gt | ge | is | isn | inn | nin
def cmpD : Cop → D → D → Option Bool
  | .eq, a, b => dEq a b
  | .ne, a, b => (dEq a b).map not
  | .lt, a, b => dLt a b
  | .le, a, b => dLe a b
  | .gt, a, b => dLt b a
  | .ge, a, b => dLe b a
  | .is, a, b => dIs a b
  | .isn, a, b => (dIs a b).map not
  | .inn, a, b => dIn a b
  | .nin, a, b => (dIn a b).map not
def truth : D → Option Bool
  | .non => some false
  | .bl b => some b
  | .int i => some (i != 0)
  | .str x => if x.length ≤ line then some (decide (x.length ≠ 0)) else none
  | .lst xs => some (!xs.isEmpty)
  | .tup xs => some (!xs.isEmpty)
  | _ => none
/-- a place, from the end if it is below nought -/
def place (n : Nat) (i : Int) : Option Nat :=
  if 0 ≤ i then (if i < n then some i.toNat else none) else if 0 ≤ i + n then some (i + n).toNat else none
/-- what a dict holds at a key -/
def dkGet : List D → List D → D → Option D
  | k :: ks, v :: vs, q => if sameKey k q then some v else dkGet ks vs q
  | _, _, _ => none
/-- .. behind a store -/
def dkSet : List D → List D → D → D → List D
  | k :: ks, v :: vs, q, x => (if sameKey k q then x else v) :: dkSet ks vs q x
  | _, _, _, _ => []
def dkPut (ks vs : List D) (q x : D) : List D × List D := if ks.any fun k => sameKey k q then (ks, dkSet ks vs q x) else (ks ++ [q], vs ++ [x])
def dIdx : D → D → Option D
  | .dct ks vs, q => if isKey q then dkGet ks vs q else none
  | .lst xs, .int i => (place xs.length i).bind fun k => xs[k]?
  | .tup xs, .int i => (place xs.length i).bind fun k => xs[k]?
  | .scr xs, .int i => (place xs.length i).bind fun k => xs[k]?.map .int
  | _, _ => none

/-! ## Expressions -/
def xCon (d : D) : Ex := fun _ => .ok ⟨d, .fz, []⟩
def xVar (i : Nat) : Ex := fun σ => match σ[i]? with
  | some (some (d, true)) => .ok ⟨d, .sl i, []⟩
  | some (some (d, false)) => .ok ⟨d, .fz, []⟩
  | _ => .bad
def xBin (f : D → D → Option (D × Bool)) (a b : Ex) : Ex := fun σ => (a σ).bd fun r => (b σ).bd fun s => match f r.d s.d with
  | some (d, fr) => .ok (mk fr d (r.kc ++ s.kc))
  | none => .bad
def xNeg (a : Ex) : Ex := fun σ => (a σ).bd fun r => match r.d with
  | .int i => .ok ⟨.int (-i), .fz, []⟩
  | _ => .bad
def xCmp (o : Cop) (a b : Ex) : Ex := fun σ => (a σ).bd fun r => (b σ).bd fun s => match cmpD o r.d s.d with
  | some k => .ok ⟨.bl k, .fz, []⟩
  | none => .bad
def linkK : List (Cop × Ex) → Bool → R Rv → R Rv
  | [], k, _ => .ok ⟨.bl k, .fz, []⟩
  | _ :: _, true, n => n
  | _ :: _, false, _ => .ok ⟨.bl false, .fz, []⟩
def chainGo : Rv → List (Cop × Ex) → Ex
  | _, [], _ => .bad
  | r, (o, b) :: rest, σ => (b σ).bd fun s => match cmpD o r.d s.d with
    | some k => linkK rest k (chainGo s rest σ)
    | none => .bad
def xChain (a : Ex) (l : List (Cop × Ex)) : Ex := fun σ => (a σ).bd fun r => chainGo r l σ
def tOf (a : Ex) : Tst := fun σ => (a σ).bd fun r => R.op (truth r.d)
def tNot (t : Tst) : Tst := fun σ => (t σ).bd fun k => .ok (!k)
def tAnd (t u : Tst) : Tst := fun σ => (t σ).bd fun k => match k with | true => u σ | false => .ok false
def tOr (t u : Tst) : Tst := fun σ => (t σ).bd fun k => match k with | true => .ok true | false => u σ
/-- and, or, not as values: of truth values -/
def xNot (a : Ex) : Ex := fun σ => (a σ).bd fun r => match truth r.d with
  | some k => .ok ⟨.bl (!k), .fz, []⟩
  | none => .bad
def xAnd (a b : Ex) : Ex := fun σ => (a σ).bd fun r => match truth r.d with
  | some true => b σ
  | some false => .ok r
  | none => .bad
def xOr (a b : Ex) : Ex := fun σ => (a σ).bd fun r => match truth r.d with
  | some true => .ok r
  | some false => b σ
  | none => .bad
def xIf (t : Tst) (a b : Ex) : Ex := fun σ => (t σ).bd fun k => match k with | true => a σ | false => b σ
def evs : List Ex → Env → R (List Rv)
  | [], _ => .ok []
  | e :: es, σ => (e σ).bd fun r => (evs es σ).bd fun rs => .ok (r :: rs)
def kpL (rs : List Rv) : List Nat := (rs.map Rv.kp).flatten
def kcL (rs : List Rv) : List Nat := (rs.map Rv.kc).flatten
def dL (rs : List Rv) : List D := rs.map Rv.d
def xCall (f : Fn) (es : List Ex) : Ex := fun σ => (evs es σ).bd fun rs => (f (dL rs)).bd fun p => .ok (mk p.2 p.1 (kpL rs))
def xCallV (n : Nat) (call : Nat → Fn) (g : Ex) (es : List Ex) : Ex := fun σ => (g σ).bd fun r => match r.d with
  | .fn i => if i < n then xCall (call i) es σ else .bad
  | _ => .bad
def xBi (f : List D → Option (D × Bool)) (es : List Ex) : Ex := fun σ => (evs es σ).bd fun rs => match f (dL rs) with
  | some (d, fr) => .ok (mk fr d (kcL rs))
  | none => .bad
def xIdx (a i : Ex) : Ex := fun σ => (a σ).bd fun r => (i σ).bd fun s => match dIdx r.d s.d with
  | some d => .ok (mkF d r.kc)
  | none => .bad
/-- items of a display, a star's spread out -/
def spread : List (Bool × Ex) → Env → R (List D × List Nat)
  | [], _ => .ok ([], [])
  | (false, e) :: es, σ => (e σ).bd fun r => (spread es σ).bd fun q => .ok (r.d :: q.1, r.kp ++ q.2)
  | (true, e) :: es, σ => (e σ).bd fun r => (match r.d with
    | .lst xs => (spread es σ).bd fun q => .ok (xs ++ q.1, r.kc ++ q.2)
    | .tup xs => (spread es σ).bd fun q => .ok (xs ++ q.1, r.kc ++ q.2)
    | _ => .bad)
def xLst (es : List (Bool × Ex)) : Ex := fun σ => (spread es σ).bd fun q => if q.1.length ≤ line then .ok (mkN (.lst q.1) q.2) else .bad
def xTup (es : List (Bool × Ex)) : Ex := fun σ => (spread es σ).bd fun q => if q.1.length ≤ line then .ok (mkF (.tup q.1) q.2) else .bad
/-- an end of a slice without a step -/
def sEnd (n d : Nat) (o : Option Int) : Nat := match o with
  | none => d
  | some i => if 0 ≤ i then min i.toNat n else (i + n).toNat
def cutL {α : Type} (xs : List α) (lo hi : Option Int) : List α :=
  (xs.drop (sEnd xs.length 0 lo)).take (sEnd xs.length xs.length hi - sEnd xs.length 0 lo)
def dSlice : D → Option Int → Option Int → Option (D × Bool)
  | .lst xs, lo, hi => some (.lst (cutL xs lo hi), true)
  | .tup xs, lo, hi => some (.tup (cutL xs lo hi), false)
  | _, _, _ => none
def evO : Option Ex → Env → R (Option Int)
  | none, _ => .ok none
  | some e, σ => (e σ).bd fun r => match r.d with
    | .int i => .ok (some i)
    | _ => .bad
def xSlice (a : Ex) (lo hi : Option Ex) : Ex := fun σ => (a σ).bd fun r => (evO lo σ).bd fun l => (evO hi σ).bd fun h => match dSlice r.d l h with
  | some (d, fr) => .ok (mk fr d r.kc)
  | none => .bad

/-! ## Built-ins -/
def bAbs : List D → Option (D × Bool)
  | [.int i] => some (.int (i.natAbs : Int), false)
  | _ => none
def bInt : List D → Option (D × Bool)
  | [.int i] => some (.int i, false)
  | [.bl b] => some (.int (if b then 1 else 0), false)
  | _ => none
def bLen : List D → Option (D × Bool)
  | [.lst xs] => some (.int xs.length, false)
  | [.tup xs] => some (.int xs.length, false)
  | [.scr xs] => some (.int xs.length, false)
  | [.str x] => if x.length ≤ line then some (.int x.length, false) else none
  | _ => none
def asInts : List D → Option (List Int)
  | [] => some []
  | .int i :: xs => (asInts xs).map (i :: ·)
  | _ => none
def leastI : List Int → Option Int
  | [] => none
  | i :: is => some (is.foldl min i)
def greatI : List Int → Option Int
  | [] => none
  | i :: is => some (is.foldl max i)
def bSum : List D → Option (D × Bool)
  | [.lst xs] => (asInts xs).map fun is => (.int is.sum, false)
  | _ => none
def bGcd : List D → Option (D × Bool)
  | [.int i, .int j] => some (.int (Nat.gcd i.natAbs j.natAbs : Nat), false)
  | _ => none
def asBools : List D → Option (List Bool)
  | [] => some []
  | .bl i :: xs => (asBools xs).map (i :: ·)
  | _ => none
def bAll : List D → Option (D × Bool)
  | [.lst xs] => (asBools xs).map fun bs => (.bl (bs.all id), false)
  | _ => none
def bAny : List D → Option (D × Bool)
  | [.lst xs] => (asBools xs).map fun bs => (.bl (bs.any id), false)
  | _ => none
mutual
/-- a bound of the signs that repr writes -/
def repW : PyData → Nat
  | .none => 4 | .bool _ => 5
  | .int i => i.natAbs.log2 + 3
  | .str x => (reprText x).length
  | .list xs => 3 + repWL xs | .tuple xs => 3 + repWL xs
  | .dict _ => 0
def repWL : List PyData → Nat
  | [] => 0
  | x :: xs => repW x + 2 + repWL xs
end
def okRep (p : PyData) : Bool := p.plain && p.showable && decide (p.depth ≤ 60) && decide (repW p ≤ line)
def repWK : List (PyData × PyData) → Nat
  | [] => 0
  | kv :: r => repW kv.1 + repW kv.2 + 4 + repWK r
/-- a dict of plain data -/
def okKv (kvs : List (PyData × PyData)) : Bool := kvs.all (fun kv => kv.1.plain && kv.2.plain) && PyData.showable (.dict kvs) && decide ((PyData.dict kvs).depth ≤ 60) && decide (repWK kvs + 4 ≤ line)
def okRepD : D → Bool
  | .dct ks vs => okKv ((D.pyL ks).zip (D.pyL vs))
  | _ => false
def bRepr : List D → Option (D × Bool)
  | [d] => if okRep d.py || okRepD d then some (.rep d, false) else none
  | _ => none

/-- list(x), tuple(x) -/
def bList : List D → Option (D × Bool)
  | [.lst xs] => some (.lst xs, true)
  | [.tup xs] => some (.lst xs, true)
  | _ => none
def bTuple : List D → Option (D × Bool)
  | [.lst xs] => some (.tup xs, false)
  | [.tup xs] => some (.tup xs, false)
  | _ => none
def insI (i : Int) : List Int → List Int
  | [] => [i]
  | j :: js => if i ≤ j then i :: j :: js else j :: insI i js
def isort : List Int → List Int
  | [] => []
  | i :: is => insI i (isort is)
/-- what may be sorted: plain data, alike, all tuples with an item or none of them None or a tuple -/
def tupC : PyData → Bool
  | .tuple (_ :: _) => true
  | _ => false
def noTN : PyData → Bool
  | .none => false
  | .tuple _ => false
  | _ => true
def okSort (xs : List D) : Bool := PyData.plainAll (D.pyL xs) && (decide (PyData.depthAll (D.pyL xs) ≤ 50) && (xs.all (fun x => xs.all fun y => PySem.W.alike x.py y.py) && (xs.all (fun x => tupC x.py) || xs.all fun x => noTN x.py)))
def leD (a b : D) : Bool := PySem.W.dataLe false D.py a b
/-- the place of the first item that none beats -/
def bestAt (lt : D → D → Bool) (xs : List D) : Option D := xs[argBest (fun i k => lt (xs.getD i .non) (xs.getD k .non)) (xs.length - 1)]?
def ltD (a b : D) : Bool := PySem.W.dataLt a.py b.py
def bMin : List D → Option (D × Bool)
  | [.int i, .int j] => some (.int (min i j), false)
  | [.lst xs] => (match asInts xs with
    | some is => (leastI is).map fun i => (.int i, false)
    | none => if okSort xs then (bestAt ltD xs).map fun d => (d, false) else none)
  | _ => none
def bMax : List D → Option (D × Bool)
  | [.int i, .int j] => some (.int (max i j), false)
  | [.lst xs] => (match asInts xs with
    | some is => (greatI is).map fun i => (.int i, false)
    | none => if okSort xs then (bestAt (fun a b => ltD b a) xs).map fun d => (d, false) else none)
  | _ => none
/-- sorted(x) -/
def bSorted : List D → Option (D × Bool)
  | [.lst xs] => match asInts xs with
    | some is => some (.lst ((isort is).map .int), true)
    | none => if okSort xs then some (.lst (xs.mergeSort leD), true) else none
  | _ => none
/-! ## Methods of lists that give something -/
def firstAt (k : Int) : List Int → Option Nat
  | [] => none
  | x :: xs => if x = k then some 0 else (firstAt k xs).map (· + 1)
def mIndex : List D → List D → Option (D × Bool)
  | xs, [.int k] => (asInts xs).bind fun is => (firstAt k is).map fun j => (.int (j : Nat), false)
  | _, _ => none
def mCount : List D → List D → Option (D × Bool)
  | xs, [.int k] => (asInts xs).map fun is => (.int (is.count k : Nat), false)
  | _, _ => none
def xMt (f : List D → List D → Option (D × Bool)) (a : Ex) (es : List Ex) : Ex := fun σ => (a σ).bd fun r => match r.d with
  | .lst xs => (evs es σ).bd fun rs => (match f xs (dL rs) with
    | some (d, fr) => .ok (mk fr d (r.kc ++ kcL rs))
    | none => .bad)
  | _ => .bad
/-- d.get(k), d.get(k, x) -/
def dGet (ks vs : List D) : List D → Option D
  | [k] => if isKey k then some ((dkGet ks vs k).getD .non) else none
  | [k, x] => if isKey k then some ((dkGet ks vs k).getD x) else none
  | _ => none
def xGet (a : Ex) (es : List Ex) : Ex := fun σ => (a σ).bd fun r => match r.d with
  | .dct ks vs => (evs es σ).bd fun rs => (match dGet ks vs (dL rs) with
    | some d => .ok (mkF d (r.kp ++ kpL rs))
    | none => .bad)
  | _ => .bad
/-- x[::-1] -/
def bRev : List D → Option (D × Bool)
  | [.lst xs] => some (.lst xs.reverse, true)
  | _ => none
/-- {} -/
def xDct0 : Ex := fun _ => .ok ⟨.dct [] [], .nw, []⟩
/-! ## What is walked -/
def noDep (items : List D) (p : List Nat) : R (List D × List Nat) := match p with
  | [] => .ok (items, [])
  | _ :: _ => if D.immL items then .ok (items, []) else .bad
/-- a list, a tuple -/
def iSeq (a : Ex) : Itr := fun σ => (a σ).bd fun r => match r.d with
  | .lst xs => (noDep xs r.kc).bd fun q => .ok (q.1, r.kp)
  | .tup xs => (noDep xs r.kc).bd fun q => .ok (q.1, r.kp)
  | _ => .bad
/-- a list just made, whose items may stand in slots: they are shared while it is walked -/
def iSeqF (a : Ex) : Itr := fun σ => (a σ).bd fun r => match r.d, r.t with
  | .lst xs, .nw => .ok (xs, r.p)
  | _, _ => .bad
def upto (lo : Int) (n : Nat) : List Int := (List.range n).map fun (k : Nat) => lo + (k : Int)
def okRng (i : Int) : Bool := below i 4611686018427387903
def iRng1 (a : Ex) : Itr := fun σ => (a σ).bd fun r => match r.d with
  | .int n => if okRng n then .ok ((upto 0 n.toNat).map .int, []) else .bad
  | _ => .bad
def iRng2 (a b : Ex) : Itr := fun σ => (a σ).bd fun r => (b σ).bd fun s => match r.d, s.d with
  | .int m, .int n => if okRng m && okRng n then .ok ((upto m (n - m).toNat).map .int, []) else .bad
  | _, _ => .bad
/-- range(i, j, c) -/
def stepI (i j c : Int) : Option (List Int) := if decide (c ≠ 0 ∧ c.natAbs < 1073741824) && Builtin.Range.small i j c then some ((List.range (Builtin.Range.rangeSize i j c).toNat).map fun (k : Nat) => i + (k : Int) * c) else none
def iRng3 (a b c : Ex) : Itr := fun σ => (a σ).bd fun r => (b σ).bd fun s => (c σ).bd fun t => match r.d, s.d, t.d with
  | .int i, .int j, .int k => (match stepI i j k with
    | some l => .ok (l.map .int, [])
    | none => .bad)
  | _, _, _ => .bad
/-- list(range(a)), list(range(a, b)) -/
def okRl (i : Int) : Bool := decide (0 ≤ i) && below i 16777216
def xLRg1 (a : Ex) : Ex := fun σ => (a σ).bd fun r => match r.d with
  | .int n => if okRl n then .ok ⟨.lst ((upto 0 n.toNat).map .int), .nw, []⟩ else .bad
  | _ => .bad
def xLRg2 (a b : Ex) : Ex := fun σ => (a σ).bd fun r => (b σ).bd fun s => match r.d, s.d with
  | .int m, .int n => if okRl m && okRl n then .ok ⟨.lst ((upto m (n - m).toNat).map .int), .nw, []⟩ else .bad
  | _, _ => .bad
def numbered : Nat → List D → List D
  | _, [] => []
  | k, x :: xs => .tup [.int k, x] :: numbered (k + 1) xs
def iEnum (a : Ex) : Itr := fun σ => (a σ).bd fun r => match r.d with
  | .lst xs => (noDep xs r.kc).bd fun q => .ok (numbered 0 q.1, r.kp)
  | .tup xs => (noDep xs r.kc).bd fun q => .ok (numbered 0 q.1, r.kp)
  | _ => .bad
def paired : List D → List D → List D
  | x :: xs, y :: ys => .tup [x, y] :: paired xs ys
  | _, _ => []
def iZip (a b : Ex) : Itr := fun σ => (a σ).bd fun r => (b σ).bd fun s => match r.d, s.d with
  | .lst xs, .lst ys => (noDep xs r.kc).bd fun q => (noDep ys s.kc).bd fun q' => .ok (paired q.1 q'.1, r.kp ++ s.kp)
  | .tup xs, .tup ys => (noDep xs r.kc).bd fun q => (noDep ys s.kc).bd fun q' => .ok (paired q.1 q'.1, r.kp ++ s.kp)
  | .tup xs, .lst ys => (noDep xs r.kc).bd fun q => (noDep ys s.kc).bd fun q' => .ok (paired q.1 q'.1, r.kp ++ s.kp)
  | _, _ => .bad

/-! ## Targets -/
def gName (i : Nat) : Tg := fun d σ => if i < σ.length then some (σ.set i (some (d, false))) else none
def gAll : List Tg → List D → Env → Option Env
  | [], [], σ => some σ
  | g :: gs, d :: ds, σ => (g d σ).bind fun σ' => gAll gs ds σ'
  | _, _, _ => none
def gTup (gs : List Tg) : Tg := fun d σ => match d with
  | .tup ds => gAll gs ds σ
  | .lst ds => gAll gs ds σ
  | _ => none

/-! ## A list comprehension of one for -/
def wipeE (own : List Nat) (σ : Env) : Env := own.foldr (fun i σ => σ.set i none) σ
/-- slots that own their objects, outside a block's own -/
def fineAt (own : List Nat) (σ : Env) (l : List Nat) : Bool := l.all fun i => !own.contains i && (match σ[i]? with
  | some (some (_, true)) => true
  | _ => false)
def lcGo (own : List Nat) (g : Tg) (t : Tst) (e : Ex) (σ : Env) : List D → R (List D × List Nat)
  | [] => .ok ([], [])
  | x :: xs => match g x σ with
    | none => .bad
    | some σ' => match t σ' with
      | .ok true => (match e σ' with
        | .ok r => if fineAt own σ' r.kp then (lcGo own g t e σ xs).bd fun q => .ok (r.d :: q.1, r.kp ++ q.2) else .bad
        | _ => .bad)
      | .ok false => lcGo own g t e σ xs
      | _ => .bad
def xLC (own : List Nat) (it : Itr) (g : Tg) (t : Tst) (e : Ex) : Ex := fun σ => (it σ).bd fun q =>
  match lcGo own g t e (wipeE own σ) q.1 with
  | .ok w => if w.1.length ≤ line then .ok (mkN (.lst w.1) w.2) else .bad
  | _ => .bad

/-! ## A dict comprehension of one for -/
def dcGo (g : Tg) (t : Tst) (k e : Ex) (σ : Env) : List D → List D → List D → R (List D × List D)
  | [], ks, vs => .ok (ks, vs)
  | x :: xs, ks, vs => match g x σ with
    | none => .bad
    | some σ' => match t σ' with
      | .ok true => (match k σ' with
        | .ok r => if isKey r.d && decide (ks.length < line) then (match e σ' with
          | .ok w => if w.kp.isEmpty then dcGo g t k e σ xs (dkPut ks vs r.d w.d).1 (dkPut ks vs r.d w.d).2 else .bad
          | _ => .bad) else .bad
        | _ => .bad)
      | .ok false => dcGo g t k e σ xs ks vs
      | _ => .bad
def xDC (own : List Nat) (it : Itr) (g : Tg) (t : Tst) (k e : Ex) : Ex := fun σ => (it σ).bd fun q =>
  match dcGo g t k e (wipeE own σ) q.1 [] [] with
  | .ok w => .ok (mkN (.dct w.1 w.2) [])
  | _ => .bad
/-! ## A list comprehension of two fors -/
def lc2Go (js : List Nat) (g : Tg) (t : Tst) (it1 : Itr) (g1 : Tg) (t1 : Tst) (e : Ex) (σ : Env) : List D → R (List D)
  | [] => .ok []
  | x :: xs => match g x σ with
    | none => .bad
    | some σ' => match t σ' with
      | .ok true => (match it1 σ' with
        | .ok q => if q.2.isEmpty then (match lcGo js g1 t1 e (wipeE js σ') q.1 with
          | .ok w => if w.2.isEmpty then (lc2Go js g t it1 g1 t1 e σ xs).bd fun r => .ok (w.1 ++ r) else .bad
          | _ => .bad) else .bad
        | _ => .bad)
      | .ok false => lc2Go js g t it1 g1 t1 e σ xs
      | _ => .bad
def xLC2 (own js : List Nat) (it : Itr) (g : Tg) (t : Tst) (it1 : Itr) (g1 : Tg) (t1 : Tst) (e : Ex) : Ex := fun σ => (it σ).bd fun q =>
  match lc2Go js g t it1 g1 t1 e (wipeE own σ) q.1 with
  | .ok w => if w.length ≤ line then .ok (mkN (.lst w) []) else .bad
  | _ => .bad

/-! ## Statements -/
inductive O where
  | nx (σ : Env) | rt (d : D) (fr : Bool) | ex (c : Nat) (a : D) (σ : Env) | bad
abbrev Sm := Env → O
def O.bd : O → Sm → O
  | .nx σ, f => f σ
  | o, _ => o
@[simp] theorem O.bd_nx (σ : Env) (f : Sm) : (O.nx σ).bd f = f σ := nrfl
@[simp] theorem O.bd_rt (d : D) (b : Bool) (f : Sm) : (O.rt d b).bd f = .rt d b := nrfl
@[simp] theorem O.bd_ex (c : Nat) (a : D) (σ : Env) (f : Sm) : (O.ex c a σ).bd f = .ex c a σ := nrfl
@[simp] theorem O.bd_bad (f : Sm) : O.bad.bd f = .bad := nrfl
def R.to {α : Type} (σ : Env) : R α → (α → O) → O
  | .ok a, f => f a
  | .ex c a, _ => .ex c a σ
  | .bad, _ => .bad
@[simp] theorem R.to_ok {α : Type} (σ : Env) (a : α) (f : α → O) : (R.ok a).to σ f = f a := nrfl
@[simp] theorem R.to_ex {α : Type} (σ : Env) (c : Nat) (a : D) (f : α → O) : (R.ex c a : R α).to σ f = .ex c a σ := nrfl
@[simp] theorem R.to_bad {α : Type} (σ : Env) (f : α → O) : (R.bad : R α).to σ f = .bad := nrfl

/-- the slots' objects are shared from now on -/
def frz1 (σ : Env) (i : Nat) : Env := match σ[i]? with
  | some (some (d, _)) => σ.set i (some (d, false))
  | _ => σ
def frz (l : List Nat) (σ : Env) : Env := l.foldl frz1 σ
@[simp] theorem frz_nil (σ : Env) : frz [] σ = σ := nrfl
/-- .. if they own them -/
def frzO (l : List Nat) (σ : Env) (k : Env → O) : O := if fineAt [] σ l then k (frz l σ) else .bad
@[simp] theorem frzO_nil (σ : Env) (k : Env → O) : frzO [] σ k = k σ := nrfl

def sPass : Sm := fun σ => .nx σ
def sSeq (a b : Sm) : Sm := fun σ => (a σ).bd b
def sAll : List Sm → Sm
  | [] => sPass
  | [a] => a
  | a :: b => sSeq a (sAll b)
def sExpr (e : Ex) : Sm := fun σ => (e σ).to σ fun _ => .nx σ
def sRet (e : Ex) : Sm := fun σ => (e σ).to σ fun r => if fineAt [] σ r.kp then .rt r.d (match r.t with | .fz => false | _ => true) else .bad
def sRetN : Sm := fun _ => .rt .non false
def sSet (i : Nat) (e : Ex) : Sm := fun σ => (e σ).to σ fun r => frzO r.kp σ fun σ' => if i < σ.length then .nx (σ'.set i (some (r.d, r.isNw))) else .bad
def sTg (g : Tg) (e : Ex) : Sm := fun σ => (e σ).to σ fun r => frzO r.kp σ fun σ' => match g r.d σ' with
  | some σ'' => .nx σ''
  | none => .bad
/-- a, b = c, d -/
def sPar (i j : Nat) (a b : Ex) : Sm := fun σ => (a σ).to σ fun r => (b σ).to σ fun s =>
  frzO (r.kp ++ s.kp) σ fun σ' => if i < σ.length ∧ j < σ.length then .nx ((σ'.set i (some (r.d, false))).set j (some (s.d, s.isNw))) else .bad
/-- a number, or a new list whose items stay -/
def plainR (r : Rv) : Bool := match r.d, r.t, r.p with
  | .int _, .fz, _ => true
  | .lst xs, .nw, [] => D.immL xs
  | _, _, _ => false
/-- a, b, c = d, e, f -/
def sPar3 (i j k : Nat) (a b c : Ex) : Sm := fun σ => (a σ).to σ fun r => (b σ).to σ fun s => (c σ).to σ fun t =>
  if (plainR r && (plainR s && plainR t)) && decide (i < σ.length ∧ j < σ.length ∧ k < σ.length) then .nx (((σ.set i (some (r.d, r.isNw))).set j (some (s.d, s.isNw))).set k (some (t.d, t.isNw))) else .bad
def sIf (t : Tst) (a b : Sm) : Sm := fun σ => (t σ).to σ fun k => match k with | true => a σ | false => b σ
def sApp (i : Nat) (e : Ex) : Sm := fun σ => match σ[i]? with
  | some (some (.lst _, true)) => (e σ).to σ fun r => frzO r.kp σ fun σ' => (match σ'[i]? with
    | some (some (.lst xs, true)) => if xs.length < line then .nx (σ'.set i (some (.lst (xs ++ [r.d]), true))) else .bad
    | _ => .bad)
  | _ => .bad
/-- xs.extend(ys) -/
def sExt (i : Nat) (e : Ex) : Sm := fun σ => match σ[i]? with
  | some (some (.lst _, true)) => (e σ).to σ fun r => (match r.d with
    | .lst ys => frzO r.kc σ fun σ' => (match σ'[i]? with
      | some (some (.lst xs, true)) => if xs.length + ys.length ≤ line then .nx (σ'.set i (some (.lst (xs ++ ys), true))) else .bad
      | _ => .bad)
    | _ => .bad)
  | _ => .bad
/-- xs.remove(k), k in it, a list of ints -/
def sRem (i : Nat) (e : Ex) : Sm := fun σ => match σ[i]? with
  | some (some (.lst _, true)) => (e σ).to σ fun r => (match r.d with
    | .int k => frzO r.kp σ fun σ' => (match σ'[i]? with
      | some (some (.lst xs, true)) => (match asInts xs with
        | some is => (match firstAt k is with
          | some j => .nx (σ'.set i (some (.lst ((is.eraseIdx j).map .int), true)))
          | none => .bad)
        | none => .bad)
      | _ => .bad)
    | _ => .bad)
  | _ => .bad
def sPut (i : Nat) (k e : Ex) : Sm := fun σ => match σ[i]? with
  | some (some (.lst _, true)) => (e σ).to σ fun r => (k σ).to σ fun s => frzO r.kp σ fun σ' => (match s.d, σ'[i]? with
    | .int j, some (some (.lst xs, true)) => (match place xs.length j with
      | some n => .nx (σ'.set i (some (.lst (xs.set n r.d), true)))
      | none => .bad)
    | _, _ => .bad)
  | some (some (.dct _ _, true)) => (e σ).to σ fun r => (k σ).to σ fun s => frzO r.kp σ fun σ' => (match σ'[i]? with
    | some (some (.dct ks vs, true)) => if isKey s.d && decide (ks.length < line) then .nx (σ'.set i (some (.dct (dkPut ks vs s.d r.d).1 (dkPut ks vs s.d r.d).2, true))) else .bad
    | _ => .bad)
  | _ => .bad
def forGo (g : Tg) (b : Sm) : List D → Sm
  | [], σ => .nx σ
  | x :: xs, σ => match g x σ with
    | none => .bad
    | some σ' => (b σ').bd (forGo g b xs)
def sFor (g : Tg) (it : Itr) (b : Sm) : Sm := fun σ => (it σ).to σ fun q => frzO q.2 σ fun σ' => forGo g b q.1 σ'
def whileGo (t : Tst) (b : Sm) : Nat → Sm
  | 0, _ => .bad
  | n + 1, σ => (t σ).to σ fun k => match k with
    | true => (b σ).bd (whileGo t b n)
    | false => .nx σ
def fuel : Nat := 1000000000000
def sWhile (t : Tst) (b : Sm) : Sm := whileGo t b fuel
def sRaise (c : Nat) (e : Ex) : Sm := fun σ => (e σ).to σ fun r => match r.d with
  | .int i => .ex c (.int i) σ
  | _ => .bad
/-- an except clause: the classes that it takes, what it returns of e.at -/
abbrev Hd := (Nat → Bool) × (D → D)
def pick : List Hd → Nat → D → Env → O
  | [], c, a, σ => .ex c a σ
  | h :: hs, c, a, σ => if h.1 c then .rt (h.2 a) false else pick hs c a σ
/-- n: how many classes there are -/
def sTry (n : Nat) (b : Sm) (hs : List Hd) : Sm := fun σ => match b σ with
  | .ex c a σ' => if c < n then pick hs c a σ' else .bad
  | o => o

/-! ## Defs -/
abbrev Body := (Nat → Fn) → Sm
def begin_ (n : Nat) (ds : List D) : Env := ds.map (fun d => some (d, false)) ++ List.replicate (n - ds.length) none
def ends : O → R (D × Bool)
  | .nx _ => .ok (.non, false)
  | .rt d b => .ok (d, b)
  | .ex c a _ => .ex c a
  | .bad => .bad
@[simp] theorem ends_rt (d : D) (b : Bool) : ends (.rt d b) = .ok (d, b) := nrfl
@[simp] theorem ends_nx (σ : Env) : ends (.nx σ) = .ok (.non, false) := nrfl
@[simp] theorem ends_ex (c : Nat) (a : D) (σ : Env) : ends (.ex c a σ) = .ex c a := nrfl
structure Df where
  arity : Nat
  slots : Nat
  body : Body
def run (T : Nat → Option Df) : Nat → Nat → Fn
  | 0, _, _ => .bad
  | n + 1, i, ds => match T i with
    | some f => if ds.length = f.arity then ends (f.body (run T n) (begin_ f.slots ds)) else .bad
    | none => .bad
end Rt
end
section
set_option linter.all false
set_option autoImplicit false
set_option Elab.async false
set_option maxRecDepth 100000
set_option maxHeartbeats 2000000
namespace Rt
open PySem L2

/-! ## Trees in the abstract heap -/
section
variable (fa : Nat → Addr) (K : PySem.W.Frag)
def keyD : Key → D
  | .inl i => .int i
  | .inr x => .str x
mutual
def Rep (Z : Hp) : D → V → Prop
  | .non, v => v = .non
  | .bl b, v => v = .bl b
  | .int i, v => v = .int i
  | .str x, v => v = .str x
  | .lst ds, v => ∃ a vs, v = .ref a ∧ Z a = some (.lst vs) ∧ RepL Z ds vs
  | .tup ds, v => ∃ a vs, v = .ref a ∧ SqT K Z a vs ∧ RepL Z ds vs
  | .dct ks ds, v => ∃ a kvs, v = .ref a ∧ Z a = some (.dK kvs) ∧ ks = kvs.map (fun p => keyD p.1) ∧ RepL Z ds (kvs.map (·.2))
  | .set _, _ => False
  | .rep d, v => v = .str d.py.shown
  | .fn i, v => v = .ref (fa i)
  | .scr is, v => ∃ a, v = .ref a ∧ SqL K (fun b => match Z b with | some (.lst _) => none | o => o) a (is.map V.int)
def RepL (Z : Hp) : List D → List V → Prop
  | [], vs => vs = []
  | d :: ds, vs => ∃ v r, vs = v :: r ∧ Rep Z d v ∧ RepL Z ds r
end
end

def Sub (Z Z' : Hp) : Prop := ∀ a o, Z a = some o → Z' a = some o
theorem Sub.refl (Z : Hp) : Sub Z Z := fun _ _ h => h
theorem Sub.trans {A B C : Hp} (h : Sub A B) (k : Sub B C) : Sub A C := fun a o e => k a o (h a o e)
theorem Sub.none {A B : Hp} (h : Sub A B) {a : Addr} (e : B a = none) : A a = none := by
  cases q : A a with
  | none => rfl
  | some o => rw [h a o q] at e; cases e
theorem sub_upd {H : Hp} {p : Addr} {o : HO} (n : H p = none) : Sub H (upd H p o) := fun a u e => by
  rw [upd_ne (ne_of_none e n)]; exact e

section
variable {fa : Nat → Addr} {K : PySem.W.Frag} {Z Z' H H' : Hp}
theorem Rd.sub {u : HO} {a : Addr} (h : Rd Z a u) (s : Sub Z Z') : Rd Z' a u := by
  rcases h with h | ⟨o, h⟩
  · exact .inl (s _ _ h)
  · exact .inr ⟨o, s _ _ h⟩
theorem SqL.sub {a : Addr} {xs : List V} (h : SqL K Z a xs) (s : Sub Z Z') : SqL K Z' a xs := h.imp (fun h => Rd.sub h s) id
theorem SqT.sub {a : Addr} {xs : List V} (h : SqT K Z a xs) (s : Sub Z Z') : SqT K Z' a xs := h.imp (fun h => Rd.sub h s) id
mutual
theorem Rep.sub (s : Sub Z Z') : ∀ (d : D) (v : V), Rep fa K Z d v → Rep fa K Z' d v
  | .non, _, h => h
  | .bl _, _, h => h
  | .int _, _, h => h
  | .str _, _, h => h
  | .lst ds, v, h => by
    simp only [Rep] at h ⊢
    obtain ⟨a, vs, e, h1, h2⟩ := h
    exact ⟨a, vs, e, s _ _ h1, RepL.sub s ds vs h2⟩
  | .tup ds, v, h => by
    simp only [Rep] at h ⊢
    obtain ⟨a, vs, e, h1, h2⟩ := h
    exact ⟨a, vs, e, SqT.sub h1 s, RepL.sub s ds vs h2⟩
  | .dct ks ds, v, h => by
    simp only [Rep] at h ⊢
    obtain ⟨a, kvs, e, h1, h2, h3⟩ := h
    exact ⟨a, kvs, e, s _ _ h1, h2, RepL.sub s ds _ h3⟩
  | .set _, _, h => h
  | .rep _, _, h => h
  | .fn _, _, h => h
  | .scr is, v, h => by
    simp only [Rep] at h ⊢
    obtain ⟨a, e, h1⟩ := h
    refine ⟨a, e, SqL.sub h1 fun b o q => ?_⟩
    have z : Z b = some o := by
      revert q
      split
      · intro q; cases q
      · exact id
    rw [s b o z]
    revert q
    rw [z]
    exact id
theorem RepL.sub (s : Sub Z Z') : ∀ (ds : List D) (vs : List V), RepL fa K Z ds vs → RepL fa K Z' ds vs
  | [], _, h => h
  | d :: ds, vs, h => by
    simp only [RepL] at h ⊢
    obtain ⟨v, r, e, h1, h2⟩ := h
    exact ⟨v, r, e, Rep.sub s d v h1, RepL.sub s ds r h2⟩
end
theorem RepL.length : ∀ {ds : List D} {vs : List V}, RepL fa K Z ds vs → ds.length = vs.length
  | [], _, h => by simp only [RepL] at h; subst h; rfl
  | d :: ds, vs, h => by
    simp only [RepL] at h
    obtain ⟨v, r, rfl, _, h2⟩ := h
    simp [RepL.length h2]
theorem RepL.append : ∀ {ds es : List D} {vs us : List V}, RepL fa K Z ds vs → RepL fa K Z es us → RepL fa K Z (ds ++ es) (vs ++ us)
  | [], _, _, _, h, k => by simp only [RepL] at h; subst h; exact k
  | d :: ds, es, vs, us, h, k => by
    simp only [RepL] at h
    obtain ⟨v, r, rfl, h1, h2⟩ := h
    simp only [List.cons_append, RepL]
    exact ⟨v, r ++ us, rfl, h1, RepL.append h2 k⟩
theorem RepL.get : ∀ {ds : List D} {vs : List V} {i : Nat} {d : D}, RepL fa K Z ds vs → ds[i]? = some d → ∃ v, vs[i]? = some v ∧ Rep fa K Z d v
  | [], _, _, _, _, e => by simp at e
  | d :: ds, vs, 0, d', h, e => by
    simp only [RepL] at h
    obtain ⟨v, r, rfl, h1, h2⟩ := h
    simp only [List.getElem?_cons_zero, Option.some.injEq] at e
    subst e
    exact ⟨v, rfl, h1⟩
  | d :: ds, vs, i + 1, d', h, e => by
    simp only [RepL] at h
    obtain ⟨v, r, rfl, h1, h2⟩ := h
    simp only [List.getElem?_cons_succ] at e
    obtain ⟨u, q1, q2⟩ := RepL.get h2 e
    exact ⟨u, by simpa using q1, q2⟩
theorem RepL.get' : ∀ {ds : List D} {vs : List V} {i : Nat} {v : V}, RepL fa K Z ds vs → vs[i]? = some v → ∃ d, ds[i]? = some d ∧ Rep fa K Z d v := fun {ds vs i v} h e => by
  have l := RepL.length h
  have hi : i < vs.length := (List.getElem?_eq_some_iff.mp e).1
  have hd : ds[i]? = some ds[i] := List.getElem?_eq_getElem (by omega)
  obtain ⟨u, q1, q2⟩ := RepL.get h hd
  rw [e] at q1; cases q1
  exact ⟨_, hd, q2⟩
theorem RepL.take : ∀ {ds : List D} {vs : List V} (n : Nat), RepL fa K Z ds vs → RepL fa K Z (ds.take n) (vs.take n)
  | _, _, 0, _ => by simp [RepL]
  | [], _, _ + 1, h => by simp only [RepL] at h; subst h; simp [RepL]
  | d :: ds, vs, n + 1, h => by
    simp only [RepL] at h
    obtain ⟨v, r, rfl, h1, h2⟩ := h
    simp only [List.take_succ_cons, RepL]
    exact ⟨v, _, rfl, h1, RepL.take n h2⟩
theorem RepL.drop : ∀ {ds : List D} {vs : List V} (n : Nat), RepL fa K Z ds vs → RepL fa K Z (ds.drop n) (vs.drop n)
  | _, _, 0, h => by simpa using h
  | [], _, _ + 1, h => by simp only [RepL] at h; subst h; simp [RepL]
  | d :: ds, vs, n + 1, h => by
    simp only [RepL] at h
    obtain ⟨v, r, rfl, h1, h2⟩ := h
    simpa using RepL.drop n h2
theorem RepL.set : ∀ {ds : List D} {vs : List V} {d : D} {v : V} (n : Nat), RepL fa K Z ds vs → Rep fa K Z d v → RepL fa K Z (ds.set n d) (vs.set n v)
  | [], _, _, _, n, h, _ => by simp only [RepL] at h; subst h; simp [RepL]
  | d :: ds, vs, d', v', 0, h, k => by
    simp only [RepL] at h
    obtain ⟨v, r, rfl, h1, h2⟩ := h
    simp only [List.set_cons_zero, RepL]
    exact ⟨v', r, rfl, k, h2⟩
  | d :: ds, vs, d', v', n + 1, h, k => by
    simp only [RepL] at h
    obtain ⟨v, r, rfl, h1, h2⟩ := h
    simp only [List.set_cons_succ, RepL]
    exact ⟨v, _, rfl, h1, RepL.set n h2 k⟩
theorem RepL.one {d : D} {v : V} (h : Rep fa K Z d v) : RepL fa K Z [d] [v] := by
  simp only [RepL]; exact ⟨v, [], rfl, h, rfl⟩
theorem RepL.nil_ : RepL fa K Z [] [] := by simp [RepL]
theorem RepL.cons_ {d : D} {v : V} {ds : List D} {vs : List V} (h : Rep fa K Z d v) (t : RepL fa K Z ds vs) : RepL fa K Z (d :: ds) (v :: vs) := by
  simp only [RepL]; exact ⟨v, vs, rfl, h, t⟩
theorem RepL.rep : ∀ {ds : List D} {vs : List V} (n : Nat), RepL fa K Z ds vs → RepL fa K Z (List.replicate n ds).flatten (List.replicate n vs).flatten
  | _, _, 0, _ => by simp [RepL]
  | ds, vs, n + 1, h => by
    simp only [List.replicate_succ, List.flatten_cons]
    exact RepL.append h (RepL.rep n h)
theorem RepL.of_ints : ∀ (is : List Int), RepL fa K Z (is.map .int) (is.map V.int)
  | [] => by simp [RepL]
  | i :: is => by simp only [List.map_cons, RepL]; exact ⟨_, _, rfl, by simp [Rep], RepL.of_ints is⟩
theorem RepL.asInts : ∀ {ds : List D} {vs : List V} {is : List Int}, RepL fa K Z ds vs → asInts ds = some is → ds = is.map .int ∧ vs = is.map V.int
  | [], vs, is, h, e => by
    simp only [RepL] at h; simp only [Rt.asInts, Option.some.injEq] at e; subst h e; exact ⟨rfl, rfl⟩
  | d :: ds, vs, is, h, e => by
    simp only [RepL] at h
    obtain ⟨v, r, rfl, h1, h2⟩ := h
    cases d <;> simp only [Rt.asInts, Option.map_eq_some_iff, reduceCtorEq] at e
    obtain ⟨js, e1, rfl⟩ := e
    obtain ⟨q1, q2⟩ := RepL.asInts h2 e1
    simp only [Rep] at h1
    rw [q1, q2, h1]
    exact ⟨rfl, rfl⟩
theorem RepL.asBools : ∀ {ds : List D} {vs : List V} {is : List Bool}, RepL fa K Z ds vs → asBools ds = some is → ds = is.map .bl ∧ vs = is.map V.bl
  | [], vs, is, h, e => by
    simp only [RepL] at h; simp only [Rt.asBools, Option.some.injEq] at e; subst h e; exact ⟨rfl, rfl⟩
  | d :: ds, vs, is, h, e => by
    simp only [RepL] at h
    obtain ⟨v, r, rfl, h1, h2⟩ := h
    cases d <;> simp only [Rt.asBools, Option.map_eq_some_iff, reduceCtorEq] at e
    obtain ⟨js, e1, rfl⟩ := e
    obtain ⟨q1, q2⟩ := RepL.asBools h2 e1
    simp only [Rep] at h1
    rw [q1, q2, h1]
    exact ⟨rfl, rfl⟩

/-- plain trees are the layer's data -/
theorem plain_cons {p : PyData} {ps : List PyData} : PyData.plainAll (p :: ps) = (p.plain && PyData.plainAll ps) := by simp [PyData.plainAll]
mutual
theorem Rep.dp : ∀ (d : D) (v : V), Rep fa K H d v → d.py.plain = true → Dp K H v d.py
  | .non, v, h, _ => by simp only [Rep] at h; subst h; exact .non
  | .bl b, v, h, _ => by simp only [Rep] at h; subst h; exact .bl b
  | .int b, v, h, _ => by simp only [Rep] at h; subst h; exact .int b
  | .str b, v, h, _ => by simp only [Rep] at h; subst h; exact .str b
  | .lst ds, v, h, p => by
    simp only [Rep] at h
    obtain ⟨a, vs, rfl, h1, h2⟩ := h
    simp only [D.py] at p ⊢
    exact .lst (SqL.of h1) (RepL.dp ds vs h2 (by simpa [PyData.plain] using p))
  | .tup ds, v, h, p => by
    simp only [Rep] at h
    obtain ⟨a, vs, rfl, h1, h2⟩ := h
    simp only [D.py] at p ⊢
    exact .tup h1 (RepL.dp ds vs h2 (by simpa [PyData.plain] using p))
  | .dct _ _, v, h, p => by simp [D.py, PyData.plain] at p
  | .set _, v, h, p => by simp [D.py, PyData.plain] at p
  | .rep _, v, h, p => by simp [D.py, PyData.plain] at p
  | .fn _, v, h, p => by simp [D.py, PyData.plain] at p
  | .scr _, v, h, p => by simp [D.py, PyData.plain] at p
theorem RepL.dp : ∀ (ds : List D) (vs : List V), RepL fa K H ds vs → PyData.plainAll (D.pyL ds) = true → DpAll K H vs (D.pyL ds)
  | [], vs, h, _ => by simp only [RepL] at h; subst h; exact .nil
  | d :: ds, vs, h, p => by
    simp only [RepL] at h
    obtain ⟨v, r, rfl, h1, h2⟩ := h
    simp only [D.pyL, plain_cons, Bool.and_eq_true] at p ⊢
    exact .cons (Rep.dp d v h1 p.1) (RepL.dp ds r h2 p.2)
end
end
end Rt
end
section
set_option linter.all false
set_option autoImplicit false
set_option Elab.async false
set_option maxRecDepth 100000
set_option maxHeartbeats 2000000
namespace Rt
open PySem L2

/-! ## What is hidden: the objects that may change -/
open Classical in
noncomputable def hide (H : Hp) (N : Addr → Prop) : Hp := fun b => if N b then none else H b
theorem hide_sub {H : Hp} {N : Addr → Prop} : Sub (hide H N) H := fun a o e => by
  unfold hide at e; split at e
  · cases e
  · exact e
theorem hide_mono {H H' : Hp} {N N' : Addr → Prop} (s : Sub H H') (h : ∀ b o, H b = some o → N' b → N b) : Sub (hide H N) (hide H' N') := fun a o e => by
  unfold hide at e ⊢; split at e
  · cases e
  · rename_i n
    rw [if_neg fun z => n (h a o e z)]
    exact s a o e
theorem hide_at {H : Hp} {N : Addr → Prop} {a : Addr} (n : ¬ N a) : hide H N a = H a := by unfold hide; rw [if_neg n]
theorem hide_in {H : Hp} {N : Addr → Prop} {a : Addr} (n : N a) : hide H N a = none := by unfold hide; rw [if_pos n]
/-- an object that may change -/
def Mb : HO → Prop
  | .lst _ => True
  | .dK _ => True
  | _ => False

section
variable (fa : Nat → Addr) (K : PySem.W.Frag)
/-- the object at a is the tree's top, its items are read in Z -/
def Top (Z H : Hp) (a : Addr) : D → Prop
  | .lst ds => ∃ vs, H a = some (.lst vs) ∧ RepL fa K Z ds vs
  | .dct ks ds => ∃ kvs, H a = some (.dK kvs) ∧ ks = kvs.map (fun p => keyD p.1) ∧ RepL fa K Z ds (kvs.map (·.2))
  | _ => False
/-- the slots and the heap, as the environment tells -/
structure SR (N : Addr → Prop) (H : Hp) (σ : St) (E : Env) : Prop where
  len : σ.length = E.length
  sub : ∀ b, N b → ∃ o, H b = some o ∧ Mb o
  fz : ∀ (i : Nat) (d : D), E[i]? = some (some (d, false)) → ∃ v, σ[i]? = some (some v) ∧ Rep fa K (hide H N) d v
  ow : ∀ (i : Nat) (d : D), E[i]? = some (some (d, true)) → ∃ a, σ[i]? = some (some (.ref a)) ∧ N a ∧ Top fa K (hide H N) H a d
  inj : ∀ (i j : Nat) (d e : D) (a : Addr), E[i]? = some (some (d, true)) → E[j]? = some (some (e, true)) → σ[i]? = some (some (.ref a)) → σ[j]? = some (some (.ref a)) → i = j
/-- hidden, but for what stands in the slots p -/
def del (N : Addr → Prop) (σ : St) (p : List Nat) : Addr → Prop := fun b => N b ∧ ¬ ∃ i ∈ p, σ[i]? = some (some (.ref b))
/-- a value that an expression gave -/
def RR (N : Addr → Prop) (H H' : Hp) (σ : St) (E : Env) (v : V) (r : Rv) : Prop :=
  match r.t with
  | .fz => Rep fa K (hide H' (del N σ r.p)) r.d v
  | .nw => ∃ a, v = .ref a ∧ H a = none ∧ Top fa K (hide H' fun b => del N σ r.p b ∨ b = a) H' a r.d
  | .sl i => E[i]? = some (some (r.d, true)) ∧ σ[i]? = some (some v)
/-- its top is read in H, its items in Z -/
def Kid (Z H : Hp) (v : V) : D → Prop
  | .lst ds => ∃ a vs, v = .ref a ∧ H a = some (.lst vs) ∧ RepL fa K Z ds vs
  | .dct ks ds => ∃ a kvs, v = .ref a ∧ H a = some (.dK kvs) ∧ ks = kvs.map (fun p => keyD p.1) ∧ RepL fa K Z ds (kvs.map (·.2))
  | d => Rep fa K Z d v
end

section
variable {fa : Nat → Addr} {K : PySem.W.Frag} {N N' : Addr → Prop} {Z Z' H H' H2 : Hp} {σ : St} {E : Env} {v : V} {r : Rv} {d : D} {p q : List Nat}
theorem del_sub {b : Addr} (h : del N σ p b) : N b := h.1
theorem del_nil {b : Addr} : del N σ [] b ↔ N b := by simp [del]
theorem del_anti (h : ∀ i ∈ p, i ∈ q) {b : Addr} (k : del N σ q b) : del N σ p b := ⟨k.1, fun ⟨i, hi, e⟩ => k.2 ⟨i, h i hi, e⟩⟩
theorem Rep.kid (s : Sub Z H) (h : Rep fa K Z d v) : Kid fa K Z H v d := by
  cases d with
  | lst ds => simp only [Rep] at h; obtain ⟨a, vs, e, h1, h2⟩ := h; exact ⟨a, vs, e, s _ _ h1, h2⟩
  | dct ks ds => simp only [Rep] at h; obtain ⟨a, vs, e, h1, h2, h3⟩ := h; exact ⟨a, vs, e, s _ _ h1, h2, h3⟩
  | _ => exact h
theorem Top.kid {a : Addr} (h : Top fa K Z H a d) : Kid fa K Z H (.ref a) d := by
  cases d with
  | lst ds => obtain ⟨vs, h1, h2⟩ := h; exact ⟨a, vs, rfl, h1, h2⟩
  | dct ks ds => obtain ⟨vs, h1, h2, h3⟩ := h; exact ⟨a, vs, rfl, h1, h2, h3⟩
  | _ => exact h.elim
theorem Kid.sub (s : Sub Z Z') (t : Sub H H') (h : Kid fa K Z H v d) : Kid fa K Z' H' v d := by
  cases d with
  | lst ds => obtain ⟨a, vs, e, h1, h2⟩ := h; exact ⟨a, vs, e, t _ _ h1, RepL.sub s _ _ h2⟩
  | dct ks ds => obtain ⟨a, vs, e, h1, h2, h3⟩ := h; exact ⟨a, vs, e, t _ _ h1, h2, RepL.sub s _ _ h3⟩
  | _ => exact Rep.sub s _ _ h
theorem Kid.rep (s : Sub Z H) (h : Kid fa K Z H v d) : Rep fa K H d v := by
  cases d with
  | lst ds => obtain ⟨a, vs, e, h1, h2⟩ := h; simp only [Rep]; exact ⟨a, vs, e, h1, RepL.sub s _ _ h2⟩
  | dct ks ds => obtain ⟨a, vs, e, h1, h2, h3⟩ := h; simp only [Rep]; exact ⟨a, vs, e, h1, h2, RepL.sub s _ _ h3⟩
  | _ => exact Rep.sub s _ _ h
theorem Top.sub {a : Addr} (s : Sub Z Z') (t : Sub H H') (h : Top fa K Z H a d) : Top fa K Z' H' a d := by
  cases d with
  | lst ds => obtain ⟨vs, h1, h2⟩ := h; exact ⟨vs, t _ _ h1, RepL.sub s _ _ h2⟩
  | dct ks ds => obtain ⟨vs, h1, h2, h3⟩ := h; exact ⟨vs, t _ _ h1, h2, RepL.sub s _ _ h3⟩
  | _ => exact h.elim
theorem Top.mb {a : Addr} (h : Top fa K Z H a d) : ∃ o, H a = some o ∧ Mb o := by
  cases d with
  | lst ds => obtain ⟨vs, h1, h2⟩ := h; exact ⟨_, h1, trivial⟩
  | dct ks ds => obtain ⟨vs, h1, h2, h3⟩ := h; exact ⟨_, h1, trivial⟩
  | _ => exact h.elim

/-- the state under a heap that grew -/
theorem SR.grow (h : SR fa K N H σ E) (g : Sub H H') : SR fa K N H' σ E where
  len := h.len
  sub := fun b n => by obtain ⟨o, e, m⟩ := h.sub b n; exact ⟨o, g _ _ e, m⟩
  fz := fun i d e => by
    obtain ⟨v, q1, q2⟩ := h.fz i d e
    exact ⟨v, q1, Rep.sub (hide_mono g fun _ _ _ n => n) _ _ q2⟩
  ow := fun i d e => by
    obtain ⟨a, q1, q2, q3⟩ := h.ow i d e
    exact ⟨a, q1, q2, q3.sub (hide_mono g fun _ _ _ n => n) g⟩
  inj := h.inj
theorem RR.grow (h : RR fa K N H H' σ E v r) (g : Sub H' H2) : RR fa K N H H2 σ E v r := by
  unfold RR at h ⊢
  split <;> rename_i e <;> rw [e] at h <;> dsimp only at h ⊢
  · exact Rep.sub (hide_mono g fun _ _ _ n => n) _ _ h
  · obtain ⟨a, e1, e2, e3⟩ := h
    exact ⟨a, e1, e2, e3.sub (hide_mono g fun _ _ _ n => n) g⟩
  · exact h
/-- seen from an earlier heap -/
theorem RR.from (g : Sub H H') (h : RR fa K N H' H2 σ E v r) : RR fa K N H H2 σ E v r := by
  unfold RR at h ⊢
  split <;> rename_i e <;> rw [e] at h <;> dsimp only at h ⊢
  · exact h
  · obtain ⟨a, e1, e2, e3⟩ := h
    exact ⟨a, e1, g.none e2, e3⟩
  · exact h
/-- its items stand in what its dependences open -/
theorem RR.kid (h : RR fa K N H H' σ E v r) (s : SR fa K N H σ E) (g : Sub H H') : Kid fa K (hide H' (del N σ r.kc)) H' v r.d := by
  unfold RR at h
  unfold Rv.kc
  split at h <;> rename_i e <;> rw [e] <;> dsimp only at h ⊢
  · exact Rep.kid hide_sub h
  · obtain ⟨a, e1, e2, e3⟩ := h
    subst e1
    exact e3.kid.sub (hide_mono (Sub.refl _) fun b o _ n => .inl n) (Sub.refl _)
  · obtain ⟨h1, h2⟩ := h
    obtain ⟨a, q1, q2, q3⟩ := s.ow _ _ h1
    rw [h2] at q1; cases q1
    exact q3.kid.sub (hide_mono g fun b o _ n => n.1) g
/-- it stands in what its dependences open -/
theorem RR.all (h : RR fa K N H H' σ E v r) (s : SR fa K N H σ E) (g : Sub H H') : Rep fa K (hide H' (del N σ r.kp)) r.d v := by
  unfold RR at h
  unfold Rv.kp
  split at h <;> rename_i e <;> rw [e] <;> dsimp only at h ⊢
  · exact h
  · obtain ⟨a, e1, e2, e3⟩ := h
    subst e1
    have na : ¬ del N σ r.p a := fun n => by
      obtain ⟨o, e, _⟩ := s.sub a n.1
      rw [e2] at e; cases e
    obtain ⟨o, q1, q2⟩ := e3.mb
    have k := (e3.kid.sub (hide_mono (Sub.refl H') (N' := del N σ r.p) fun b o _ n => .inl n) (Sub.refl _))
    have sub : ∀ {d : D}, Kid fa K (hide H' (del N σ r.p)) H' (.ref a) d → Rep fa K (hide H' (del N σ r.p)) d (.ref a) := fun {d} k => by
      have at_ : hide H' (del N σ r.p) a = H' a := hide_at na
      cases d with
      | lst ds =>
        obtain ⟨b, vs, e, h1, h2⟩ := k
        cases e
        simp only [Rep]
        exact ⟨a, vs, rfl, at_.trans h1, h2⟩
      | dct ks ds =>
        obtain ⟨b, vs, e, h1, h2, h3⟩ := k
        cases e
        simp only [Rep]
        exact ⟨a, vs, rfl, at_.trans h1, h2, h3⟩
      | _ => exact k
    exact sub k
  · rename_i _ i0
    obtain ⟨h1, h2⟩ := h
    obtain ⟨a, q1, q2, q3⟩ := s.ow _ _ h1
    rw [h2] at q1; cases q1
    have na : ¬ del N σ [i0] a := fun n => n.2 ⟨i0, List.mem_singleton.mpr rfl, h2⟩
    have k := q3.sub (Z' := hide H' (del N σ [i0])) (hide_mono g fun b o _ n => n.1) g
    have at_ : hide H' (del N σ [i0]) a = H' a := hide_at na
    revert k
    generalize r.d = d
    intro k
    cases d with
    | lst ds =>
      obtain ⟨vs, h1, h2⟩ := k
      simp only [Rep]
      exact ⟨a, vs, rfl, at_.trans h1, h2⟩
    | dct ks ds =>
      obtain ⟨vs, h1, h2, h3⟩ := k
      simp only [Rep]
      exact ⟨a, vs, rfl, at_.trans h1, h2, h3⟩
    | _ => exact k.elim

/-! ### what cannot change needs no slot -/
theorem sqT_unhide {a : Addr} {xs : List V} (h : SqT K (hide H N) a xs) (m : ∀ b, N' b → ∃ o, H b = some o ∧ Mb o) : SqT K (hide H N') a xs := by
  rcases h with h | h
  · refine .inl ?_
    have key : ∀ o, hide H N a = some o → ¬ Mb o → hide H N' a = some o := fun o e nm => by
      have e' := hide_sub _ _ e
      rw [hide_at fun n => ?_]
      · exact e'
      · obtain ⟨u, q1, q2⟩ := m a n
        rw [e'] at q1; cases q1
        exact nm q2
    rcases h with h | ⟨o, h⟩
    · exact .inl (key _ h fun z => z)
    · exact .inr ⟨o, key _ h fun z => z⟩
  · exact .inr h
theorem sqL_unhide {a : Addr} {xs : List V} (h : SqL K (fun b => match hide H N b with | some (.lst _) => none | o => o) a xs) (m : ∀ b, N' b → ∃ o, H b = some o ∧ Mb o) :
    SqL K (fun b => match hide H N' b with | some (.lst _) => none | o => o) a xs := by
  rcases h with h | h
  · refine .inl ?_
    rcases h with h | ⟨o, h⟩
    · exfalso
      revert h
      dsimp only
      split
      · intro q; cases q
      · rename_i z
        intro q
        exact z _ q
    · refine .inr ⟨o, ?_⟩
      have e : hide H N a = some (.frz o (.lst xs)) := by
        revert h
        dsimp only
        split
        · intro q; cases q
        · exact id
      have e' := hide_sub _ _ e
      have e2 : hide H N' a = some (.frz o (.lst xs)) := by
        rw [hide_at fun n => ?_]
        · exact e'
        · obtain ⟨u, q1, q2⟩ := m a n
          rw [e'] at q1; cases q1
          exact q2
      simp only [e2]
  · exact .inr h
mutual
theorem Rep.unhide (m : ∀ b, N' b → ∃ o, H b = some o ∧ Mb o) : ∀ (d : D) (v : V), d.imm = true → Rep fa K (hide H N) d v → Rep fa K (hide H N') d v
  | .non, _, _, h => h
  | .bl _, _, _, h => h
  | .int _, _, _, h => h
  | .str _, _, _, h => h
  | .lst ds, v, i, h => by simp [D.imm] at i
  | .tup ds, v, i, h => by
    simp only [Rep] at h ⊢
    obtain ⟨a, vs, e, h1, h2⟩ := h
    exact ⟨a, vs, e, sqT_unhide h1 m, RepL.unhide m ds vs (by simpa [D.imm] using i) h2⟩
  | .dct _ _, v, i, h => by simp [D.imm] at i
  | .set _, v, i, h => by simp [D.imm] at i
  | .rep _, _, _, h => h
  | .fn _, _, _, h => h
  | .scr is, v, _, h => by
    simp only [Rep] at h ⊢
    obtain ⟨a, e, h1⟩ := h
    exact ⟨a, e, sqL_unhide h1 m⟩
theorem RepL.unhide (m : ∀ b, N' b → ∃ o, H b = some o ∧ Mb o) : ∀ (ds : List D) (vs : List V), D.immL ds = true → RepL fa K (hide H N) ds vs → RepL fa K (hide H N') ds vs
  | [], _, _, h => h
  | d :: ds, vs, i, h => by
    simp only [RepL] at h ⊢
    obtain ⟨v, r, e, h1, h2⟩ := h
    simp only [D.immL, Bool.and_eq_true] at i
    exact ⟨v, r, e, Rep.unhide m d v i.1 h1, RepL.unhide m ds r i.2 h2⟩
end
theorem Top.unhide {a : Addr} (m : ∀ b, N' b → ∃ o, H b = some o ∧ Mb o) (i : d.kids = true) (h : Top fa K (hide H N) H a d) : Top fa K (hide H N') H a d := by
  cases d with
  | lst ds => obtain ⟨vs, h1, h2⟩ := h; exact ⟨vs, h1, RepL.unhide m _ _ i h2⟩
  | dct ks ds => obtain ⟨vs, h1, h2, h3⟩ := h; exact ⟨vs, h1, h2, RepL.unhide m _ _ i h3⟩
  | _ => exact h.elim

theorem rr_mkF (s : SR fa K N H σ E) (g : Sub H H') (h : Rep fa K (hide H' (del N σ p)) d v) : RR fa K N H H' σ E v (mkF d p) := by
  show Rep fa K (hide H' (del N σ (mkF d p).p)) d v
  unfold mkF
  cases p with
  | nil => exact h
  | cons i p =>
    by_cases im : d.imm = true
    · simp only [im, if_true]
      exact Rep.unhide (fun b n => by obtain ⟨o, e, q⟩ := s.sub b n.1; exact ⟨o, g _ _ e, q⟩) _ _ im h
    · simp only [im]
      exact h
theorem rr_mkN {a : Addr} (s : SR fa K N H σ E) (g : Sub H H') (n : H a = none) (h : Top fa K (hide H' fun b => del N σ p b ∨ b = a) H' a d) : RR fa K N H H' σ E (.ref a) (mkN d p) := by
  show ∃ b, V.ref a = .ref b ∧ H b = none ∧ Top fa K (hide H' fun c => del N σ (mkN d p).p c ∨ c = b) H' b d
  refine ⟨a, rfl, n, ?_⟩
  unfold mkN
  cases p with
  | nil => exact h
  | cons i p =>
    by_cases im : d.kids = true
    · simp only [im, if_true]
      refine Top.unhide (fun b n => ?_) im h
      rcases n with n | n
      · obtain ⟨o, e, q⟩ := s.sub b n.1
        exact ⟨o, g _ _ e, q⟩
      · subst n; exact h.mb
    · simp only [im]
      exact h
/-- what an operation gives: H2 the heap behind it; Z: where the items of its arguments stand -/
def NewR (fa : Nat → Addr) (K : PySem.W.Frag) (Z H H2 : Hp) (fr : Bool) (d : D) (v : V) : Prop :=
  Sub H H2 ∧ match fr with
  | false => Rep fa K (fun b => match H b with | none => H2 b | some _ => Z b) d v
  | true => ∃ a, v = .ref a ∧ H a = none ∧ Top fa K (fun b => if b = a then none else match H b with | none => H2 b | some _ => Z b) H2 a d
theorem NewR.rr {fr : Bool} {H1 : Hp} (s : SR fa K N H σ E) (g : Sub H H1) (h : NewR fa K (hide H1 (del N σ p)) H1 H2 fr d v) : RR fa K N H H2 σ E v (mk fr d p) := by
  obtain ⟨g2, h⟩ := h
  have g3 : Sub H H2 := g.trans g2
  have z : ∀ b, H1 b = none → ¬ del N σ p b := fun b e n => by
    obtain ⟨o, q, _⟩ := s.sub b n.1
    rw [g _ _ q] at e; cases e
  have zs : Sub (fun b => match H1 b with | none => H2 b | some _ => hide H1 (del N σ p) b) (hide H2 (del N σ p)) := fun b o e => by
    cases q : H1 b with
    | none =>
      simp only [q] at e
      rw [hide_at (z b q)]; exact e
    | some u =>
      simp only [q] at e
      exact hide_mono g2 (fun _ _ _ n => n) b o e
  cases fr with
  | false => exact rr_mkF s g3 (Rep.sub zs _ _ h)
  | true =>
    obtain ⟨a, rfl, n, t⟩ := h
    refine rr_mkN s g3 (g.none n) (t.sub (fun b o e => ?_) (Sub.refl _))
    by_cases q : b = a
    · simp only [q, if_true] at e; cases e
    · simp only [if_neg q] at e
      have e' := zs b o e
      unfold hide at e' ⊢
      split at e'
      · cases e'
      · rename_i nd
        rw [if_neg fun z => z.elim nd q]
        exact e'
/-- a new list over what stood -/
theorem NewR.list {a : Addr} {ds : List D} {vs : List V} (n : H a = none) (sz : Sub Z H) (h : RepL fa K Z ds vs) : NewR fa K Z H (upd H a (.lst vs)) true (.lst ds) (.ref a) := by
  refine ⟨sub_upd n, a, rfl, n, vs, upd_same, RepL.sub (fun b o e => ?_) _ _ h⟩
  have q := sz b o e
  have ne : b ≠ a := ne_of_none q n
  simp only [if_neg ne, q]
  exact e
theorem NewR.tuple {a : Addr} {ds : List D} {vs : List V} (n : H a = none) (sz : Sub Z H) (h : RepL fa K Z ds vs) : NewR fa K Z H (upd H a (.tup vs)) false (.tup ds) (.ref a) := by
  refine ⟨sub_upd n, ?_⟩
  show Rep fa K _ (.tup ds) (.ref a)
  simp only [Rep]
  refine ⟨a, vs, rfl, SqT.of ?_, RepL.sub (fun b o e => ?_) _ _ h⟩
  · simp only [n, upd_same]
  · simp only [sz b o e]
    exact e
theorem NewR.flat (h : ∀ Z, Rep fa K Z d v) : NewR fa K Z H H false d v := ⟨Sub.refl _, h _⟩
theorem NewR.old (h : Rep fa K Z d v) (sz : Sub Z H) : NewR fa K Z H H false d v := ⟨Sub.refl _, Rep.sub (fun b o e => by simp only [sz b o e]; exact e) _ _ h⟩
end
end Rt
end
section
set_option linter.all false
set_option autoImplicit false
set_option Elab.async false
set_option maxRecDepth 100000
set_option maxHeartbeats 2000000
namespace Rt
open PySem PySem.Spec PyProof.Rows L2

/-! ## Semantic readings -/
def tE (X : Cx) (e : Expr) : TE := fun σ H Q => ∀ (pins : List (Addr × Obj)) (s : Shared), Inv X pins σ H s → wpAny (model X.prog X.w) X.A (eval e X.env) (EP X pins σ Q) X.xe s
def tT (X : Cx) (e : Expr) : TT := fun σ H Q => ∀ (pins : List (Addr × Obj)) (s : Shared), Inv X pins σ H s → wpAny (model X.prog X.w) X.A (isTrue e X.env (eval e X.env)) (TP X pins σ Q) X.xe s
def tA (X : Cx) (es : List Expr) : TA := fun σ H Q => ∀ (pos : Pos) (pins : List (Addr × Obj)) (s : Shared), Inv X pins σ H s → wpAny (model X.prog X.w) X.A (spliced (backTo pos (starEach es X.env))) (AP X pins σ Q) X.xe s
theorem peE {X : Cx} {e : Expr} : PE X e (tE X e) := ⟨fun pins s σ H Q I h => h pins s I⟩
theorem ptT {X : Cx} {e : Expr} : PT X e (tT X e) := ⟨fun pins s σ H Q I h => h pins s I⟩
theorem paA {X : Cx} {es : List Expr} : PA X es (tA X es) := ⟨fun pos pins s σ H Q I h => h pos pins s I⟩
theorem of_pe {X : Cx} {e : Expr} {t : TE} (h : PE X e t) {σ : L2.St} {H : Hp} {Q : VK} (k : t σ H Q) : tE X e σ H Q := fun pins s I => h.run pins s σ H Q I k
theorem of_pt {X : Cx} {e : Expr} {t : TT} (h : PT X e t) {σ : L2.St} {H : Hp} {Q : Bool → Hp → Prop} (k : t σ H Q) : tT X e σ H Q := fun pins s I => h.run pins s σ H Q I k
theorem of_pa {X : Cx} {es : List Expr} {t : TA} (h : PA X es t) {σ : L2.St} {H : Hp} {Q : List V → Hp → Prop} (k : t σ H Q) : tA X es σ H Q := fun pos pins s I => h.run pos pins s σ H Q I k

/-- an exception that was made: its own dict -/
def ExD (H H' : Hp) (dd : Addr) (a : D) : Prop := ∃ i : Int, a = .int i ∧ H dd = none ∧ H' dd = some (.xd [(("at" : Str), .int i)])
theorem ExD.from {H0 H H' : Hp} {dd : Addr} {a : D} (g : Sub H0 H) (h : ExD H H' dd a) : ExD H0 H' dd a := by
  obtain ⟨i, e, n, k⟩ := h
  exact ⟨i, e, g.none n, k⟩
/-- the end that is asked -/
def Post (ca : Nat → Addr) (W : WX) (H : Hp) (σ : L2.St) {β : Type} (P : β → Prop) : R β → Prop
  | .ok b => P b
  | .ex c a => ∀ dd H', Sub H H' → ExD H H' dd a → W (.ref (ca c)) (some dd) σ H'
  | .bad => False
theorem Post.imp {ca : Nat → Addr} {W : WX} {H : Hp} {σ : L2.St} {β : Type} {P P' : β → Prop} {r : R β} (h : Post ca W H σ P r) (k : ∀ b, r = .ok b → P b → P' b) : Post ca W H σ P' r := by
  cases r with
  | ok b => exact k b rfl h
  | ex c a => exact h
  | bad => exact h
section
variable (fa ca : Nat → Addr) (X : Cx)
def Snd (e : Expr) (f : Ex) : Prop := ∀ (W : WX), Takes X W → ∀ (N : Addr → Prop) (H : Hp) (σ : L2.St) (E : Env) (Q : VK), SR fa X.K N H σ E →
  Post ca W H σ (fun r => ∀ v H', Sub H H' → RR fa X.K N H H' σ E v r → Q v H') (f E) → tE X e σ H Q
def SndT (e : Expr) (f : Tst) : Prop := ∀ (W : WX), Takes X W → ∀ (N : Addr → Prop) (H : Hp) (σ : L2.St) (E : Env) (Q : Bool → Hp → Prop), SR fa X.K N H σ E →
  Post ca W H σ (fun k => ∀ H', Sub H H' → Q k H') (f E) → tT X e σ H Q
def RRL (N : Addr → Prop) (H H' : Hp) (σ : L2.St) (E : Env) : List V → List Rv → Prop
  | vs, [] => vs = []
  | vs, r :: rs => ∃ v us, vs = v :: us ∧ RR fa X.K N H H' σ E v r ∧ RRL N H H' σ E us rs
def SndA (es : List Expr) (fs : List Ex) : Prop := ∀ (W : WX), Takes X W → ∀ (N : Addr → Prop) (H : Hp) (σ : L2.St) (E : Env) (Q : List V → Hp → Prop), SR fa X.K N H σ E →
  Post ca W H σ (fun rs => ∀ vs H', Sub H H' → RRL fa X N H H' σ E vs rs → Q vs H') (evs fs E) → tA X es σ H Q
def SndD (es : List Expr) (fs : List (Bool × Ex)) : Prop := ∀ (W : WX), Takes X W → ∀ (N : Addr → Prop) (H : Hp) (σ : L2.St) (E : Env) (Q : List V → Hp → Prop), SR fa X.K N H σ E →
  Post ca W H σ (fun q => ∀ vs H', Sub H H' → RepL fa X.K (hide H' (del N σ q.2)) q.1 vs → Q vs H') (spread fs E) → tA X es σ H Q
end

section
variable {fa ca : Nat → Addr} {X : Cx} {a b c e : Expr} {da db dc : Ex} {pos : Pos}
/-- the first of two steps -/
theorem Snd.bd {β : Type} {P : β → Prop} {W : WX} {N : Addr → Prop} {H0 H : Hp} {σ : L2.St} {E : Env} {k : Rv → R β} {Q : VK} (ha : Snd fa ca X a da) (tk : Takes X W) (s : SR fa X.K N H σ E) (g : Sub H0 H)
    (h : Post ca W H0 σ P ((da E).bd k)) (hk : ∀ r v H1, da E = .ok r → Sub H H1 → RR fa X.K N H H1 σ E v r → Post ca W H0 σ P (k r) → Q v H1) : tE X a σ H Q := by
  refine ha W tk N H σ E Q s ?_
  cases q : da E with
  | ok r => rw [q] at h; exact fun v H1 g1 rr => hk r v H1 q g1 rr h
  | ex c x => rw [q] at h; exact fun dd H' g' ed => h dd H' (g.trans g') (ed.from g)
  | bad => rw [q] at h; exact h.elim
theorem SndT.bd {β : Type} {P : β → Prop} {W : WX} {N : Addr → Prop} {H0 H : Hp} {σ : L2.St} {E : Env} {dt : Tst} {k : Bool → R β} {Q : Bool → Hp → Prop} (ha : SndT fa ca X a dt) (tk : Takes X W) (s : SR fa X.K N H σ E) (g : Sub H0 H)
    (h : Post ca W H0 σ P ((dt E).bd k)) (hk : ∀ r H1, dt E = .ok r → Sub H H1 → Post ca W H0 σ P (k r) → Q r H1) : tT X a σ H Q := by
  refine ha W tk N H σ E Q s ?_
  cases q : dt E with
  | ok r => rw [q] at h; exact fun H1 g1 => hk r H1 q g1 h
  | ex c x => rw [q] at h; exact fun dd H' g' ed => h dd H' (g.trans g') (ed.from g)
  | bad => rw [q] at h; exact h.elim
theorem SndA.bd {β : Type} {P : β → Prop} {W : WX} {N : Addr → Prop} {H0 H : Hp} {σ : L2.St} {E : Env} {es : List Expr} {fs : List Ex} {k : List Rv → R β} {Q : List V → Hp → Prop} (ha : SndA fa ca X es fs) (tk : Takes X W) (s : SR fa X.K N H σ E) (g : Sub H0 H)
    (h : Post ca W H0 σ P ((evs fs E).bd k)) (hk : ∀ r v H1, evs fs E = .ok r → Sub H H1 → RRL fa X N H H1 σ E v r → Post ca W H0 σ P (k r) → Q v H1) : tA X es σ H Q := by
  refine ha W tk N H σ E Q s ?_
  cases q : evs fs E with
  | ok r => rw [q] at h; exact fun v H1 g1 rr => hk r v H1 q g1 rr h
  | ex c x => rw [q] at h; exact fun dd H' g' ed => h dd H' (g.trans g') (ed.from g)
  | bad => rw [q] at h; exact h.elim
theorem SndD.bd {β : Type} {P : β → Prop} {W : WX} {N : Addr → Prop} {H0 H : Hp} {σ : L2.St} {E : Env} {es : List Expr} {fs : List (Bool × Ex)} {k : List D × List Nat → R β} {Q : List V → Hp → Prop} (ha : SndD fa ca X es fs) (tk : Takes X W) (s : SR fa X.K N H σ E) (g : Sub H0 H)
    (h : Post ca W H0 σ P ((spread fs E).bd k)) (hk : ∀ r v H1, spread fs E = .ok r → Sub H H1 → RepL fa X.K (hide H1 (del N σ r.2)) r.1 v → Post ca W H0 σ P (k r) → Q v H1) : tA X es σ H Q := by
  refine ha W tk N H σ E Q s ?_
  cases q : spread fs E with
  | ok r => rw [q] at h; exact fun v H1 g1 rr => hk r v H1 q g1 rr h
  | ex c x => rw [q] at h; exact fun dd H' g' ed => h dd H' (g.trans g') (ed.from g)
  | bad => rw [q] at h; exact h.elim

/-! ### names, constants -/
theorem snd_con {v : V} {d : D} (h : PE X e (tC v)) (r : ∀ Z, Rep fa X.K Z d v) : Snd fa ca X e (xCon d) := fun W tk N H σ E Q s p =>
  of_pe h (p v H (Sub.refl _) (r _))
theorem snd_var {i : Nat} {x : Str} (hN : X.N[i]? = some x) (hv : Vis X.env.scope x) (hd : (x == ("__debug__" : Str)) = false) (hcd : (x == ("__classdict__" : Str)) = false) : Snd fa ca X (.Name x pos) (xVar i) := fun W tk N H σ E Q s p => by
  refine of_pe (pe_var (i := i) hN hv hd hcd) ?_
  unfold xVar at p
  cases q : E[i]? with
  | none => simp only [q] at p; exact p.elim
  | some sl =>
    cases sl with
    | none => simp only [q] at p; exact p.elim
    | some dk =>
      obtain ⟨d, k⟩ := dk
      cases k with
      | true =>
        simp only [q] at p
        obtain ⟨ad, q1, q2, q3⟩ := s.ow i d q
        exact ⟨_, q1, p _ H (Sub.refl _) ⟨q, q1⟩⟩
      | false =>
        simp only [q] at p
        obtain ⟨v, q1, q2⟩ := s.fz i d q
        refine ⟨v, q1, p v H (Sub.refl _) ?_⟩
        exact Rep.sub (hide_mono (Sub.refl _) fun b o _ n => n.1) _ _ q2

/-! ### operators -/
/-- an operation of two values -/
def OpS (fa : Nat → Addr) (X : Cx) (g : Value → Value → Sem Value) (f : D → D → Option (D × Bool)) : Prop :=
  ∀ (Z H : Hp) (x y : V) (d e r : D) (fr : Bool) (Q : VK), Sub Z H → Kid fa X.K Z H x d → Kid fa X.K Z H y e → f d e = some (r, fr) →
    (∀ z H2, NewR fa X.K Z H H2 fr r z → Q z H2) →
    ∀ (pins : List (Addr × Obj)) (s : Shared) (σ : L2.St) (v u : Value), Inv X pins σ H s → RelV x v → RelV y u → wpAny (model X.prog X.w) X.A (g v u) (EP X pins σ Q) X.xe s
theorem mem_app_l {p q : List Nat} : ∀ i ∈ p, i ∈ p ++ q := fun i h => List.mem_append_left _ h
theorem mem_app_r {p q : List Nat} : ∀ i ∈ q, i ∈ p ++ q := fun i h => List.mem_append_right _ h
theorem hide_dep {N : Addr → Prop} {σ : L2.St} {H : Hp} {p q : List Nat} (h : ∀ i ∈ p, i ∈ q) : Sub (hide H (del N σ p)) (hide H (del N σ q)) := hide_mono (Sub.refl _) fun b o _ n => del_anti h n

theorem snd_bin {op : Operator} {f : D → D → Option (D × Bool)} (ho : OpS fa X (binaryOp op) f) (ha : Snd fa ca X a da) (hb : Snd fa ca X b db) : Snd fa ca X (.BinOp a op b pos) (xBin f da db) := fun W tk N H σ E Q s p => by
  refine of_pe (pe_op (r := fun x y H' Q' => ∀ (pins : List (Addr × Obj)) (s : Shared) (σ : L2.St) (v u : Value), Inv X pins σ H' s → RelV x v → RelV y u → wpAny (model X.prog X.w) X.A (binaryOp op v u) (EP X pins σ Q') X.xe s)
    (fun pins s σ H x y v u Q I rx ry h => h pins s σ v u I rx ry) (peE (e := a)) (peE (e := b))) ?_
  show tE X a σ H _
  refine ha.bd tk s (Sub.refl _) p fun r x H1 e1 g1 r1 p1 => ?_
  refine hb.bd tk (s.grow g1) g1 p1 fun r' y H2 e2 g2 r2 p2 => ?_
  have k1 := (r1.kid s g1).sub (hide_mono g2 fun b o _ n => n) g2
  have k2 := r2.kid (s.grow g1) g2
  have g12 := g1.trans g2
  cases q : f r.d r'.d with
  | none => simp only [q] at p2; exact p2.elim
  | some z =>
    obtain ⟨d, fr⟩ := z
    simp only [q] at p2
    refine ho (hide H2 (del N σ (r.kc ++ r'.kc))) H2 x y r.d r'.d d fr _ hide_sub (k1.sub (hide_dep mem_app_l) (Sub.refl _)) (k2.sub (hide_dep mem_app_r) (Sub.refl _)) q fun w H3 nr => ?_
    exact p2 w H3 (g12.trans nr.1) (nr.rr s g12)
theorem Kid.int {Z H : Hp} {x : V} {i : Int} {K : PySem.W.Frag} (h : Kid fa K Z H x (.int i)) : x = .int i := by simpa [Kid, Rep] using h
theorem Kid.str {Z H : Hp} {x : V} {i : Str} {K : PySem.W.Frag} (h : Kid fa K Z H x (.str i)) : x = .str i := by simpa [Kid, Rep] using h
theorem Kid.bl {Z H : Hp} {x : V} {i : Bool} {K : PySem.W.Frag} (h : Kid fa K Z H x (.bl i)) : x = .bl i := by simpa [Kid, Rep] using h
theorem Kid.rp {Z H : Hp} {x : V} {d : D} {K : PySem.W.Frag} (h : Kid fa K Z H x (.rep d)) : x = .str d.py.shown := by simpa [Kid, Rep] using h
theorem newR_int {K : PySem.W.Frag} {Z H : Hp} {i : Int} : NewR fa K Z H H false (.int i) (.int i) := NewR.flat fun _ => by simp [Rep]
theorem newR_str {K : PySem.W.Frag} {Z H : Hp} {i : Str} : NewR fa K Z H H false (.str i) (.str i) := NewR.flat fun _ => by simp [Rep]
theorem newR_bl {K : PySem.W.Frag} {Z H : Hp} {i : Bool} : NewR fa K Z H H false (.bl i) (.bl i) := NewR.flat fun _ => by simp [Rep]
theorem line_eq : line = sizeLine := by rw [sizeLine_eq]; rfl

theorem ops_add : OpS fa X (binaryOp .Add) dAdd := fun Z H x y d e r fr Q sz kx ky q k pins s σ v u I rx ry => by
  unfold dAdd at q
  split at q
  · cases q
    have ex := kx.int; have ey := ky.int; subst ex ey
    exact op_add pins s σ H _ _ v u Q I rx ry ⟨_, _, rfl, rfl, k _ _ newR_int⟩
  · split at q <;> cases q
    rename_i hl
    have ex := kx.str; have ey := ky.str; subst ex ey
    exact op_add_str pins s σ H _ _ v u Q I rx ry ⟨_, _, rfl, rfl, by rw [← line_eq]; exact hl, k _ _ newR_str⟩
  · split at q <;> cases q
    rename_i hl
    obtain ⟨a, vs, rfl, h1, h2⟩ := kx
    obtain ⟨b, us, rfl, h3, h4⟩ := ky
    refine op_cat pins s σ H _ _ v u Q I rx ry ⟨a, b, vs, us, rfl, rfl, h1, h3, by rw [← line_eq, ← h2.length, ← h4.length]; exact hl, fun p np => k _ _ ?_⟩
    exact NewR.list np sz (h2.append h4)
  · split at q <;> cases q
    rename_i xs ys hl
    have tx : Rep fa X.K Z (.tup _) _ := kx
    have ty : Rep fa X.K Z (.tup _) _ := ky
    have kx' := tx
    have ky' := ty
    simp only [Rep] at kx' ky'
    obtain ⟨a, vs, rfl, h1, h2⟩ := kx'
    obtain ⟨b, us, rfl, h3, h4⟩ := ky'
    refine op_catA pins s σ H _ _ v u Q I rx ry ⟨a, b, vs, us, rfl, rfl, SqT.sub h1 sz, SqT.sub h3 sz, by rw [← line_eq, ← h2.length, ← h4.length]; exact hl, fun e0 => k _ _ ?_, fun e1 e0 => k _ _ ?_, fun _ _ p np => k _ _ ?_⟩
    · subst e0
      have e := h2.length
      have e' : xs = [] := List.eq_nil_of_length_eq_zero (by simpa using e)
      subst e'
      exact NewR.old ty sz
    · subst e0
      have e := h4.length
      have e' : ys = [] := List.eq_nil_of_length_eq_zero (by simpa using e)
      subst e'
      rw [List.append_nil]
      exact NewR.old tx sz
    · exact NewR.tuple np sz (h2.append h4)
  · cases q
end
end Rt
end
section
set_option linter.all false
set_option autoImplicit false
set_option Elab.async false
set_option maxRecDepth 100000
set_option maxHeartbeats 3200000
namespace L2
open PySem PySem.Spec PyProof.Rows
/-! tuple * 1, tuple * 0 -/
theorem tuple_mul1 (l : Addr) (items : Array Value) (n : Nat) (dd : Option Addr) (sl : Array (Option Value)) (u : Tok) :
    Meets (Builtin.«tuple.__mul__» ⟨[.ref l, .int 1 u], []⟩) (fun _ R s => s.heap.get? l = some { cls := .type "tuple", dict := dd, data := .seq items n, slots := sl } ∧ R (.ok (.ret (Value.ref l))) s) :=
  .of_wp fun prog w A R s h => by
    obtain ⟨hp, g, d, tk, os⟩ := s
    obtain ⟨hl, h⟩ := h
    have f1 := AutoSeq1.idx_int
    have c1 : (items.isEmpty || (1 : Int) == 1) = true := by simp
    wp_walk using wpAny_loadPart' hl
    repeat (first
      | (refine wpAny_ite_true (decide_eq_true (by rw [c1])) ?_; wp_walk using wpAny_loadPart' hl))
    exact ⟨_, rfl, h⟩
theorem tuple_mul0 (l : Addr) (items : Array Value) (n : Nat) (dd : Option Addr) (sl : Array (Option Value)) (u : Tok) (hi : items.isEmpty = false) :
    Meets (Builtin.«tuple.__mul__» ⟨[.ref l, .int 0 u], []⟩) (fun _ R s => s.heap.get? l = some { cls := .type "tuple", dict := dd, data := .seq items n, slots := sl } ∧
      R (.ok (.ret (Value.ref s.heap.objs.size))) { s with heap := s.heap.push { cls := Value.type "tuple", data := Data.seq #[] }, toks := s.toks }) :=
  .of_wp fun prog w A R s h => by
    obtain ⟨hp, g, d, tk, os⟩ := s
    obtain ⟨hl, h⟩ := h
    have f1 := AutoSeq1.idx_int
    have c1 : (items.isEmpty || (0 : Int) == 1) = false := by rw [hi]; rfl
    have c2 : (decide ((0 : Int) ≤ 0) || items.isEmpty) = true := by rfl
    wp_walk using wpAny_loadPart' hl
    repeat (first
      | (refine wpAny_ite_false (decide_eq_false (by rw [c1]; exact Bool.false_ne_true)) ?_; wp_walk using wpAny_loadPart' hl)
      | (refine wpAny_ite_true (decide_eq_true (by rw [c2])) ?_; wp_walk using wpAny_loadPart' hl))
    exact ⟨_, rfl, h⟩
def rRepT01 (K : PySem.W.Frag) : R2 := fun x y H Q => ∃ l k xs, x = .ref l ∧ y = .int k ∧ SqT K H l xs ∧ xs ≠ [] ∧ ((k = 1 ∧ Q (.ref l) H) ∨ (k = 0 ∧ ∀ p, H p = none → Q (.ref p) (upd H p (.tup []))))
section
variable {X : Cx}
theorem op_repT01 : OpR X (binaryOp .Mult) (rRepT01 X.K) := by
  intro pins s σ H x y v u Q I rx ry h
  obtain ⟨l, k, xs, rfl, rfl, hT, hne, q⟩ := h
  cases rx
  obtain ⟨t, rfl⟩ := ry
  obtain ⟨its, r, ⟨⟨cls, dd, data, sl⟩, ho, hc, n, hd⟩, hs⟩ := I.tuple hT
  simp only at hc hd
  subst hc hd
  have hle : its.length = xs.length := r.length.symm
  have hi : its.toArray.isEmpty = false := by
    cases its with
    | nil => exact absurd (List.eq_nil_of_length_eq_zero hle.symm) hne
    | cons a b => rfl
  rcases q with ⟨rfl, q⟩ | ⟨rfl, q⟩
  · refine wpAny_binaryOp_repeat_ref (T := "tuple") (U := "int") (by decide) ⟨_, ho, rfl⟩ (fun s' => typeIs_int s' 1 t) noFill_tuple_mul F.fills_int_mul F.slot_int_rmul repeat_tuple F.slot_int_index.lookup
      (call_meets F.slot_int_rmul (typeIs_int s 1 t) F.entry_int_rmul (F.args_int_rmul_2 _ _) (int_rmul_tuple 1 t l its.toArray n dd sl)
        ⟨ho, rfl, ⟨_, ho, rfl⟩, call_meets F.slot_tuple_mul ⟨_, ho, rfl⟩ F.entry_tuple_mul (F.args_tuple_mul_2 _ _) (tuple_mul1 l its.toArray n dd sl t) ⟨ho, ?_⟩⟩)
    exact ⟨.ref l, H, I, rfl, q⟩
  · refine wpAny_binaryOp_repeat_ref (T := "tuple") (U := "int") (by decide) ⟨_, ho, rfl⟩ (fun s' => typeIs_int s' 0 t) noFill_tuple_mul F.fills_int_mul F.slot_int_rmul repeat_tuple F.slot_int_index.lookup
      (call_meets F.slot_int_rmul (typeIs_int s 0 t) F.entry_int_rmul (F.args_int_rmul_2 _ _) (int_rmul_tuple 0 t l its.toArray n dd sl)
        ⟨ho, rfl, ⟨_, ho, rfl⟩, call_meets F.slot_tuple_mul ⟨_, ho, rfl⟩ F.entry_tuple_mul (F.args_tuple_mul_2 _ _) (tuple_mul0 l its.toArray n dd sl t hi) ⟨ho, ?_⟩⟩)
    refine ⟨.ref s.heap.objs.size, _, I.laid (t' := s.toks) (o := .tup []) (fun b ob q => Heap.get?_push_of_some _ q) (Nat.le_refl _) ?_, rfl, q _ (I.hok.fresh (Nat.le_refl _))⟩
    exact ⟨Nat.zero_le _, [], .nil, IsTup.new _ _⟩
end
end L2
end
section
set_option linter.all false
set_option autoImplicit false
set_option Elab.async false
set_option maxRecDepth 100000
set_option maxHeartbeats 2000000
namespace Rt
open PySem PySem.Spec PyProof.Rows L2
section
variable {fa ca : Nat → Addr} {X : Cx} {a b c e : Expr} {da db dc : Ex} {pos : Pos}
theorem wide_ok {i j : Int} (h : wideOk i j = true) : IntMulOk i j := by
  unfold wideOk at h
  simp only [Bool.or_eq_true, below_iff, decide_eq_true_eq] at h
  rcases h with (h | h) | h
  · exact CMul.ok (.inl (by omega))
  · exact CMul.ok (.inr (by omega))
  · exact CMulW.ok h
theorem ops_sub : OpS fa X (binaryOp .Sub) dSub := fun Z H x y d e r fr Q sz kx ky q k pins s σ v u I rx ry => by
  unfold dSub at q
  split at q <;> cases q
  have ex := kx.int; have ey := ky.int; subst ex ey
  exact op_sub pins s σ H _ _ v u Q I rx ry ⟨_, _, rfl, rfl, k _ _ newR_int⟩
theorem ops_mul : OpS fa X (binaryOp .Mult) dMul := fun Z H x y d e r fr Q sz kx ky q k pins s σ v u I rx ry => by
  unfold dMul at q
  split at q
  · split at q <;> cases q
    rename_i hw
    have ex := kx.int; have ey := ky.int; subst ex ey
    obtain ⟨t, rfl⟩ := rx
    obtain ⟨t', rfl⟩ := ry
    exact mul_int ⟨.int _, H, I.tok _, ⟨_, rfl⟩, k _ _ newR_int⟩ (wide_ok hw)
  · split at q <;> cases q
    rename_i hw
    simp only [Bool.and_eq_true, below_iff, decide_eq_true_eq] at hw
    obtain ⟨a, vs, rfl, h1, h2⟩ := kx
    have ey := ky.int; subst ey
    refine op_rep pins s σ H _ _ v u Q I rx ry ⟨a, _, vs, rfl, rfl, h1, by omega, by omega, by rw [← line_eq, ← h2.length]; exact hw.2, fun p np => k _ _ ?_⟩
    exact NewR.list np sz (h2.rep _)
  · split at q <;> cases q
    rename_i kk hw
    simp only [Bool.and_eq_true, nnI_iff, below_iff, decide_eq_true_eq, Bool.not_eq_true', List.isEmpty_eq_false_iff] at hw
    obtain ⟨⟨⟨w0, w1⟩, w2⟩, w3⟩ := hw
    have tx : Rep fa X.K Z (.tup _) _ := kx
    have kx' := tx
    simp only [Rep] at kx'
    obtain ⟨a, vs, rfl, h1, h2⟩ := kx'
    have ey := ky.int; subst ey
    have hl := h2.length
    have hne : vs ≠ [] := fun e => w2 (List.eq_nil_of_length_eq_zero (by rw [hl, e]; rfl))
    by_cases c2 : 2 ≤ kk
    · exact op_repT pins s σ H _ _ v u Q I rx ry ⟨a, _, vs, rfl, rfl, SqT.sub h1 sz, hne, c2, by omega, by omega, fun p np => k _ _ (NewR.tuple np sz (h2.rep _))⟩
    · refine op_repT01 pins s σ H _ _ v u Q I rx ry ⟨a, _, vs, rfl, rfl, SqT.sub h1 sz, hne, ?_⟩
      by_cases c1 : kk = 1
      · subst c1
        refine .inl ⟨rfl, k _ _ ?_⟩
        have e : ∀ l : List D, (List.replicate (1 : Int).toNat l).flatten = l := fun l => by show (List.replicate 1 l).flatten = l; simp
        rw [e]
        exact NewR.old tx sz
      · have c0 : kk = 0 := by omega
        subst c0
        exact .inr ⟨rfl, fun p np => k _ _ (NewR.tuple np sz (h2.rep _))⟩
  · cases q
theorem ops_div : OpS fa X (binaryOp .FloorDiv) dDiv := fun Z H x y d e r fr Q sz kx ky q k pins s σ v u I rx ry => by
  unfold dDiv at q
  split at q
  · split at q <;> cases q
    rename_i hw
    simp only [Bool.and_eq_true, Bool.or_eq_true, posI_iff, below_iff, decide_eq_true_eq] at hw
    have ex := kx.int; have ey := ky.int; subst ex ey
    refine op_fdivW pins s σ H _ _ v u Q I rx ry ⟨_, _, rfl, rfl, ?_, k _ _ newR_int⟩
    rcases hw.2 with h | h
    · exact wide_div (b := 64) hw.1 (by omega) (by decide) (by decide)
    · exact ⟨hw.1, h⟩
  · cases q
theorem ops_mod : OpS fa X (binaryOp .Mod) dMod := fun Z H x y d e r fr Q sz kx ky q k pins s σ v u I rx ry => by
  unfold dMod at q
  split at q
  · split at q <;> cases q
    rename_i hw
    have ex := kx.int; have ey := ky.int; subst ex ey
    exact op_mod pins s σ H _ _ v u Q I rx ry ⟨_, _, rfl, rfl, hw, k _ _ newR_int⟩
  · cases q
theorem ops_pow : OpS fa X (binaryOp .Pow) dPow := fun Z H x y d e r fr Q sz kx ky q k pins s σ v u I rx ry => by
  unfold dPow at q
  split at q
  · split at q <;> cases q
    rename_i hw
    simp only [Bool.and_eq_true, nnI_iff, below_iff] at hw
    have ex := kx.int; have ey := ky.int; subst ex ey
    exact op_pow pins s σ H _ _ v u Q I rx ry ⟨_, _, rfl, rfl, ⟨by omega, by omega, by omega⟩, k _ _ newR_int⟩
  · cases q
theorem RR.int {N : Addr → Prop} {H H' : Hp} {σ : L2.St} {E : Env} {K : PySem.W.Frag} {i : Int} : RR fa K N H H' σ E (.int i) ⟨.int i, .fz, []⟩ := by show Rep fa K (hide H' (del N σ [])) (.int i) _; simp [Rep]
theorem RR.bl {N : Addr → Prop} {H H' : Hp} {σ : L2.St} {E : Env} {K : PySem.W.Frag} {i : Bool} : RR fa K N H H' σ E (.bl i) ⟨.bl i, .fz, []⟩ := by show Rep fa K (hide H' (del N σ [])) (.bl i) _; simp [Rep]
theorem snd_neg (ha : Snd fa ca X a da) : Snd fa ca X (.UnaryOp .USub a pos) (xNeg da) := fun W tk N H σ E Q s p => by
  refine of_pe (pe_un un_neg (peE (e := a))) ?_
  refine ha.bd tk s (Sub.refl _) p fun r x H1 e1 g1 r1 p1 => ?_
  have k1 := r1.kid s g1
  cases q : r.d <;> simp only [q] at p1 <;> try exact p1.elim
  rw [q] at k1
  exact ⟨_, k1.int, p1 _ H1 g1 RR.int⟩

/-! ### comparisons -/
def CmpS (fa : Nat → Addr) (X : Cx) (op : CmpOp) (o : Cop) : Prop :=
  ∀ (Z H : Hp) (x y : V) (d e : D) (k : Bool) (Q : VK), Sub Z H → Kid fa X.K Z H x d → Kid fa X.K Z H y e → cmpD o d e = some k → Q (.bl k) H →
    ∀ (pins : List (Addr × Obj)) (s : Shared) (σ : L2.St) (v u : Value), Inv X pins σ H s → RelV x v → RelV y u → wpAny (model X.prog X.w) X.A (compareOp op v u) (EP X pins σ Q) X.xe s
mutual
theorem sameP_eq : ∀ a b : PyData, sameP a b = true → a = b
  | .none, b, h => by cases b <;> simp [sameP] at h ⊢
  | .bool x, b, h => by cases b <;> simp [sameP] at h ⊢; exact h
  | .int x, b, h => by cases b <;> simp [sameP] at h ⊢; exact h
  | .str x, b, h => by cases b <;> simp [sameP] at h ⊢; exact h
  | .list xs, b, h => by
    cases b <;> simp [sameP] at h ⊢
    exact samePL_eq _ _ h
  | .tuple xs, b, h => by
    cases b <;> simp [sameP] at h ⊢
    exact samePL_eq _ _ h
  | .dict xs, b, h => by cases b <;> simp [sameP] at h
theorem samePL_eq : ∀ a b : List PyData, samePL a b = true → a = b
  | [], b, h => by cases b <;> simp [samePL] at h ⊢
  | x :: xs, b, h => by
    cases b with
    | nil => simp [samePL] at h
    | cons y ys =>
      simp only [samePL, Bool.and_eq_true] at h
      rw [sameP_eq x y h.1, samePL_eq xs ys h.2]
end
theorem zip_maps {α β : Type} : ∀ {a b : List (α × β)}, a.map (·.1) = b.map (·.1) → a.map (·.2) = b.map (·.2) → a = b
  | [], [], _, _ => rfl
  | [], y :: b, h, _ => by cases h
  | x :: a, [], h, _ => by cases h
  | (x1, x2) :: a, (y1, y2) :: b, h, k => by
    simp only [List.map_cons, List.cons.injEq] at h k
    rw [h.1, k.1, zip_maps h.2 k.2]
theorem same_eq {a b : PyData} (h : (sameP a b || sameD a b) = true) : a = b := by
  rw [Bool.or_eq_true] at h
  rcases h with h | h
  · exact sameP_eq _ _ h
  · unfold sameD at h
    split at h
    · rw [Bool.and_eq_true] at h
      rw [zip_maps (samePL_eq _ _ h.1) (samePL_eq _ _ h.2)]
    · cases h
theorem eqs {n : Nat} (hr : Room n X.A) : ∀ (Z H : Hp) (x y : V) (d e : D) (k : Bool), Sub Z H → Kid fa X.K Z H x d → Kid fa X.K Z H y e → dEq d e = some k →
    (scal x y = true ∧ decide (x = y) = k) ∨ (∃ p q, Dp X.K H x p ∧ Dp X.K H y q ∧ p.plain = true ∧ q.plain = true ∧ min p.depth q.depth ≤ 60 ∧ PyData.eqv p q = k) := fun Z H x y d e k sz kx ky q => by
  have gen : (if okEq d.py e.py then some (PyData.eqv d.py e.py) else none) = some k →
      (∃ p q, Dp X.K H x p ∧ Dp X.K H y q ∧ p.plain = true ∧ q.plain = true ∧ min p.depth q.depth ≤ 60 ∧ PyData.eqv p q = k) := fun q => by
    split at q <;> cases q
    rename_i h
    simp only [okEq, Bool.and_eq_true, Bool.or_eq_true, decide_eq_true_eq] at h
    refine ⟨d.py, e.py, Rep.dp _ _ (kx.rep sz) h.1.1, Rep.dp _ _ (ky.rep sz) h.1.2, h.1.1, h.1.2, ?_, rfl⟩
    rcases h.2 with z | z
    · exact Nat.le_trans (Nat.min_le_left _ _) z
    · exact Nat.le_trans (Nat.min_le_right _ _) z
  unfold dEq at q
  split at q
  · cases q
    have ex := kx.int; have ey := ky.int; subst ex ey
    exact .inl ⟨rfl, by simp⟩
  · cases q
    have ex := kx.str; have ey := ky.str; subst ex ey
    exact .inl ⟨rfl, by simp⟩
  · cases q
    have ex := kx.bl; have ey := ky.bl; subst ex ey
    exact .inl ⟨rfl, by rename_i i j; cases i <;> cases j <;> rfl⟩
  · split at q <;> cases q
    rename_i h
    have ex := kx.rp; have ey := ky.rp; subst ex ey
    rw [same_eq h]
    exact .inl ⟨rfl, by simp⟩
  · exact .inr (gen q)
theorem cmp_eq {n : Nat} (hr : Room n X.A) : CmpS fa X .Eq .eq := fun Z H x y d e k Q sz kx ky q hq pins s σ v u I rx ry => by
  rcases eqs hr Z H x y d e k sz kx ky q with ⟨h1, h2⟩ | ⟨p, p', h1, h2, h3, h4, h5, h6⟩
  · exact op_eq pins s σ H x y v u Q I rx ry ⟨h1, by rw [h2]; exact hq⟩
  · obtain ⟨as, r1⟩ := Dp.reads I p x v h1 rx
    obtain ⟨bs, r2⟩ := Dp.reads I p' y u h2 ry
    refine PySem.SeqAt.eq_plain r1 r2 h3 h4 (by have := hr.units; omega) ?_
    rw [h6]
    exact ⟨.bl k, H, I, rfl, hq⟩
theorem cmp_ne {n : Nat} (hr : Room n X.A) : CmpS fa X .NotEq .ne := fun Z H x y d e k Q sz kx ky q hq pins s σ v u I rx ry => by
  have q' : (dEq d e).map not = some k := q
  obtain ⟨k', q2, rfl⟩ := Option.map_eq_some_iff.mp q'
  rcases eqs hr Z H x y d e k' sz kx ky q2 with ⟨h1, h2⟩ | ⟨p, p', h1, h2, h3, h4, h5, h6⟩
  · exact op_ne pins s σ H x y v u Q I rx ry ⟨h1, by rw [h2]; exact hq⟩
  · obtain ⟨as, r1⟩ := Dp.reads I p x v h1 rx
    obtain ⟨bs, r2⟩ := Dp.reads I p' y u h2 ry
    refine PySem.SeqAt.ne_plain r1 r2 h3 h4 (by have := hr.units; omega) ?_
    rw [h6]
    exact ⟨.bl _, H, I, rfl, hq⟩
theorem keyD_same : ∀ {k : Key} {d : D}, sameKey (keyD k) d = true ↔ d = keyD k
  | .inl i, d => by
    cases d <;> simp [sameKey, keyD]
    exact eq_comm
  | .inr x, d => by
    cases d <;> simp [sameKey, keyD]
    exact eq_comm
theorem isKey_is {d : D} (h : isKey d = true) : ∃ k : Key, d = keyD k := by
  cases d with
  | int i => exact ⟨.inl i, rfl⟩
  | str x => exact ⟨.inr x, rfl⟩
  | _ => exact absurd h (by simp [isKey])
theorem keyD_inj {k j : Key} (h : keyD k = keyD j) : k = j := by
  cases k <;> cases j <;> simp [keyD] at h <;> rw [h]
theorem Kid.key {K : PySem.W.Frag} {Z H : Hp} {x : V} : ∀ {k : Key}, Kid fa K Z H x (keyD k) → x = kV k
  | .inl i, h => h.int
  | .inr x, h => h.str
theorem valV_some {k : Key} : ∀ kvs : List (Key × V), (valV kvs k).isSome = ((kvs.map fun p => keyD p.1).any fun q => sameKey q (keyD k))
  | [] => rfl
  | p :: kvs => by
    rw [List.map_cons, List.any_cons, ← valV_some kvs]
    by_cases c : p.1 = k
    · rw [valV_pos c, keyD_same.mpr (by rw [c])]; rfl
    · have : sameKey (keyD p.1) (keyD k) = false := by
        cases q : sameKey (keyD p.1) (keyD k) with
        | false => rfl
        | true => exact absurd (keyD_inj (keyD_same.mp q)).symm c
      rw [valV_neg c, this]; rfl
theorem insD {Z H : Hp} {x y : V} {d : D} {ks vs : List D} {k : Bool} (kx : Kid fa X.K Z H x d) (ky : Kid fa X.K Z H y (.dct ks vs)) (q : dIn d (.dct ks vs) = some k) : ∃ a o, y = .ref a ∧ DGet H a x o ∧ o.isSome = k := by
  have q' : (if isKey d then some (ks.any fun j => sameKey j d) else none) = some k := q
  split at q'
  case isFalse => cases q'
  rename_i hk
  cases q'
  obtain ⟨key, rfl⟩ := isKey_is hk
  obtain ⟨a, kvs, rfl, h1, rfl, _⟩ := ky
  have ex := kx.key
  subst ex
  exact ⟨a, valV kvs key, rfl, DGet.k h1, valV_some kvs⟩
theorem ins {n : Nat} (hr : Room n X.A) : ∀ (Z H : Hp) (x y : V) (d e : D) (k : Bool), (∀ ks vs, e ≠ .dct ks vs) → Sub Z H → Kid fa X.K Z H x d → Kid fa X.K Z H y e → dIn d e = some k →
    ∃ ys, (e = .lst ys ∨ e = .tup ys) ∧ Dp X.K H x d.py ∧ Dp X.K H y e.py ∧ d.py.plain = true ∧ PyData.plainAll (D.pyL ys) = true ∧ min (PyData.depthAll (D.pyL ys)) d.py.depth ≤ 59 ∧ ((D.pyL ys).any fun z => PyData.eqv z d.py) = k := fun Z H x y d e k nd sz kx ky q => by
  have gen : ∀ ys, (e = .lst ys ∨ e = .tup ys) → (if okIn d ys then some ((D.pyL ys).any fun z => PyData.eqv z d.py) else none) = some k → Dp X.K H x d.py ∧ Dp X.K H y e.py ∧ d.py.plain = true ∧ PyData.plainAll (D.pyL ys) = true ∧ min (PyData.depthAll (D.pyL ys)) d.py.depth ≤ 59 ∧ ((D.pyL ys).any fun z => PyData.eqv z d.py) = k := fun ys he q => by
    split at q <;> cases q
    rename_i h
    simp only [okIn, Bool.and_eq_true, Bool.or_eq_true, decide_eq_true_eq] at h
    refine ⟨Rep.dp _ _ (kx.rep sz) h.1.1, Rep.dp _ _ (ky.rep sz) ?_, h.1.1, h.1.2, ?_, rfl⟩
    · rcases he with rfl | rfl <;> simpa [D.py, PyData.plain] using h.1.2
    · rcases h.2 with z | z
      · exact Nat.le_trans (Nat.min_le_left _ _) z
      · exact Nat.le_trans (Nat.min_le_right _ _) z
  unfold dIn at q
  split at q
  · exact absurd rfl (nd _ _)
  · exact ⟨_, .inl rfl, gen _ (.inl rfl) q⟩
  · exact ⟨_, .inr rfl, gen _ (.inr rfl) q⟩
  · cases q
theorem cmp_in {n : Nat} (hr : Room n X.A) : CmpS fa X .In .inn := fun Z H x y d e k Q sz kx ky q hq pins s σ v u I rx ry => by
  by_cases hd : ∃ ks vs, e = .dct ks vs
  · obtain ⟨ks, vs, rfl⟩ := hd
    obtain ⟨a, o, rfl, g, rfl⟩ := insD kx ky q
    cases ry
    exact d_in (by have := hr.units; omega) I g rx fun s' I' => ⟨.bl o.isSome, H, I', rfl, hq⟩
  obtain ⟨ys, he, h1, h2, h3, h4, h5, h6⟩ := ins hr Z H x y d e k (fun ks vs z => hd ⟨ks, vs, z⟩) sz kx ky q
  obtain ⟨as, r1⟩ := Dp.reads I _ x v h1 rx
  obtain ⟨bs, r2⟩ := Dp.reads I _ y u h2 ry
  have hu := hr.units
  rcases he with rfl | rfl
  · refine PySem.SeqAt.in_list_data (by simpa only [D.py] using r2) r1 h4 h3 (by omega) ?_
    rw [h6]
    exact ⟨.bl k, H, I, rfl, hq⟩
  · refine PySem.SeqAt.in_tuple_data (by simpa only [D.py] using r2) r1 h4 h3 (by omega) ?_
    rw [h6]
    exact ⟨.bl k, H, I, rfl, hq⟩
theorem cmp_nin {n : Nat} (hr : Room n X.A) : CmpS fa X .NotIn .nin := fun Z H x y d e k Q sz kx ky q hq pins s σ v u I rx ry => by
  have q' : (dIn d e).map not = some k := q
  obtain ⟨k', q2, rfl⟩ := Option.map_eq_some_iff.mp q'
  by_cases hd : ∃ ks vs, e = .dct ks vs
  · obtain ⟨ks, vs, rfl⟩ := hd
    obtain ⟨a, o, rfl, g, rfl⟩ := insD kx ky q2
    cases ry
    exact d_notIn (by have := hr.units; omega) I g rx fun s' I' => ⟨.bl (!o.isSome), H, I', rfl, hq⟩
  obtain ⟨ys, he, h1, h2, h3, h4, h5, h6⟩ := ins hr Z H x y d e k' (fun ks vs z => hd ⟨ks, vs, z⟩) sz kx ky q2
  obtain ⟨as, r1⟩ := Dp.reads I _ x v h1 rx
  obtain ⟨bs, r2⟩ := Dp.reads I _ y u h2 ry
  have hu := hr.units
  rcases he with rfl | rfl
  · refine PySem.SeqAt.notIn_list_data (by simpa only [D.py] using r2) r1 h4 h3 (by omega) ?_
    rw [h6]
    exact ⟨.bl _, H, I, rfl, hq⟩
  · refine PySem.SeqAt.notIn_tuple_data (by simpa only [D.py] using r2) r1 h4 h3 (by omega) ?_
    rw [h6]
    exact ⟨.bl _, H, I, rfl, hq⟩
theorem lt_cases {d e : D} {k : Bool} (h : dLt d e = some k) : ∃ i j, d = .int i ∧ e = .int j ∧ k = decide (i < j) := by
  unfold dLt at h
  split at h <;> cases h
  exact ⟨_, _, rfl, rfl, rfl⟩
theorem le_cases {d e : D} {k : Bool} (h : dLe d e = some k) : ∃ i j, d = .int i ∧ e = .int j ∧ k = decide (i ≤ j) := by
  unfold dLe at h
  split at h <;> cases h
  exact ⟨_, _, rfl, rfl, rfl⟩
theorem cmp_lt : CmpS fa X .Lt .lt := fun Z H x y d e k Q sz kx ky q hq pins s σ v u I rx ry => by
  obtain ⟨i, j, rfl, rfl, rfl⟩ := lt_cases q
  have ex := kx.int; have ey := ky.int; subst ex ey
  exact op_lt pins s σ H _ _ v u Q I rx ry ⟨_, _, rfl, rfl, hq⟩
theorem cmp_gt : CmpS fa X .Gt .gt := fun Z H x y d e k Q sz kx ky q hq pins s σ v u I rx ry => by
  obtain ⟨i, j, rfl, rfl, rfl⟩ := lt_cases q
  have ex := kx.int; have ey := ky.int; subst ex ey
  exact op_gt pins s σ H _ _ v u Q I rx ry ⟨_, _, rfl, rfl, hq⟩
theorem cmp_le : CmpS fa X .LtE .le := fun Z H x y d e k Q sz kx ky q hq pins s σ v u I rx ry => by
  obtain ⟨i, j, rfl, rfl, rfl⟩ := le_cases q
  have ex := kx.int; have ey := ky.int; subst ex ey
  exact op_le pins s σ H _ _ v u Q I rx ry ⟨_, _, rfl, rfl, hq⟩
theorem cmp_ge : CmpS fa X .GtE .ge := fun Z H x y d e k Q sz kx ky q hq pins s σ v u I rx ry => by
  obtain ⟨i, j, rfl, rfl, rfl⟩ := le_cases q
  have ex := kx.int; have ey := ky.int; subst ex ey
  exact op_ge pins s σ H _ _ v u Q I rx ry ⟨_, _, rfl, rfl, hq⟩
theorem Kid.non {Z H : Hp} {x : V} {d : D} {K : PySem.W.Frag} (h : Kid fa K Z H x d) : decide (x = .non) = d.isNon := by
  cases d <;> simp only [Kid, Rep] at h
  · subst h; rfl
  · subst h; rfl
  · subst h; rfl
  · subst h; rfl
  · obtain ⟨a, _, rfl, _⟩ := h; rfl
  · obtain ⟨a, _, rfl, _⟩ := h; rfl
  · obtain ⟨a, _, rfl, _⟩ := h; rfl
  · subst h; rfl
  · subst h; rfl
  · obtain ⟨a, rfl, _⟩ := h; rfl
theorem is_cases {d e : D} {k : Bool} (h : dIs d e = some k) : (e = .non ∧ k = d.isNon) ∨ ∃ a b, d = .bl a ∧ e = .bl b ∧ k = (a == b) := by
  unfold dIs at h
  split at h <;> cases h
  · exact .inl ⟨rfl, rfl⟩
  · exact .inr ⟨_, _, rfl, rfl, rfl⟩
theorem cmp_is : CmpS fa X .Is .is := fun Z H x y d e k Q sz kx ky q hq pins s σ v u I rx ry => by
  rcases is_cases q with ⟨rfl, rfl⟩ | ⟨i, j, rfl, rfl, rfl⟩
  · have ey : y = .non := by simpa [Kid, Rep] using ky
    subst ey
    exact op_isN pins s σ H _ _ v u Q I rx ry ⟨rfl, by rw [kx.non]; exact hq⟩
  · have ex := kx.bl; have ey := ky.bl; subst ex ey
    refine op_is_bl pins s σ H _ _ v u Q I rx ry ⟨_, _, rfl, rfl, ?_⟩
    have z : decide (i = j) = (i == j) := by cases i <;> cases j <;> rfl
    rw [z]; exact hq
theorem cmp_isn : CmpS fa X .IsNot .isn := fun Z H x y d e k Q sz kx ky q hq pins s σ v u I rx ry => by
  have q' : (dIs d e).map not = some k := q
  obtain ⟨k', q2, rfl⟩ := Option.map_eq_some_iff.mp q'
  rcases is_cases q2 with ⟨rfl, rfl⟩ | ⟨i, j, rfl, rfl, rfl⟩
  · have ey : y = .non := by simpa [Kid, Rep] using ky
    subst ey
    exact op_notN pins s σ H _ _ v u Q I rx ry ⟨rfl, by rw [kx.non]; exact hq⟩
  · have ex := kx.bl; have ey := ky.bl; subst ex ey
    refine op_isnot_bl pins s σ H _ _ v u Q I rx ry ⟨_, _, rfl, rfl, ?_⟩
    have z : decide (i = j) = (i == j) := by cases i <;> cases j <;> rfl
    rw [z]; exact hq

theorem snd_cmp {op : CmpOp} {o : Cop} (ho : CmpS fa X op o) (ha : Snd fa ca X a da) (hb : Snd fa ca X b db) (hm : behindInMarks op b = false) : Snd fa ca X (.Compare a [op] [b] pos) (xCmp o da db) := fun W tk N H σ E Q s p => by
  refine of_pe (pe_cmpR (r := fun x y H' Q' => ∀ (pins : List (Addr × Obj)) (s : Shared) (σ : L2.St) (v u : Value), Inv X pins σ H' s → RelV x v → RelV y u → wpAny (model X.prog X.w) X.A (compareOp op v u) (EP X pins σ Q') X.xe s)
    (fun pins s σ H x y v u Q I rx ry h => h pins s σ v u I rx ry) (peE (e := a)) (peE (e := b)) hm) ?_
  show tE X a σ H _
  refine ha.bd tk s (Sub.refl _) p fun r x H1 e1 g1 r1 p1 => ?_
  refine hb.bd tk (s.grow g1) g1 p1 fun r' y H2 e2 g2 r2 p2 => ?_
  have k1 := (r1.kid s g1).sub (hide_mono g2 fun b o _ n => n) g2
  have k2 := r2.kid (s.grow g1) g2
  have g12 := g1.trans g2
  cases q : cmpD o r.d r'.d with
  | none => simp only [q] at p2; exact p2.elim
  | some z =>
    simp only [q] at p2
    exact ho (hide H2 (del N σ (r.kc ++ r'.kc))) H2 x y r.d r'.d z _ hide_sub (k1.sub (hide_dep mem_app_l) (Sub.refl _)) (k2.sub (hide_dep mem_app_r) (Sub.refl _)) q (p2 _ H2 g12 RR.bl)
theorem sndT_cmp {op : CmpOp} {o : Cop} (ho : CmpS fa X op o) (ha : Snd fa ca X a da) (hb : Snd fa ca X b db) (hm : behindInMarks op b = false) : SndT fa ca X (.Compare a [op] [b] pos) (tOf (xCmp o da db)) := fun W tk N H σ E Q s p => by
  refine of_pt (pt_cmpR (r := fun x y H' Q' => ∀ (pins : List (Addr × Obj)) (s : Shared) (σ : L2.St) (v u : Value), Inv X pins σ H' s → RelV x v → RelV y u → wpAny (model X.prog X.w) X.A (compareOp op v u) (EP X pins σ Q') X.xe s)
    (fun pins s σ H x y v u Q I rx ry h => h pins s σ v u I rx ry) (peE (e := a)) (peE (e := b)) hm) ?_
  show tE X a σ H _
  unfold tOf xCmp at p
  simp only [R.bd_assoc] at p
  refine ha.bd tk s (Sub.refl _) p fun r x H1 e1 g1 r1 p1 => ?_
  refine hb.bd tk (s.grow g1) g1 p1 fun r' y H2 e2 g2 r2 p2 => ?_
  have k1 := (r1.kid s g1).sub (hide_mono g2 fun b o _ n => n) g2
  have k2 := r2.kid (s.grow g1) g2
  have g12 := g1.trans g2
  cases q : cmpD o r.d r'.d with
  | none => simp only [q] at p2; exact p2.elim
  | some z =>
    simp only [q] at p2
    exact ho (hide H2 (del N σ (r.kc ++ r'.kc))) H2 x y r.d r'.d z _ hide_sub (k1.sub (hide_dep mem_app_l) (Sub.refl _)) (k2.sub (hide_dep mem_app_r) (Sub.refl _)) q ⟨z, rfl, p2 H2 g12⟩
end
end Rt
end
section
set_option linter.all false
set_option autoImplicit false
set_option Elab.async false
set_option maxRecDepth 100000
set_option maxHeartbeats 2000000
namespace Rt
open PySem PySem.Spec PyProof.Rows L2
section
variable {fa ca : Nat → Addr} {X : Cx} {a b c e : Expr} {da db dc : Ex} {ta tb tc : Tst} {pos : Pos}
/-! ### truth -/
theorem Kid.tru {K : PySem.W.Frag} {Z H : Hp} {x : V} {d : D} {k : Bool} (sz : Sub Z H) (h : Kid fa K Z H x d) (q : truth d = some k) : TruV K x H k := by
  cases d <;> simp only [truth, Option.some.injEq, reduceCtorEq] at q
  · subst q; have e : x = .non := by simpa [Kid, Rep] using h
    subst e; rfl
  · subst q; have e := h.bl; subst e; rfl
  · subst q; have e := h.int; subst e; rfl
  · split at q <;> cases q
    have e := h.str; subst e
    rename_i hl
    refine ⟨by rw [← line_eq]; exact hl, ?_⟩
    rename_i z
    by_cases q : z.length = 0
    · simp [q]
    · have : ((z.length : Int) != 0) = true := by simp; omega
      rw [this]; simp [q]
  · subst q
    obtain ⟨a, vs, rfl, h1, h2⟩ := h
    refine .inl ⟨vs, SqL.of h1, ?_⟩
    have l := h2.length
    rename_i ds
    cases ds <;> cases vs <;> simp at l ⊢
  · subst q
    have h' : Rep fa K Z (.tup _) _ := h
    simp only [Rep] at h'
    obtain ⟨a, vs, rfl, h1, h2⟩ := h'
    refine .inr (.inl ⟨vs, SqT.sub h1 sz, ?_⟩)
    have l := h2.length
    rename_i ds
    cases ds <;> cases vs <;> simp at l ⊢
/-- a test that is a value's truth -/
theorem sndT_val (ha : Snd fa ca X a da) (he : ∀ whole, isTrue a X.env whole = (do let v ← whole; standAt a.pos; holding [v] (truthy v))) : SndT fa ca X a (tOf da) := fun W tk N H σ E Q s p => by
  refine of_pt (pt_truth (peE (e := a)) he) ?_
  refine ha.bd tk s (Sub.refl _) p fun r x H1 e1 g1 r1 p1 => ?_
  have k1 := r1.kid s g1
  cases q : truth r.d with
  | none => simp only [q] at p1; exact p1.elim
  | some k =>
    simp only [q] at p1
    exact ⟨k, k1.tru hide_sub q, p1 H1 g1⟩
theorem sndT_not (ha : SndT fa ca X a ta) : SndT fa ca X (.UnaryOp .Not a pos) (tNot ta) := fun W tk N H σ E Q s p => by
  refine of_pt (pt_not (ptT (e := a))) ?_
  exact ha.bd tk s (Sub.refl _) p fun r H1 e1 g1 p1 => p1 H1 g1
/-- tests joined by and, or: whatever the whole is -/
def tW (X : Cx) (e : Expr) : TT := fun σ H Q => ∀ (whole : Sem Value) (pins : List (Addr × Obj)) (s : Shared), Inv X pins σ H s → wpAny (model X.prog X.w) X.A (isTrue e X.env whole) (TP X pins σ Q) X.xe s
theorem pwW : PW X e (tW X e) := ⟨fun whole pins s σ H Q I h => h whole pins s I⟩
def SndW (fa ca : Nat → Addr) (X : Cx) (e : Expr) (f : Tst) : Prop := ∀ (W : WX), Takes X W → ∀ (N : Addr → Prop) (H : Hp) (σ : L2.St) (E : Env) (Q : Bool → Hp → Prop), SR fa X.K N H σ E →
  Post ca W H σ (fun k => ∀ H', Sub H H' → Q k H') (f E) → tW X e σ H Q
theorem SndW.t (h : SndW fa ca X e ta) : SndT fa ca X e ta := fun W tk N H σ E Q s p => fun pins st I => h W tk N H σ E Q s p _ pins st I
theorem SndW.bd {β : Type} {P : β → Prop} {W : WX} {N : Addr → Prop} {H0 H : Hp} {σ : L2.St} {E : Env} {dt : Tst} {k : Bool → R β} {Q : Bool → Hp → Prop} (ha : SndW fa ca X a dt) (tk : Takes X W) (s : SR fa X.K N H σ E) (g : Sub H0 H)
    (h : Post ca W H0 σ P ((dt E).bd k)) (hk : ∀ r H1, dt E = .ok r → Sub H H1 → Post ca W H0 σ P (k r) → Q r H1) : tW X a σ H Q := by
  refine ha W tk N H σ E Q s ?_
  cases q : dt E with
  | ok r => rw [q] at h; exact fun H1 g1 => hk r H1 q g1 h
  | ex c x => rw [q] at h; exact fun dd H' g' ed => h dd H' (g.trans g') (ed.from g)
  | bad => rw [q] at h; exact h.elim
theorem sndW_and1 (ha : SndT fa ca X a ta) : SndW fa ca X (.BoolOp .And [a] pos) ta := fun W tk N H σ E Q s p => fun whole pins st I =>
  (pw_and1 (pos := pos) (ptT (e := a))).run whole pins st σ H Q I (ha W tk N H σ E Q s p)
theorem sndW_or1 (ha : SndT fa ca X a ta) : SndW fa ca X (.BoolOp .Or [a] pos) ta := fun W tk N H σ E Q s p => fun whole pins st I =>
  (pw_or1 (pos := pos) (ptT (e := a))).run whole pins st σ H Q I (ha W tk N H σ E Q s p)
theorem sndW_and {rest : List Expr} (ha : SndT fa ca X a ta) (hb : SndW fa ca X (.BoolOp .And (b :: rest) pos) tb) : SndW fa ca X (.BoolOp .And (a :: b :: rest) pos) (tAnd ta tb) := fun W tk N H σ E Q s p => fun whole pins st I => by
  refine (pw_and (ptT (e := a)) (pwW (e := .BoolOp .And (b :: rest) pos))).run whole pins st σ H Q I ?_
  refine ha.bd tk s (Sub.refl _) p fun r H1 e1 g1 p1 => ?_
  cases r with
  | true =>
    simp only [if_true] at p1 ⊢
    refine hb W tk N H1 σ E Q (s.grow g1) ?_
    cases q : tb E with
    | ok r => rw [q] at p1; exact fun H2 g2 => p1 H2 (g1.trans g2)
    | ex c x => rw [q] at p1; exact fun dd H' g' ed => p1 dd H' (g1.trans g') (ed.from g1)
    | bad => rw [q] at p1; exact p1.elim
  | false => exact p1 H1 g1
theorem sndW_or {rest : List Expr} (ha : SndT fa ca X a ta) (hb : SndW fa ca X (.BoolOp .Or (b :: rest) pos) tb) : SndW fa ca X (.BoolOp .Or (a :: b :: rest) pos) (tOr ta tb) := fun W tk N H σ E Q s p => fun whole pins st I => by
  refine (pw_or (ptT (e := a)) (pwW (e := .BoolOp .Or (b :: rest) pos))).run whole pins st σ H Q I ?_
  refine ha.bd tk s (Sub.refl _) p fun r H1 e1 g1 p1 => ?_
  cases r with
  | false =>
    simp only [Bool.false_eq_true, if_false] at p1 ⊢
    refine hb W tk N H1 σ E Q (s.grow g1) ?_
    cases q : tb E with
    | ok r => rw [q] at p1; exact fun H2 g2 => p1 H2 (g1.trans g2)
    | ex c x => rw [q] at p1; exact fun dd H' g' ed => p1 dd H' (g1.trans g') (ed.from g1)
    | bad => rw [q] at p1; exact p1.elim
  | true => exact p1 H1 g1
/-- behind a first step the second is asked from the later heap -/
theorem Post.later {W : WX} {H H1 : Hp} {σ : L2.St} {β : Type} {P P' : β → Prop} {r : R β} (g : Sub H H1) (p : Post ca W H σ P r) (k : ∀ b, r = .ok b → P b → P' b) : Post ca W H1 σ P' r := by
  cases r with
  | ok r => exact k _ rfl p
  | ex c x => exact fun dd H' g' ed => p dd H' (g.trans g') (ed.from g)
  | bad => exact p.elim
theorem snd_not (ha : Snd fa ca X a da) : Snd fa ca X (.UnaryOp .Not a pos) (xNot da) := fun W tk N H σ E Q s p => by
  refine of_pe (pe_notT (peE (e := a))) ?_
  refine ha.bd tk s (Sub.refl _) p fun r x H1 e1 g1 r1 p1 => ?_
  have k1 := r1.kid s g1
  cases q : truth r.d with
  | none => simp only [q] at p1; exact p1.elim
  | some k =>
    simp only [q] at p1
    exact ⟨k, k1.tru hide_sub q, p1 _ H1 g1 RR.bl⟩
theorem snd_one {op : BoolOp} (ha : Snd fa ca X a da) : Snd fa ca X (.BoolOp op [a] pos) da := fun W tk N H σ E Q s p => of_pe (pe_one (peE (e := a))) (ha W tk N H σ E Q s p)
theorem snd_and {rest : List Expr} (ha : Snd fa ca X a da) (hb : Snd fa ca X (.BoolOp .And (b :: rest) pos) db) : Snd fa ca X (.BoolOp .And (a :: b :: rest) pos) (xAnd da db) := fun W tk N H σ E Q s p => by
  refine of_pe (pe_andT (peE (e := a)) (peE (e := .BoolOp .And (b :: rest) pos))) ?_
  refine ha.bd tk s (Sub.refl _) p fun r x H1 e1 g1 r1 p1 => ?_
  have k1 := r1.kid s g1
  cases q : truth r.d with
  | none => simp only [q] at p1; exact p1.elim
  | some k =>
    refine ⟨k, k1.tru hide_sub q, ?_⟩
    cases k with
    | true =>
      simp only [q] at p1
      simp only [if_true]
      exact hb W tk N H1 σ E Q (s.grow g1) (p1.later g1 fun r _ h v H2 g2 rr => h v H2 (g1.trans g2) (rr.from g1))
    | false =>
      simp only [q] at p1
      simp only [Bool.false_eq_true, if_false]
      exact p1 x H1 g1 r1
theorem snd_or {rest : List Expr} (ha : Snd fa ca X a da) (hb : Snd fa ca X (.BoolOp .Or (b :: rest) pos) db) : Snd fa ca X (.BoolOp .Or (a :: b :: rest) pos) (xOr da db) := fun W tk N H σ E Q s p => by
  refine of_pe (pe_orT (peE (e := a)) (peE (e := .BoolOp .Or (b :: rest) pos))) ?_
  refine ha.bd tk s (Sub.refl _) p fun r x H1 e1 g1 r1 p1 => ?_
  have k1 := r1.kid s g1
  cases q : truth r.d with
  | none => simp only [q] at p1; exact p1.elim
  | some k =>
    refine ⟨k, k1.tru hide_sub q, ?_⟩
    cases k with
    | false =>
      simp only [q] at p1
      simp only [Bool.false_eq_true, if_false]
      exact hb W tk N H1 σ E Q (s.grow g1) (p1.later g1 fun r _ h v H2 g2 rr => h v H2 (g1.trans g2) (rr.from g1))
    | true =>
      simp only [q] at p1
      simp only [if_true]
      exact p1 x H1 g1 r1
theorem snd_if (hc : SndT fa ca X c tc) (ha : Snd fa ca X a da) (hb : Snd fa ca X b db) : Snd fa ca X (.IfExp c a b pos) (xIf tc da db) := fun W tk N H σ E Q s p => by
  refine of_pe (pe_ifExp (ptT (e := c)) (peE (e := a)) (peE (e := b))) ?_
  refine hc.bd tk s (Sub.refl _) p fun r H1 e1 g1 p1 => ?_
  cases r with
  | true =>
    simp only [if_true] at p1 ⊢
    exact ha W tk N H1 σ E Q (s.grow g1) (p1.later g1 fun r _ h v H2 g2 rr => h v H2 (g1.trans g2) (rr.from g1))
  | false =>
    simp only [Bool.false_eq_true, if_false] at p1 ⊢
    exact hb W tk N H1 σ E Q (s.grow g1) (p1.later g1 fun r _ h v H2 g2 rr => h v H2 (g1.trans g2) (rr.from g1))

/-! ### chains of comparisons -/
/-- each link with what it compares by -/
inductive Links (fa ca : Nat → Addr) (X : Cx) : List CmpOp → List Expr → List (Cop × Ex) → Prop
  | nil : Links fa ca X [] [] []
  | cons {op : CmpOp} {o : Cop} {e : Expr} {f : Ex} {ops : List CmpOp} {es : List Expr} {l : List (Cop × Ex)} : CmpS fa X op o → Snd fa ca X e f → Links fa ca X ops es l → Links fa ca X (op :: ops) (e :: es) ((o, f) :: l)
theorem links_chain : ∀ (l : List (Cop × Ex)) {ops : List CmpOp} {es : List Expr}, Links fa ca X ops es l → ∀ (r : Rv) (v : V) (u : Value) (W : WX), Takes X W → ∀ (N : Addr → Prop) (H0 H : Hp) (σ : L2.St) (E : Env) (Q : VK), SR fa X.K N H0 σ E → Sub H0 H → RR fa X.K N H0 H σ E v r → RelV v u →
    Post ca W H0 σ (fun r => ∀ v H', Sub H0 H' → RR fa X.K N H0 H' σ E v r → Q v H') (chainGo r l E) →
    ∀ (pins : List (Addr × Obj)) (s : Shared), Inv X pins σ H s → wpAny (model X.prog X.w) X.A (compareChain pos u ops (evalEach es X.env)) (EP X pins σ Q) X.xe s
  | [], _, _, h, r, v, u, W, tk, N, H0, H, σ, E, Q, s0, g, rr, rv, p, pins, s, I => p.elim
  | (o, f) :: l, _, _, h, r, v, u, W, tk, N, H0, H, σ, E, Q, s0, g, rr, rv, p, pins, s, I => by
    cases h with
    | @cons op _ e _ ops es _ ho hf hl =>
      have p' : Post ca W H0 σ (fun r => ∀ v H', Sub H0 H' → RR fa X.K N H0 H' σ E v r → Q v H') ((f E).bd fun s => match cmpD o r.d s.d with
          | some k => linkK l k (chainGo s l E)
          | none => .bad) := p
      cases hl with
      | nil =>
        show wpAny _ _ (compareChain pos u [op] [eval e X.env]) _ _ _
        refine chain_last ?_
        refine thn (hf.bd (Q := fun y H1 => ∃ r' k, Sub H H1 ∧ RR fa X.K N H0 H1 σ E y r' ∧ cmpD o r.d r'.d = some k ∧ Q (.bl k) H1) tk (s0.grow g) g p' (fun r' y H1 e1 g1 r1 p1 => ?_) pins s I) fun u1 s1 ⟨y, H1, I1, ry, r', k, g1, r1, q1, q2⟩ => ?_
        · have r1' := r1.from g
          cases q : cmpD o r.d r'.d with
          | none => simp only [q] at p1; exact p1.elim
          | some k =>
            simp only [q] at p1
            exact ⟨r', k, g1, r1', q, p1 _ H1 (g.trans g1) RR.bl⟩
        · have k1 := (rr.kid s0 g).sub (hide_mono g1 fun b o _ n => n) g1
          have k2 := r1.kid s0 (g.trans g1)
          exact ho (hide H1 (del N σ (r.kc ++ r'.kc))) H1 v y r.d r'.d k Q hide_sub (k1.sub (hide_dep mem_app_l) (Sub.refl _)) (k2.sub (hide_dep mem_app_r) (Sub.refl _)) q1 q2 pins s1 σ u u1 I1 rv ry
      | @cons op' o' e' f' ops' es' l' ho' hf' hl' =>
        show wpAny _ _ (compareChain pos u (op :: op' :: ops') (eval e X.env :: eval e' X.env :: evalEach es' X.env)) _ _ _
        refine chain_link ?_
        refine thn (hf.bd (Q := fun y H1 => ∃ r' k, Sub H H1 ∧ RR fa X.K N H0 H1 σ E y r' ∧ cmpD o r.d r'.d = some k ∧
            Post ca W H0 σ (fun r => ∀ v H', Sub H0 H' → RR fa X.K N H0 H' σ E v r → Q v H') (match k with | true => chainGo r' ((o', f') :: l') E | false => .ok ⟨.bl false, .fz, []⟩)) tk (s0.grow g) g p' (fun r' y H1 e1 g1 r1 p1 => ?_) pins s I) fun u1 s1 ⟨y, H1, I1, ry, r', k, g1, r1, q1, q2⟩ => ?_
        · have r1' := r1.from g
          cases q : cmpD o r.d r'.d with
          | none => simp only [q] at p1; exact p1.elim
          | some k =>
            simp only [q] at p1
            exact ⟨r', k, g1, r1', q, by cases k <;> exact p1⟩
        · have k1 := (rr.kid s0 g).sub (hide_mono g1 fun b o _ n => n) g1
          have k2 := r1.kid s0 (g.trans g1)
          refine thn (ho (hide H1 (del N σ (r.kc ++ r'.kc))) H1 v y r.d r'.d k (fun z H2 => z = .bl k ∧ H2 = H1) hide_sub (k1.sub (hide_dep mem_app_l) (Sub.refl _)) (k2.sub (hide_dep mem_app_r) (Sub.refl _)) q1 ⟨rfl, rfl⟩ pins s1 σ u u1 I1 rv ry) fun c s2 ⟨z, H2, I2, rz, e1, e2⟩ => ?_
          subst e1 e2
          cases rz
          refine wpAny_truthy_bool ?_
          cases k with
          | false => exact ite_ff ⟨.bl false, _, I2, rfl, q2 _ _ (g.trans g1) RR.bl⟩
          | true => exact ite_tt (links_chain ((o', f') :: l') (.cons ho' hf' hl') r' y u1 W tk N H0 _ σ E Q s0 (g.trans g1) r1 ry q2 pins s2 I2)
theorem snd_chain {op op' : CmpOp} {ops : List CmpOp} {es : List Expr} {l : List (Cop × Ex)} (ha : Snd fa ca X a da) (hl : Links fa ca X (op :: op' :: ops) (b :: c :: es) l) (hm : lastMarks (op :: op' :: ops) (b :: c :: es) = false) :
    Snd fa ca X (.Compare a (op :: op' :: ops) (b :: c :: es) pos) (xChain da l) := fun W tk N H σ E Q s p pins st I => by
  refine Compare_chain ?_ hm
  refine thn (ha.bd (Q := fun x H1 => ∃ r, Sub H H1 ∧ RR fa X.K N H H1 σ E x r ∧ Post ca W H σ (fun r => ∀ v H', Sub H H' → RR fa X.K N H H' σ E v r → Q v H') (chainGo r l E)) tk s (Sub.refl _) p (fun r x H1 e1 g1 r1 p1 => ⟨r, g1, r1, p1⟩) pins st I) fun u s1 ⟨x, H1, I1, rx, r, g1, r1, p1⟩ => ?_
  exact links_chain l hl r x u W tk N H H1 σ E Q s g1 r1 rx p1 pins s1 I1
theorem links_test : ∀ (l : List (Cop × Ex)) {ops : List CmpOp} {es : List Expr}, Links fa ca X ops es l → ∀ (r : Rv) (v : V) (u : Value) (W : WX), Takes X W → ∀ (N : Addr → Prop) (H0 H : Hp) (σ : L2.St) (E : Env) (Q : Bool → Hp → Prop), SR fa X.K N H0 σ E → Sub H0 H → RR fa X.K N H0 H σ E v r → RelV v u →
    Post ca W H0 σ (fun k => ∀ H', Sub H0 H' → Q k H') ((chainGo r l E).bd fun r => R.op (truth r.d)) →
    ∀ (pins : List (Addr × Obj)) (s : Shared), Inv X pins σ H s → wpAny (model X.prog X.w) X.A (testChain pos u ops (evalEach es X.env)) (TP X pins σ Q) X.xe s
  | [], _, _, h, r, v, u, W, tk, N, H0, H, σ, E, Q, s0, g, rr, rv, p, pins, s, I => p.elim
  | (o, f) :: l, _, _, h, r, v, u, W, tk, N, H0, H, σ, E, Q, s0, g, rr, rv, p, pins, s, I => by
    cases h with
    | @cons op _ e _ ops es _ ho hf hl =>
      have p' : Post ca W H0 σ (fun k => ∀ H', Sub H0 H' → Q k H') ((f E).bd fun s => (match cmpD o r.d s.d with
          | some k => linkK l k (chainGo s l E)
          | none => .bad).bd fun r => R.op (truth r.d)) := by
        have q := p
        unfold chainGo at q
        rw [R.bd_assoc] at q
        exact q
      cases hl with
      | nil =>
        show wpAny _ _ (testChain pos u [op] [eval e X.env]) _ _ _
        refine test_last ?_
        refine thn (hf.bd (Q := fun y H1 => ∃ r' k, Sub H H1 ∧ RR fa X.K N H0 H1 σ E y r' ∧ cmpD o r.d r'.d = some k ∧ Q k H1) tk (s0.grow g) g p' (fun r' y H1 e1 g1 r1 p1 => ?_) pins s I) fun u1 s1 ⟨y, H1, I1, ry, r', k, g1, r1, q1, q2⟩ => ?_
        · have r1' := r1.from g
          cases q : cmpD o r.d r'.d with
          | none => simp only [q] at p1; exact p1.elim
          | some k =>
            simp only [q] at p1
            exact ⟨r', k, g1, r1', q, p1 H1 (g.trans g1)⟩
        · have k1 := (rr.kid s0 g).sub (hide_mono g1 fun b o _ n => n) g1
          have k2 := r1.kid s0 (g.trans g1)
          refine thn (ho (hide H1 (del N σ (r.kc ++ r'.kc))) H1 v y r.d r'.d k (fun z H2 => z = .bl k ∧ H2 = H1) hide_sub (k1.sub (hide_dep mem_app_l) (Sub.refl _)) (k2.sub (hide_dep mem_app_r) (Sub.refl _)) q1 ⟨rfl, rfl⟩ pins s1 σ u u1 I1 rv ry) fun c s2 ⟨z, H2, I2, rz, e1, e2⟩ => ?_
          subst e1 e2
          cases rz
          exact wpAny_truthy_bool ⟨_, I2, q2⟩
      | @cons op' o' e' f' ops' es' l' ho' hf' hl' =>
        show wpAny _ _ (testChain pos u (op :: op' :: ops') (eval e X.env :: eval e' X.env :: evalEach es' X.env)) _ _ _
        refine test_link ?_
        refine thn (hf.bd (Q := fun y H1 => ∃ r' k, Sub H H1 ∧ RR fa X.K N H0 H1 σ E y r' ∧ cmpD o r.d r'.d = some k ∧
            Post ca W H0 σ (fun k => ∀ H', Sub H0 H' → Q k H') (match k with | true => (chainGo r' ((o', f') :: l') E).bd fun r => R.op (truth r.d) | false => .ok false)) tk (s0.grow g) g p' (fun r' y H1 e1 g1 r1 p1 => ?_) pins s I) fun u1 s1 ⟨y, H1, I1, ry, r', k, g1, r1, q1, q2⟩ => ?_
        · have r1' := r1.from g
          cases q : cmpD o r.d r'.d with
          | none => simp only [q] at p1; exact p1.elim
          | some k =>
            simp only [q] at p1
            exact ⟨r', k, g1, r1', q, by cases k <;> exact p1⟩
        · have k1 := (rr.kid s0 g).sub (hide_mono g1 fun b o _ n => n) g1
          have k2 := r1.kid s0 (g.trans g1)
          refine thn (ho (hide H1 (del N σ (r.kc ++ r'.kc))) H1 v y r.d r'.d k (fun z H2 => z = .bl k ∧ H2 = H1) hide_sub (k1.sub (hide_dep mem_app_l) (Sub.refl _)) (k2.sub (hide_dep mem_app_r) (Sub.refl _)) q1 ⟨rfl, rfl⟩ pins s1 σ u u1 I1 rv ry) fun c s2 ⟨z, H2, I2, rz, e1, e2⟩ => ?_
          subst e1 e2
          cases rz
          refine wpAny_truthy_bool ?_
          cases k with
          | false => exact ite_ff ⟨_, I2, q2 _ (g.trans g1)⟩
          | true => exact ite_tt (links_test ((o', f') :: l') (.cons ho' hf' hl') r' y u1 W tk N H0 _ σ E Q s0 (g.trans g1) r1 ry q2 pins s2 I2)
theorem sndT_chain {op op' : CmpOp} {ops : List CmpOp} {es : List Expr} {l : List (Cop × Ex)} (ha : Snd fa ca X a da) (hl : Links fa ca X (op :: op' :: ops) (b :: c :: es) l) (hm : lastMarks (op :: op' :: ops) (b :: c :: es) = false) :
    SndT fa ca X (.Compare a (op :: op' :: ops) (b :: c :: es) pos) (tOf (xChain da l)) := fun W tk N H σ E Q s p pins st I => by
  refine isTrue_chain ?_ hm
  have p' : Post ca W H σ (fun k => ∀ H', Sub H H' → Q k H') ((da E).bd fun r => (chainGo r l E).bd fun r => R.op (truth r.d)) := by
    unfold tOf xChain at p
    rw [R.bd_assoc] at p
    exact p
  refine thn (ha.bd (Q := fun x H1 => ∃ r, Sub H H1 ∧ RR fa X.K N H H1 σ E x r ∧ Post ca W H σ (fun k => ∀ H', Sub H H' → Q k H') ((chainGo r l E).bd fun r => R.op (truth r.d))) tk s (Sub.refl _) p' (fun r x H1 e1 g1 r1 p1 => ⟨r, g1, r1, p1⟩) pins st I) fun u s1 ⟨x, H1, I1, rx, r, g1, r1, p1⟩ => ?_
  exact links_test l hl r x u W tk N H H1 σ E Q s g1 r1 rx p1 pins s1 I1
end
end Rt
end
section
set_option linter.all false
set_option autoImplicit false
set_option Elab.async false
set_option maxRecDepth 100000
set_option maxHeartbeats 2000000
namespace Rt
open PySem PySem.Spec PyProof.Rows L2
def notStar : Expr → Bool
  | .Starred _ _ => false
  | _ => true
theorem star_cons {e : Expr} {es : List Expr} {env : PySem.Env} (h : notStar e = true) : starEach (e :: es) env = (false, eval e env) :: starEach es env := by
  cases e <;> first | rfl | exact absurd h (by simp [notStar])
theorem noStar_any {pos : Pos} {env : PySem.Env} : ∀ {es : List Expr}, es.all notStar = true → (backTo pos (starEach es env)).any (·.1) = false
  | [], _ => rfl
  | e :: es, h => by
    simp only [List.all_cons, Bool.and_eq_true] at h
    rw [star_cons h.1]
    have ih := noStar_any (pos := pos) (env := env) h.2
    unfold backTo at ih ⊢
    simp only [List.map_cons, List.any_cons, Bool.false_or]
    exact ih
section
variable {fa ca : Nat → Addr} {X : Cx} {a b c e : Expr} {da db dc : Ex} {ta tb tc : Tst} {pos : Pos}
/-! ### argument lists, displays -/
theorem RRL.grow {N : Addr → Prop} {H H' H2 : Hp} {σ : L2.St} {E : Env} : ∀ {rs : List Rv} {vs : List V}, RRL fa X N H H' σ E vs rs → Sub H' H2 → RRL fa X N H H2 σ E vs rs
  | [], _, h, _ => h
  | r :: rs, vs, h, g => by
    obtain ⟨v, us, e, h1, h2⟩ := h
    exact ⟨v, us, e, h1.grow g, RRL.grow h2 g⟩
theorem RRL.from {N : Addr → Prop} {H H' H2 : Hp} {σ : L2.St} {E : Env} (g : Sub H H') : ∀ {rs : List Rv} {vs : List V}, RRL fa X N H' H2 σ E vs rs → RRL fa X N H H2 σ E vs rs
  | [], _, h => h
  | r :: rs, vs, h => by
    obtain ⟨v, us, e, h1, h2⟩ := h
    exact ⟨v, us, e, h1.from g, RRL.from g h2⟩
theorem sndA_nil : SndA fa ca X [] [] := fun W tk N H σ E Q s p => of_pa pa_nil (p [] H (Sub.refl _) rfl)
theorem sndA_cons {es : List Expr} {fs : List Ex} (hs : notStar e = true) (ha : Snd fa ca X e da) (hr : SndA fa ca X es fs) : SndA fa ca X (e :: es) (da :: fs) := fun W tk N H σ E Q s p => by
  refine of_pa (pa_cons (peE (e := e)) (paA (es := es)) (star_cons hs)) ?_
  unfold evs at p
  refine ha.bd tk s (Sub.refl _) p fun r x H1 e1 g1 r1 p1 => ?_
  refine hr.bd tk (s.grow g1) g1 p1 fun rs xs H2 e2 g2 r2 p2 => ?_
  exact p2 (x :: xs) H2 (g1.trans g2) ⟨x, xs, rfl, r1.grow g2, r2.from g1⟩
theorem rrl_all {N : Addr → Prop} {H H' : Hp} {σ : L2.St} {E : Env} (s : SR fa X.K N H σ E) (g : Sub H H') : ∀ {rs : List Rv} {vs : List V} (q : List Nat), RRL fa X N H H' σ E vs rs → (∀ i ∈ kpL rs, i ∈ q) → RepL fa X.K (hide H' (del N σ q)) (dL rs) vs
  | [], _, q, h, _ => by simp only [RRL] at h; subst h; simp [dL, RepL]
  | r :: rs, vs, q, h, k => by
    obtain ⟨v, us, e, h1, h2⟩ := h
    subst e
    refine RepL.cons_ (Rep.sub (hide_dep fun i hi => k i ?_) _ _ (h1.all s g)) (rrl_all s g q h2 fun i hi => k i ?_)
    · simp only [kpL, List.map_cons, List.flatten_cons, List.mem_append]; exact .inl hi
    · simp only [kpL, List.map_cons, List.flatten_cons, List.mem_append]; exact .inr hi
theorem sndD_nil : SndD fa ca X [] [] := fun W tk N H σ E Q s p => of_pa pa_nil (p [] H (Sub.refl _) (by simp [RepL]))
theorem sndD_cons {es : List Expr} {fs : List (Bool × Ex)} (hs : notStar e = true) (ha : Snd fa ca X e da) (hr : SndD fa ca X es fs) : SndD fa ca X (e :: es) ((false, da) :: fs) := fun W tk N H σ E Q s p => by
  refine of_pa (pa_cons (peE (e := e)) (paA (es := es)) (star_cons hs)) ?_
  unfold spread at p
  refine ha.bd tk s (Sub.refl _) p fun r x H1 e1 g1 r1 p1 => ?_
  refine hr.bd tk (s.grow g1) g1 p1 fun q xs H2 e2 g2 r2 p2 => ?_
  refine p2 (x :: xs) H2 (g1.trans g2) (RepL.cons_ ?_ (RepL.sub (hide_dep mem_app_r) _ _ r2))
  exact Rep.sub (fun b o q => hide_mono g2 (fun b o _ n => del_anti mem_app_l n) b o q) _ _ (r1.all s g1)
theorem sndD_star {es : List Expr} {fs : List (Bool × Ex)} {p0 : Pos} (ha : Snd fa ca X e da) (hr : SndD fa ca X es fs) : SndD fa ca X (.Starred e p0 :: es) ((true, da) :: fs) := fun W tk N H σ E Q s p => by
  refine of_pa (StX.pa_star (peE (e := e)) (paA (es := es))) ?_
  unfold spread at p
  refine ha.bd tk s (Sub.refl _) p fun r x H1 e1 g1 r1 p1 => ?_
  have k1 := r1.kid s g1
  revert p1 k1
  cases hd : r.d <;> intro p1 k1 <;> simp only [] at p1 <;> try exact p1.elim
  · obtain ⟨a, vs, rfl, h1, h2⟩ := k1
    refine ⟨a, vs, rfl, .inr (SqL.of h1), ?_⟩
    refine hr.bd tk (s.grow g1) g1 p1 fun q xs H2 e2 g2 r2 p2 => ?_
    exact p2 (vs ++ xs) H2 (g1.trans g2) (RepL.append (RepL.sub (hide_mono g2 fun b o _ n => del_anti mem_app_l n) _ _ h2) (RepL.sub (hide_dep mem_app_r) _ _ r2))
  · have k2 : Rep fa X.K _ (.tup _) x := k1
    simp only [Rep] at k2
    obtain ⟨a, vs, rfl, h1, h2⟩ := k2
    refine ⟨a, vs, rfl, .inl (SqT.sub h1 hide_sub), ?_⟩
    refine hr.bd tk (s.grow g1) g1 p1 fun q xs H2 e2 g2 r2 p2 => ?_
    exact p2 (vs ++ xs) H2 (g1.trans g2) (RepL.append (RepL.sub (hide_mono g2 fun b o _ n => del_anti mem_app_l n) _ _ h2) (RepL.sub (hide_dep mem_app_r) _ _ r2))
theorem snd_lst {es : List Expr} {fs : List (Bool × Ex)} (h : SndD fa ca X es fs) : Snd fa ca X (.List es pos) (xLst fs) := fun W tk N H σ E Q s p => by
  refine of_pe (pe_lst (paA (es := es))) ?_
  refine h.bd tk s (Sub.refl _) p fun q xs H1 e1 g1 r1 p1 => ?_
  split at p1
  · rename_i hl
    refine ⟨by rw [← line_eq, ← r1.length]; exact hl, fun l nl => p1 _ _ (g1.trans (sub_upd nl)) ?_⟩
    exact rr_mkN s (g1.trans (sub_upd nl)) (g1.none nl) ⟨xs, upd_same, RepL.sub (fun b o z => by
      have ne : b ≠ l := ne_of_none z (Sub.none hide_sub nl)
      unfold hide at z ⊢
      split at z
      · cases z
      · rename_i n
        rw [if_neg fun w => w.elim n ne, upd_ne ne]
        exact z) _ _ r1⟩
  · exact p1.elim
theorem snd_tup {es : List Expr} {fs : List (Bool × Ex)} {k : Nat} (h : SndD fa ca X es fs) : Snd fa ca X (.Tuple es k pos) (xTup fs) := fun W tk N H σ E Q s p => by
  refine of_pe (pe_tup (paA (es := es))) ?_
  refine h.bd tk s (Sub.refl _) p fun q xs H1 e1 g1 r1 p1 => ?_
  split at p1
  · rename_i hl
    refine ⟨by rw [← line_eq, ← r1.length]; exact hl, fun l nl => p1 _ _ (g1.trans (sub_upd nl)) ?_⟩
    refine rr_mkF s (g1.trans (sub_upd nl)) ?_
    simp only [Rep]
    refine ⟨l, xs, rfl, SqT.of ?_, RepL.sub (hide_mono (sub_upd nl) fun b o _ n => n) _ _ r1⟩
    rw [hide_at fun n => ?_, upd_same]
    obtain ⟨o, z, _⟩ := s.sub l n.1
    rw [g1.none nl] at z; cases z
  · exact p1.elim

/-! ### calls of the text's own defs -/
/-- what a def hands back: U is hidden from it -/
def RetR (fa : Nat → Addr) (K : PySem.W.Frag) (U : Addr → Prop) (H H' : Hp) (v : V) (d : D) : Bool → Prop
  | false => Rep fa K (hide H' U) d v
  | true => ∃ a, v = .ref a ∧ H a = none ∧ Top fa K (hide H' fun b => U b ∨ b = a) H' a d
/-- the def at f may be called -/
structure CallS (fa ca : Nat → Addr) (X : Cx) (f : Addr) (F : Fn) : Prop where
  keep : PySem.W.keepIn X.K (.ref f) = true
  run : ∀ (W : WX), Takes X W → ∀ (pins : List (Addr × Obj)) (s : Shared) (σ : L2.St) (H : Hp) (vs : List V) (us : List Value) (Q : VK) (U : Addr → Prop) (ds : List D), Inv X pins σ H s → Vals vs us →
    (∀ b, U b → ∃ o, H b = some o ∧ Mb o) → RepL fa X.K (hide H U) ds vs → Post ca W H σ (fun p => ∀ v H', Sub H H' → RetR fa X.K U H H' v p.1 p.2 → Q v H') (F ds) →
    wpAny (model X.prog X.w) X.A (call (.ref f) us) (EP X pins σ Q) X.xe s
theorem call_args {f : Addr} {F : Fn} (hS : CallS fa ca X f F) {W : WX} (tk : Takes X W) {N : Addr → Prop} {H H1 : Hp} {σ : L2.St} {E : Env} {Q : VK} (s : SR fa X.K N H σ E) (g : Sub H H1) {rs : List Rv} {vs : List V} (r : RRL fa X N H H1 σ E vs rs)
    (p : Post ca W H σ (fun r => ∀ v H', Sub H H' → RR fa X.K N H H' σ E v r → Q v H') ((F (dL rs)).bd fun p => .ok (mk p.2 p.1 (kpL rs))))
    {pins : List (Addr × Obj)} {st : Shared} {us : List Value} (I : Inv X pins σ H1 st) (rv : Vals vs us) : wpAny (model X.prog X.w) X.A (call (.ref f) us) (EP X pins σ Q) X.xe st := by
  have mb : ∀ b, del N σ (kpL rs) b → ∃ o, H1 b = some o ∧ Mb o := fun b n => by
    obtain ⟨o, e, m⟩ := s.sub b n.1
    exact ⟨o, g _ _ e, m⟩
  refine hS.run W tk pins st σ H1 vs us Q (del N σ (kpL rs)) (dL rs) I rv mb (rrl_all s g _ r fun i h => h) ?_
  cases q : F (dL rs) with
  | ok pr =>
    obtain ⟨d, fr⟩ := pr
    rw [q] at p
    refine fun v H' g' rr => p v H' (g.trans g') ?_
    cases fr with
    | false => exact rr_mkF s (g.trans g') rr
    | true =>
      obtain ⟨a, rfl, n, t⟩ := rr
      exact rr_mkN s (g.trans g') (g.none n) t
  | ex c x => rw [q] at p; exact fun dd H' g' ed => p dd H' (g.trans g') (ed.from g)
  | bad => rw [q] at p; exact p.elim
/-- the value of an expression is called -/
theorem snd_callW {f : Addr} {F : Fn} {es : List Expr} {fs : List Ex} (hS : CallS fa ca X f F) (ha : SndA fa ca X es fs) (hst : es.all notStar = true) (hne : es ≠ []) {W : WX} (tk : Takes X W) {N : Addr → Prop} {H0 H : Hp} {σ : L2.St} {E : Env} {Q : VK} (s : SR fa X.K N H0 σ E) (g : Sub H0 H)
    (p : Post ca W H0 σ (fun r => ∀ v H', Sub H0 H' → RR fa X.K N H0 H' σ E v r → Q v H') (xCall F fs E)) {pins : List (Addr × Obj)} {st : Shared} (I : Inv X pins σ H st) :
    wpAny (model X.prog X.w) X.A (callWith pos (.ref f) [] (backTo pos (starEach es X.env)) []) (EP X pins σ Q) X.xe st := by
  unfold xCall at p
  have step : tA X es σ H fun vs H1 => ∃ rs, Sub H0 H1 ∧ RRL fa X N H0 H1 σ E vs rs ∧ Post ca W H0 σ (fun r => ∀ v H', Sub H0 H' → RR fa X.K N H0 H' σ E v r → Q v H') ((F (dL rs)).bd fun p => .ok (mk p.2 p.1 (kpL rs))) :=
    ha.bd tk (s.grow g) g p fun rs vs H1 e1 g1 r1 p1 => ⟨rs, g.trans g1, r1.from g, p1⟩
  cases es with
  | nil => exact absurd rfl hne
  | cons e es =>
    simp only [List.all_cons, Bool.and_eq_true] at hst
    refine PySem.W.callWith_K (h₀ := X.base) I.ok.mod.kin hS.keep (thn (step pos pins st I) fun us s1 ⟨vs, H1, I1, rv, rs, g1, r1, p1⟩ => ⟨I1.kIn, ?_⟩) (star_cons hst.1) (noStar_any hst.2)
    exact call_args hS tk s g1 r1 p1 I1 rv
theorem snd_callW0 {f : Addr} {F : Fn} (hS : CallS fa ca X f F) {W : WX} (tk : Takes X W) {N : Addr → Prop} {H0 H : Hp} {σ : L2.St} {E : Env} {Q : VK} (s : SR fa X.K N H0 σ E) (g : Sub H0 H)
    (p : Post ca W H0 σ (fun r => ∀ v H', Sub H0 H' → RR fa X.K N H0 H' σ E v r → Q v H') (xCall F [] E)) {pins : List (Addr × Obj)} {st : Shared} (I : Inv X pins σ H st) :
    wpAny (model X.prog X.w) X.A (callWith pos (.ref f) [] (backTo pos (starEach [] X.env)) []) (EP X pins σ Q) X.xe st :=
  PySem.W.callWith_K0 I.kIn hS.keep (call_args hS tk s g (rs := []) (vs := []) rfl p I .nil)
/-- f(..), f a def of the text -/
theorem snd_call {f : Addr} {F : Fn} {x : Str} {p0 : Pos} {es : List Expr} {fs : List Ex} (hS : CallS fa ca X f F) (hg : Gl X x) (hm : X.mg x = some (.ref f)) (hdb : (x == ("__debug__" : Str)) = false) (ha : SndA fa ca X es fs) (hst : es.all notStar = true) (hne : es ≠ []) :
    Snd fa ca X (.Call (.Name x p0) es [] pos) (xCall F fs) := fun W tk N H σ E Q s p pins st I => by
  refine wpAny_Call_Name_kw (ld_glob I hg hm ?_ hdb)
  exact snd_callW hS ha hst hne tk s (Sub.refl _) p I
theorem snd_call0 {f : Addr} {F : Fn} {x : Str} {p0 : Pos} (hS : CallS fa ca X f F) (hg : Gl X x) (hm : X.mg x = some (.ref f)) (hdb : (x == ("__debug__" : Str)) = false) :
    Snd fa ca X (.Call (.Name x p0) [] [] pos) (xCall F []) := fun W tk N H σ E Q s p pins st I => by
  refine wpAny_Call_Name_kw (ld_glob I hg hm ?_ hdb)
  exact snd_callW0 hS tk s (Sub.refl _) p I
/-- the value of e(..) where e is no name and no field -/
theorem snd_callV {n : Nat} {call_ : Nat → Fn} {es : List Expr} {fs : List Ex} (hS : ∀ i, i < n → CallS fa ca X (fa i) (call_ i)) (hg : Snd fa ca X e da) (ha : SndA fa ca X es fs) (hst : es.all notStar = true) (hne : es ≠ [])
    (he : eval (.Call e es [] pos) X.env = (do callWith pos (← eval e X.env) [] (backTo pos (starEach es X.env)) (backToKw pos (keywordEach [] X.env)))) :
    Snd fa ca X (.Call e es [] pos) (xCallV n call_ da fs) := fun W tk N H σ E Q s p pins st I => by
  refine Call_ ?_ he
  unfold xCallV at p
  refine thn (hg.bd (Q := fun v H1 => ∃ i, i < n ∧ v = .ref (fa i) ∧ Sub H H1 ∧ Post ca W H σ (fun r => ∀ v H', Sub H H' → RR fa X.K N H H' σ E v r → Q v H') (xCall (call_ i) fs E)) tk s (Sub.refl _) p (fun r x H1 e1 g1 r1 p1 => ?_) pins st I) fun u s1 ⟨x, H1, I1, rx, i, lt, ei, g1, p1⟩ => ?_
  · have k1 := r1.kid s g1
    revert p1 k1
    cases r.d <;> intro p1 k1 <;> simp only [] at p1 <;> try exact p1.elim
    split at p1
    · rename_i lt
      exact ⟨_, lt, by simpa [Kid, Rep] using k1, g1, p1⟩
    · exact p1.elim
  · subst ei
    cases rx
    exact snd_callW (hS i lt) ha hst hne tk s g1 p1 I1
end
end Rt
end
section
set_option linter.all false
set_option autoImplicit false
set_option Elab.async false
set_option maxRecDepth 100000
set_option maxHeartbeats 2000000
namespace Rt
open PySem PySem.Spec PyProof.Rows L2
section
variable {fa ca : Nat → Addr} {X : Cx} {a b c e : Expr} {da db dc : Ex} {ta tb tc : Tst} {pos : Pos}
/-! ### built-ins by values -/
def KidL (fa : Nat → Addr) (K : PySem.W.Frag) (Z H : Hp) : List V → List D → Prop
  | vs, [] => vs = []
  | vs, d :: ds => ∃ v us, vs = v :: us ∧ Kid fa K Z H v d ∧ KidL fa K Z H us ds
def BiS (fa : Nat → Addr) (X : Cx) (g : Value) (f : List D → Option (D × Bool)) : Prop :=
  ∀ (Z H : Hp) (vs : List V) (ds : List D) (r : D) (fr : Bool) (Q : VK), Sub Z H → KidL fa X.K Z H vs ds → f ds = some (r, fr) → (∀ z H2, NewR fa X.K Z H H2 fr r z → Q z H2) →
    ∀ (pins : List (Addr × Obj)) (s : Shared) (σ : L2.St) (us : List Value), Inv X pins σ H s → Vals vs us → wpAny (model X.prog X.w) X.A (call g us) (EP X pins σ Q) X.xe s
theorem rrl_kid {N : Addr → Prop} {H H' : Hp} {σ : L2.St} {E : Env} (s : SR fa X.K N H σ E) (g : Sub H H') : ∀ {rs : List Rv} {vs : List V} (q : List Nat), RRL fa X N H H' σ E vs rs → (∀ i ∈ kcL rs, i ∈ q) → KidL fa X.K (hide H' (del N σ q)) H' vs (dL rs)
  | [], _, q, h, _ => h
  | r :: rs, vs, q, h, k => by
    obtain ⟨v, us, e, h1, h2⟩ := h
    refine ⟨v, us, e, (h1.kid s g).sub (hide_dep fun i hi => k i ?_) (Sub.refl _), rrl_kid s g q h2 fun i hi => k i ?_⟩
    · simp only [kcL, List.map_cons, List.flatten_cons, List.mem_append]; exact .inl hi
    · simp only [kcL, List.map_cons, List.flatten_cons, List.mem_append]; exact .inr hi
/-- a call whose function is a built-in value -/
theorem snd_biG {g : Value} {f : List D → Option (D × Bool)} {x : Str} {p0 : Pos} {es : List Expr} {fs : List Ex} (hb : BiS fa X g f)
    (rule : ∀ {t : TA}, PA X es t → PE X (.Call (.Name x p0) es [] pos) (tCB (fun vs H' Q' => ∀ (pins : List (Addr × Obj)) (s : Shared) (σ : L2.St) (us : List Value), Inv X pins σ H' s → Vals vs us → wpAny (model X.prog X.w) X.A (call g us) (EP X pins σ Q') X.xe s) t))
    (ha : SndA fa ca X es fs) : Snd fa ca X (.Call (.Name x p0) es [] pos) (xBi f fs) := fun W tk N H σ E Q s p => by
  refine of_pe (rule (paA (es := es))) ?_
  unfold xBi at p
  refine ha.bd tk s (Sub.refl _) p fun rs vs H1 e1 g1 r1 p1 => ?_
  cases q : f (dL rs) with
  | none => simp only [q] at p1; exact p1.elim
  | some z =>
    obtain ⟨d, fr⟩ := z
    simp only [q] at p1
    exact hb (hide H1 (del N σ (kcL rs))) H1 vs (dL rs) d fr _ hide_sub (rrl_kid s g1 _ r1 fun i h => h) q fun z H2 nr => p1 z H2 (g1.trans nr.1) (nr.rr s g1)
theorem snd_bi {id : String} {f : List D → Option (D × Bool)} {x : Str} {p0 : Pos} {es : List Expr} {fs : List Ex} (hb : BiS fa X (.builtin id) f) (hg : Gl X x) (hm : X.mg x = none) (hv : bootBuiltins x = some (.builtin id)) (hn : x ≠ "__name__") (hdb : (x == ("__debug__" : Str)) = false)
    (ha : SndA fa ca X es fs) (hst : es.all notStar = true) (hne : es ≠ []) : Snd fa ca X (.Call (.Name x p0) es [] pos) (xBi f fs) := by
  cases es with
  | nil => exact absurd rfl hne
  | cons e es =>
    simp only [List.all_cons, Bool.and_eq_true] at hst
    exact snd_biG hb (fun h => pe_callB (fun pins s σ H xs us Q I r q => q pins s σ us I r) hg hm hv h hn hdb (star_cons hst.1) (noStar_any hst.2)) ha
theorem snd_biT {id : String} {f : List D → Option (D × Bool)} {x : Str} {p0 : Pos} {es : List Expr} {fs : List Ex} (hb : BiS fa X (.type id) f) (hg : Gl X x) (hm : X.mg x = none) (hv : bootBuiltins x = some (.type id)) (hn : x ≠ "__name__") (hdb : (x == ("__debug__" : Str)) = false)
    (ha : SndA fa ca X es fs) (hst : es.all notStar = true) (hne : es ≠ []) : Snd fa ca X (.Call (.Name x p0) es [] pos) (xBi f fs) := by
  cases es with
  | nil => exact absurd rfl hne
  | cons e es =>
    simp only [List.all_cons, Bool.and_eq_true] at hst
    exact snd_biG hb (fun h => pe_callTy (fun pins s σ H xs us Q I r q => q pins s σ us I r) hg hm hv h hn hdb (star_cons hst.1) (noStar_any hst.2)) ha
theorem snd_biM {id : String} {f : List D → Option (D × Bool)} {x : Str} {p0 : Pos} {es : List Expr} {fs : List Ex} (hb : BiS fa X (.builtin id) f) (hg : Gl X x) (hm : X.mg x = some (.builtin id)) (hdb : (x == ("__debug__" : Str)) = false)
    (ha : SndA fa ca X es fs) (hst : es.all notStar = true) (hne : es ≠ []) : Snd fa ca X (.Call (.Name x p0) es [] pos) (xBi f fs) := by
  cases es with
  | nil => exact absurd rfl hne
  | cons e es =>
    simp only [List.all_cons, Bool.and_eq_true] at hst
    exact snd_biG hb (fun h => pe_callBfun (fun pins s σ H xs us Q I r q => q pins s σ us I r) hg hm h hdb (star_cons hst.1) (noStar_any hst.2)) ha
theorem kid1 {K : PySem.W.Frag} {Z H : Hp} {vs : List V} {d : D} (h : KidL fa K Z H vs [d]) : ∃ v, vs = [v] ∧ Kid fa K Z H v d := by
  obtain ⟨v, us, e, h1, h2⟩ := h
  have h2' : us = [] := h2
  subst h2'
  exact ⟨v, e, h1⟩
theorem kid2 {K : PySem.W.Frag} {Z H : Hp} {vs : List V} {d d' : D} (h : KidL fa K Z H vs [d, d']) : ∃ v v', vs = [v, v'] ∧ Kid fa K Z H v d ∧ Kid fa K Z H v' d' := by
  obtain ⟨v, us, e, h1, h2⟩ := h
  obtain ⟨v', e2, h3⟩ := kid1 h2
  subst e2
  exact ⟨v, v', e, h1, h3⟩
theorem bi_abs : BiS fa X (.builtin "abs") bAbs := fun Z H vs ds r fr Q sz kd q k pins s σ us I rv => by
  unfold bAbs at q
  split at q <;> cases q
  obtain ⟨v, rfl, k1⟩ := kid1 kd
  have e := k1.int; subst e
  refine call_abs pins s σ H _ us Q I rv ⟨_, rfl, ?_⟩
  rename_i i
  have e : (if i < 0 then -i else i) = (i.natAbs : Int) := by split <;> omega
  rw [e]; exact k _ _ newR_int
theorem bi_int : BiS fa X (.type "int") bInt := fun Z H vs ds r fr Q sz kd q k pins s σ us I rv => by
  unfold bInt at q
  split at q <;> cases q
  · obtain ⟨v, rfl, k1⟩ := kid1 kd
    have e := k1.int; subst e
    exact call_int1 pins s σ H _ us Q I rv (.inl ⟨_, rfl, k _ _ newR_int⟩)
  · obtain ⟨v, rfl, k1⟩ := kid1 kd
    have e := k1.bl; subst e
    exact call_int1 pins s σ H _ us Q I rv (.inr ⟨_, rfl, k _ _ newR_int⟩)
theorem sqL_scr {K : PySem.W.Frag} {Z H : Hp} {a : Addr} {xs : List V} (h : SqL K (fun b => match Z b with | some (.lst _) => none | o => o) a xs) (sz : Sub Z H) : SqL K H a xs :=
  SqL.sub h fun b o q => by
    have z : Z b = some o := by
      revert q
      split
      · intro q; cases q
      · exact id
    exact sz b o z
theorem bi_len : BiS fa X (.builtin "len") bLen := fun Z H vs ds r fr Q sz kd q k pins s σ us I rv => by
  unfold bLen at q
  split at q
  · cases q
    obtain ⟨v, rfl, a, xs, rfl, h1, h2⟩ := kid1 kd
    refine call_len pins s σ H _ us Q I rv ⟨_, xs.length, rfl, .inl ⟨xs, SqL.of h1, rfl⟩, ?_⟩
    rw [← h2.length]; exact k _ _ newR_int
  · cases q
    obtain ⟨v, rfl, k1⟩ := kid1 kd
    have k2 : Rep fa X.K _ (.tup _) v := k1
    simp only [Rep] at k2
    obtain ⟨a, xs, rfl, h1, h2⟩ := k2
    refine call_len pins s σ H _ us Q I rv ⟨_, xs.length, rfl, .inr ⟨xs, SqT.sub h1 sz, rfl⟩, ?_⟩
    rw [← h2.length]; exact k _ _ newR_int
  · cases q
    obtain ⟨v, rfl, k1⟩ := kid1 kd
    have k2 : Rep fa X.K _ (.scr _) v := k1
    simp only [Rep] at k2
    obtain ⟨a, rfl, h1⟩ := k2
    refine call_len pins s σ H _ us Q I rv ⟨_, _, rfl, .inl ⟨_, sqL_scr h1 sz, rfl⟩, ?_⟩
    rw [List.length_map]; exact k _ _ newR_int
  · split at q <;> cases q
    rename_i hl
    obtain ⟨v, rfl, k1⟩ := kid1 kd
    have e := k1.str; subst e
    exact call_len pins s σ H _ us Q I rv ⟨_, _, rfl, ⟨by rw [← line_eq]; exact hl, rfl⟩, k _ _ newR_int⟩
  · cases q
theorem foldl_min_le : ∀ (is : List Int) (a : Int), is.foldl min a ≤ a ∧ ∀ j ∈ is, is.foldl min a ≤ j
  | [], a => ⟨by simp, by simp⟩
  | i :: is, a => by
    obtain ⟨h1, h2⟩ := foldl_min_le is (min a i)
    simp only [List.foldl_cons, List.mem_cons, forall_eq_or_imp]
    exact ⟨by omega, by omega, h2⟩
theorem foldl_min_mem : ∀ (is : List Int) (a : Int), is.foldl min a = a ∨ is.foldl min a ∈ is
  | [], a => .inl rfl
  | i :: is, a => by
    simp only [List.foldl_cons, List.mem_cons]
    rcases foldl_min_mem is (min a i) with h | h
    · rw [h]; by_cases z : a ≤ i
      · exact .inl (by omega)
      · exact .inr (.inl (by omega))
    · exact .inr (.inr h)
theorem foldl_max_le : ∀ (is : List Int) (a : Int), a ≤ is.foldl max a ∧ ∀ j ∈ is, j ≤ is.foldl max a
  | [], a => ⟨by simp, by simp⟩
  | i :: is, a => by
    obtain ⟨h1, h2⟩ := foldl_max_le is (max a i)
    simp only [List.foldl_cons, List.mem_cons, forall_eq_or_imp]
    exact ⟨by omega, by omega, h2⟩
theorem foldl_max_mem : ∀ (is : List Int) (a : Int), is.foldl max a = a ∨ is.foldl max a ∈ is
  | [], a => .inl rfl
  | i :: is, a => by
    simp only [List.foldl_cons, List.mem_cons]
    rcases foldl_max_mem is (max a i) with h | h
    · rw [h]; by_cases z : a ≤ i
      · exact .inr (.inl (by omega))
      · exact .inl (by omega)
    · exact .inr (.inr h)
theorem least_spec {is : List Int} {i : Int} (h : leastI is = some i) : i ∈ is ∧ ∀ j ∈ is, i ≤ j := by
  cases is with
  | nil => cases h
  | cons a is =>
    simp only [leastI, Option.some.injEq] at h
    subst h
    obtain ⟨h1, h2⟩ := foldl_min_le is a
    refine ⟨?_, ?_⟩
    · rcases foldl_min_mem is a with h | h
      · rw [h]; exact List.mem_cons_self
      · exact List.mem_cons_of_mem _ h
    · intro j hj
      rcases List.mem_cons.mp hj with e | e
      · subst e; exact h1
      · exact h2 j e
theorem great_spec {is : List Int} {i : Int} (h : greatI is = some i) : i ∈ is ∧ ∀ j ∈ is, j ≤ i := by
  cases is with
  | nil => cases h
  | cons a is =>
    simp only [greatI, Option.some.injEq] at h
    subst h
    obtain ⟨h1, h2⟩ := foldl_max_le is a
    refine ⟨?_, ?_⟩
    · rcases foldl_max_mem is a with h | h
      · rw [h]; exact List.mem_cons_self
      · exact List.mem_cons_of_mem _ h
    · intro j hj
      rcases List.mem_cons.mp hj with e | e
      · subst e; exact h1
      · exact h2 j e
theorem bi_sum (hc : X.calm = true) : BiS fa X (.builtin "sum") bSum := fun Z H vs ds r fr Q sz kd q k pins s σ us I rv => by
  unfold bSum at q
  split at q
  · obtain ⟨is, e1, q⟩ := Option.map_eq_some_iff.mp q
    cases q
    obtain ⟨v, rfl, a, xs, rfl, h1, h2⟩ := kid1 kd
    obtain ⟨_, e3⟩ := h2.asInts e1
    subst e3
    exact cr_sum hc pins s σ H _ us Q I rv ⟨a, is, rfl, SqL.of h1, k _ _ newR_int⟩
  · cases q
theorem bi_all (hc : X.calm = true) : BiS fa X (.builtin "all") bAll := fun Z H vs ds r fr Q sz kd q k pins s σ us I rv => by
  unfold bAll at q
  split at q
  · obtain ⟨is, e1, q⟩ := Option.map_eq_some_iff.mp q
    cases q
    obtain ⟨v, rfl, a, xs, rfl, h1, h2⟩ := kid1 kd
    obtain ⟨_, e3⟩ := h2.asBools e1
    subst e3
    exact cr_all hc pins s σ H _ us Q I rv ⟨a, is, rfl, SqL.of h1, k _ _ newR_bl⟩
  · cases q
theorem bi_any (hc : X.calm = true) : BiS fa X (.builtin "any") bAny := fun Z H vs ds r fr Q sz kd q k pins s σ us I rv => by
  unfold bAny at q
  split at q
  · obtain ⟨is, e1, q⟩ := Option.map_eq_some_iff.mp q
    cases q
    obtain ⟨v, rfl, a, xs, rfl, h1, h2⟩ := kid1 kd
    obtain ⟨_, e3⟩ := h2.asBools e1
    subst e3
    exact cr_any hc pins s σ H _ us Q I rv ⟨a, is, rfl, SqL.of h1, k _ _ newR_bl⟩
  · cases q
theorem bi_gcd : BiS fa X (.builtin "math.gcd") bGcd := fun Z H vs ds r fr Q sz kd q k pins s σ us I rv => by
  unfold bGcd at q
  split at q <;> cases q
  obtain ⟨v, v', rfl, k1, k2⟩ := kid2 kd
  have e := k1.int; subst e
  have e := k2.int; subst e
  exact cr_gcd pins s σ H _ us Q I rv ⟨_, _, rfl, k _ _ newR_int⟩

/-! ### items, slices -/
def notSlice : Expr → Bool
  | .Slice .. => false
  | _ => true
theorem plainIx_of (h : notSlice b = true) : PlainIx b := fun o i => by
  cases b <;> first | rfl | exact absurd h (by simp [notSlice])
theorem place_atI {α : Type} {xs : List α} {i : Int} {k : Nat} {v : α} (h : place xs.length i = some k) (hv : xs[k]? = some v) : atI xs i = some v := by
  unfold place at h
  unfold atI ixN
  by_cases h0 : 0 ≤ i
  · rw [if_pos h0] at h ⊢
    by_cases h1 : i < (xs.length : Int)
    · rw [if_pos h1] at h ⊢
      cases h
      exact hv
    · rw [if_neg h1] at h; cases h
  · rw [if_neg h0] at h ⊢
    by_cases h1 : 0 ≤ i + (xs.length : Int)
    · rw [if_pos h1] at h
      cases h
      first
        | (rw [if_pos h1]; exact hv)
        | (rw [if_pos (by omega)]; exact hv)
    · rw [if_neg h1] at h; cases h
theorem dkGet_val {K : PySem.W.Frag} {Z : Hp} {k : Key} : ∀ {kvs : List (Key × V)} {vs : List D} {e : D}, RepL fa K Z vs (kvs.map (·.2)) → dkGet (kvs.map fun p => keyD p.1) vs (keyD k) = some e → ∃ v, valV kvs k = some v ∧ Rep fa K Z e v
  | [], vs, e, h, q => by
    cases vs <;> simp [dkGet] at q
  | p :: kvs, [], e, h, q => by simp [dkGet] at q
  | p :: kvs, d :: vs, e, h, q => by
    simp only [List.map_cons, RepL] at h
    obtain ⟨v, r, e1, h1, h2⟩ := h
    cases e1
    simp only [List.map_cons, dkGet] at q
    by_cases c : p.1 = k
    · rw [if_pos (keyD_same.mpr (by rw [c]))] at q
      cases q
      exact ⟨p.2, valV_pos c, h1⟩
    · rw [if_neg fun z => c (keyD_inj (keyD_same.mp z)).symm] at q
      obtain ⟨w, q1, q2⟩ := dkGet_val h2 q
      exact ⟨w, by rw [valV_neg c]; exact q1, q2⟩
theorem Kid.item {K : PySem.W.Frag} {Z H : Hp} {x : V} {d e : D} {i : Int} (sz : Sub Z H) (nd : ∀ ks vs, d ≠ .dct ks vs) (h : Kid fa K Z H x d) (q : dIdx d (.int i) = some e) :
    ∃ p xs v, x = .ref p ∧ (SqL K H p xs ∨ SqT K H p xs) ∧ atI xs i = some v ∧ Rep fa K Z e v := by
  unfold dIdx at q
  split at q
  · exact absurd rfl (nd _ _)
  · rename_i xs j ej
    cases ej
    obtain ⟨k, q1, q2⟩ := Option.bind_eq_some_iff.mp q
    obtain ⟨a, vs, rfl, h1, h2⟩ := h
    obtain ⟨v, q3, q4⟩ := h2.get q2
    exact ⟨a, vs, v, rfl, .inl (SqL.of h1), place_atI (by rw [← h2.length]; exact q1) q3, q4⟩
  · rename_i xs j ej
    cases ej
    obtain ⟨k, q1, q2⟩ := Option.bind_eq_some_iff.mp q
    have h' : Rep fa K Z (.tup _) x := h
    simp only [Rep] at h'
    obtain ⟨a, vs, rfl, h1, h2⟩ := h'
    obtain ⟨v, q3, q4⟩ := h2.get q2
    exact ⟨a, vs, v, rfl, .inr (SqT.sub h1 sz), place_atI (by rw [← h2.length]; exact q1) q3, q4⟩
  · rename_i xs j ej
    cases ej
    obtain ⟨k, q1, q2⟩ := Option.bind_eq_some_iff.mp q
    obtain ⟨m, q3, rfl⟩ := Option.map_eq_some_iff.mp q2
    have h' : Rep fa K Z (.scr _) x := h
    simp only [Rep] at h'
    obtain ⟨a, rfl, h1⟩ := h'
    exact ⟨a, _, .int m, rfl, .inl (sqL_scr h1 sz), place_atI (xs := xs.map V.int) (k := k) (by rw [List.length_map]; exact q1) (by rw [List.getElem?_map, q3]; rfl), by simp [Rep]⟩
  · cases q
theorem ix_dict (hu : X.A.units + 1 < cLine) : IxR X (fun x y H Q => ∃ a v, x = .ref a ∧ DGet H a y (some v) ∧ Q v H) := by
  intro value slice pins s σ H x y v u Q I rx ry h hs
  obtain ⟨a, z, rfl, g, q⟩ := h
  cases rx
  have hT := dict_typeIs I g
  unfold subscriptTail
  refine wpAny_bind ?_
  rw [getitemInPython_of_ne hT.not_modules]
  refine wpAny_bind (wpAny_specialOf hT PySem.F.slot_dict_getitem.lookup ?_)
  have fin : wpAny (model X.prog X.w) X.A (subscripted slice false (.ref a) u) (fun r s₃ => wpAny (model X.prog X.w) X.A (letTemporaryGo value (.ref a) r >>= fun _ => pure r) (EP X pins σ Q) X.xe s₃) X.xe s := by
    rw [hs]
    have g2 : wpAny (model X.prog X.w) X.A (getItem (.ref a) u) (EP X pins σ Q) X.xe s := d_getItem hu I g ry fun w' s3 I3 rw' => ⟨z, H, I3, rw', q⟩
    exact wpAny_operating (wpAny_mono g2 (fun r s₃ h₃ => wpAny_bind (wpAny_letTemporaryGo (wpAny_pure h₃))) fun _ _ x => x)
  first
    | exact wpAny_pure (wpAny_bind fin)
    | exact wpAny_bind (wpAny_pure (wpAny_bind fin))
    | exact wpAny_bind fin
theorem snd_idx {kk : Nat} (hr : Room kk X.A) (ha : Snd fa ca X a da) (hb : Snd fa ca X b db) (hs : notSlice b = true) : Snd fa ca X (.Subscript a b pos) (xIdx da db) := fun W tk N H σ E Q s p => by
  have hu := hr.units
  refine of_pe (pe_ix (r := fun x y H' Q' => (∃ p xs i v, x = .ref p ∧ y = .int i ∧ (SqL X.K H' p xs ∨ SqT X.K H' p xs) ∧ atI xs i = some v ∧ Q' v H') ∨ ∃ a v, x = .ref a ∧ DGet H' a y (some v) ∧ Q' v H') (fun value slice pins s σ H x y v u Q I rx ry h hs => ?_) (peE (e := a)) (peE (e := b)) (plainIx_of hs)) ?_
  · rcases h with h | h
    · obtain ⟨p, xs, i, z, e1, e2, h | h, h4, h5⟩ := h
      · exact ix_list value slice pins s σ H x y v u Q I rx ry ⟨p, xs, i, z, e1, e2, h, h4, h5⟩ hs
      · exact ix_tup value slice pins s σ H x y v u Q I rx ry ⟨p, xs, i, z, e1, e2, h, h4, h5⟩ hs
    · exact ix_dict (by omega) value slice pins s σ H x y v u Q I rx ry h hs
  · show tE X a σ H _
    refine ha.bd tk s (Sub.refl _) p fun r x H1 e1 g1 r1 p1 => ?_
    refine hb.bd tk (s.grow g1) g1 p1 fun r' y H2 e2 g2 r2 p2 => ?_
    have k1 := (r1.kid s g1).sub (hide_mono g2 fun b o _ n => n) g2
    have k2 := r2.kid (s.grow g1) g2
    have g12 := g1.trans g2
    cases q : dIdx r.d r'.d with
    | none => simp only [q] at p2; exact p2.elim
    | some d =>
      simp only [q] at p2
      by_cases hd : ∃ ks vs, r.d = .dct ks vs
      · obtain ⟨ks, vs, hd⟩ := hd
        rw [hd] at q k1
        have q' : (if isKey r'.d then dkGet ks vs r'.d else none) = some d := q
        split at q'
        · rename_i hk
          obtain ⟨key, ek⟩ := isKey_is hk
          rw [ek] at q' k2
          obtain ⟨ap, kvs, rfl, h1, rfl, h2⟩ := k1
          obtain ⟨v, q3, q4⟩ := dkGet_val h2 q'
          have ey := k2.key
          subst ey
          exact .inr ⟨ap, v, rfl, q3 ▸ DGet.k h1, p2 v H2 g12 (rr_mkF s g12 q4)⟩
        · cases q'
      · have nd : ∀ ks vs, r.d ≠ .dct ks vs := fun ks vs e => hd ⟨ks, vs, e⟩
        have hi : ∃ i, r'.d = .int i := by
          revert q
          unfold dIdx
          split
          · rename_i e; exact absurd e (nd _ _)
          · rename_i e; intro _; exact ⟨_, e⟩
          · rename_i e; intro _; exact ⟨_, e⟩
          · rename_i e; intro _; exact ⟨_, e⟩
          · intro z; cases z
        obtain ⟨i, ei⟩ := hi
        rw [ei] at q k2
        obtain ⟨pp, xs, v, h1, h2, h3, h4⟩ := k1.item hide_sub nd q
        exact .inl ⟨pp, xs, i, v, h1, k2.int, h2, h3, p2 v H2 g12 (rr_mkF s g12 h4)⟩
theorem sEnd_eq (n d : Nat) (o : Option Int) : sEnd n d o = HT.sIx n d o := by
  cases o with
  | none => rfl
  | some i =>
    show (if 0 ≤ i then min i.toNat n else (i + n).toNat) = if i < 0 then (i + (n : Int)).toNat else min i.toNat n
    by_cases h : 0 ≤ i
    · rw [if_pos h, if_neg (by omega)]
    · rw [if_neg h, if_pos (by omega)]
theorem cutL_map {α : Type} {xs : List α} : cutL xs = fun lo hi => (xs.drop (HT.sIx xs.length 0 lo)).take (HT.sIx xs.length xs.length hi - HT.sIx xs.length 0 lo) := by
  funext lo hi
  unfold cutL
  rw [sEnd_eq, sEnd_eq]
theorem RepL.cut {K : PySem.W.Frag} {Z : Hp} {ds : List D} {vs : List V} (h : RepL fa K Z ds vs) (lo hi : Option Int) : RepL fa K Z (cutL ds lo hi) (cutL vs lo hi) := by
  unfold cutL
  rw [h.length]
  exact (h.drop _).take _
def SndO (fa ca : Nat → Addr) (X : Cx) : Option Expr → Option Ex → Prop
  | none, none => True
  | some e, some f => Snd fa ca X e f
  | _, _ => False
def tOE (X : Cx) (o : Option Expr) : L2.TO := fun σ H Q => ∀ (pins : List (Addr × Obj)) (s : Shared), Inv X pins σ H s → wpAny (model X.prog X.w) X.A (evalPart o X.env) (fun u s' => ∃ o H', Inv X pins σ H' s' ∧ IsPart u o ∧ Q o H') X.xe s
theorem poO {o : Option Expr} : PO X o (tOE X o) := ⟨fun pins s σ H Q I h => h pins s I⟩
theorem SndO.bd {o : Option Expr} {f : Option Ex} {β : Type} {P : β → Prop} {W : WX} {N : Addr → Prop} {H0 H : Hp} {σ : L2.St} {E : Env} {k : Option Int → R β} {Q : Option Int → Hp → Prop} (ho : SndO fa ca X o f) (tk : Takes X W) (s : SR fa X.K N H σ E) (g : Sub H0 H)
    (h : Post ca W H0 σ P ((evO f E).bd k)) (hk : ∀ r H1, Sub H H1 → Post ca W H0 σ P (k r) → Q r H1) : tOE X o σ H Q := fun pins st I => by
  cases o with
  | none =>
    cases f with
    | none => exact po_none.run pins st σ H Q I (hk none H (Sub.refl _) h)
    | some f => exact ho.elim
  | some e =>
    cases f with
    | none => exact ho.elim
    | some f =>
      refine (po_some (peE (e := e))).run pins st σ H Q I ?_
      have ho' : Snd fa ca X e f := ho
      have h' : Post ca W H0 σ P ((f E).bd fun r => (match r.d with | .int i => R.ok (some i) | _ => .bad).bd k) := by
        have z := h
        unfold evO at z
        rw [R.bd_assoc] at z
        exact z
      refine ho'.bd tk s g h' fun r x H1 e1 g1 r1 p1 => ?_
      have k1 := r1.kid s g1
      revert p1 k1
      cases r.d <;> intro p1 k1 <;> simp only [] at p1 <;> try exact p1.elim
      exact ⟨_, k1.int, hk _ H1 g1 p1⟩
theorem snd_slice {lo hi : Option Expr} {fl fh : Option Ex} {p2 : Pos} (ha : Snd fa ca X a da) (hl : SndO fa ca X lo fl) (hh : SndO fa ca X hi fh) : Snd fa ca X (.Subscript a (.Slice lo hi none p2) pos) (xSlice da fl fh) := fun W tk N H σ E Q s p => by
  refine of_pe (pe_slice (SlR.or sl_list sl_tupA) (peE (e := a)) poO poO) ?_
  show tE X a σ H _
  refine ha.bd tk s (Sub.refl _) p fun r x H1 e1 g1 r1 p1 => ?_
  refine hl.bd tk (s.grow g1) g1 p1 fun l H2 g2 p2 => ?_
  refine hh.bd tk (s.grow (g1.trans g2)) (g1.trans g2) p2 fun h H3 g3 p3 => ?_
  have k1 := (r1.kid s g1).sub (hide_mono (g2.trans g3) fun b o _ n => n) (g2.trans g3)
  have g13 := g1.trans (g2.trans g3)
  revert p3 k1
  cases hd : r.d <;> intro p3 k1 <;> simp only [dSlice] at p3 <;> try exact p3.elim
  · obtain ⟨a, vs, rfl, h1, h2⟩ := k1
    refine .inl ⟨a, vs, rfl, SqL.of h1, fun p np => p3 _ _ (g13.trans (sub_upd np)) ?_⟩
    refine (NewR.rr (fr := true) (p := r.kc) s g13 (NewR.list np hide_sub ?_))
    have z := h2.cut l h
    rw [cutL_map (xs := vs)] at z
    exact z
  · have k2 : Rep fa X.K _ (.tup _) x := k1
    have k3 := k2
    simp only [Rep] at k2
    obtain ⟨a, vs, rfl, h1, h2⟩ := k2
    have z := h2.cut l h
    rw [cutL_map (xs := vs)] at z
    refine .inr ⟨a, vs, rfl, SqT.sub h1 hide_sub, fun e => p3 _ _ g13 ?_, fun _ p np => p3 _ _ (g13.trans (sub_upd np)) ?_⟩
    · have w : cutL (α := V) vs l h = vs := by
        rw [cutL_map (xs := vs)]
        dsimp only
        rw [e.1, e.2]
        simp
      refine NewR.rr (fr := false) (p := r.kc) s g13 (NewR.old ?_ hide_sub)
      simp only [Rep]
      refine ⟨a, vs, rfl, h1, ?_⟩
      have z' := h2.cut l h
      rw [w] at z'
      exact z'
    · exact NewR.rr (fr := false) (p := r.kc) s g13 (NewR.tuple np hide_sub z)
end
end Rt
end
section
set_option Elab.async false
set_option linter.all false
set_option maxRecDepth 100000
set_option maxHeartbeats 1000000
/-! zip of a tuple and a list (turned from the kit's zip of two tuples) -/
namespace RZ
open PySem
open PySem.Sem (wp)
section
variable {prog : Program} {w : World} {A : Around} {E : Value → Shared → Prop} {s : Shared}
theorem zipTL_next_item {z TI TO i1 i2 l1 l2 : Addr} {k1 k2 : Nat} {xs ys : Array Value} {x y a b : Value} {Q : Value → Shared → Prop} (D : ZipApart z TI TO i1 i2 l1 l2)
    (hz : IsZip s.heap z TI TO .none) (hTI : IsPair s.heap TI (.ref i1) (.ref i2)) (hTO : IsPair s.heap TO a b)
    (h1 : s.heap.IsTupleIter i1 l1 k1) (h2 : s.heap.IsListIter i2 l2 k2) (hl1 : s.heap.IsTuple l1 xs) (hl2 : s.heap.IsList l2 ys) (hx : xs[k1]? = some x) (hy : ys[k2]? = some y)
    (hQ : ∀ h', IsZip h' z TI TO (rawInt s.heap.objs.size) → IsPair h' TO x y → h'.IsTupleIter i1 l1 (k1 + 1) → h'.IsListIter i2 l2 (k2 + 1) → IsPair h' s.heap.objs.size x y → h'.objs.size = s.heap.objs.size + 1 →
      (∀ c o, c ≠ z → c ≠ TO → c ≠ i1 → c ≠ i2 → s.heap.get? c = some o → h'.get? c = some o) → Q (.ref s.heap.objs.size) { s with heap := h' }) :
    wpAny (model prog w) A (Builtin.«zip.__next__» ⟨[.ref z], []⟩) (fun fin s' => ∃ v, fin = .done (.ret v) ∧ Q v s') E s := by
  show wpAny _ _ (field (.ref z) 2 >>= _) _ _ _
  refine wpAny_bind (wpAny_field hz rfl (x := .bool false) rfl ?_)
  show wpAny _ _ (field (.ref z) 3 >>= _) _ _ _
  refine wpAny_bind (wpAny_field hz rfl (x := .ref TI) rfl ?_)
  refine wpAny_bind (wpAny_seqItems hTI rfl ?_)
  show wpAny _ _ (Builtin.SmallTypes.ownedTupleIsFree (.ref z) >>= _) _ _ _
  refine wpAny_bind ?_
  unfold Builtin.SmallTypes.ownedTupleIsFree
  refine wpAny_bind (wpAny_field hz rfl (x := .none) rfl (wpAny_pure ?_))
  simp only [if_true]
  refine wpAny_bind (wpAny_rule ?_)
  refine wpAny_bind (wpAny_field hz rfl (x := .ref TO) rfl ?_)
  refine wpAny_bind (wpAny_setField_rec hz (by simp) fun h₁ hz₁ hs₁ => ?_)
  replace hz₁ : IsZip h₁ z TI TO .ellipsis := hz₁
  refine wpAny_bind ?_
  simp only [List.zipIdx_cons, List.zipIdx_nil, List.forIn_cons, List.forIn_nil]

  refine wpAny_bind (wpAny_bind (wpAny_onRaise ?_))
  show wpAny _ _ (Builtin.SmallTypes.nextOf (.ref i1) >>= _) _ _ _
  refine wpAny_bind (nextOf_tuple_item (h1.extBut hs₁.extBut D.i1z) (hl1.extBut hs₁.extBut D.l1z) hx fun h₂ h1₂ hs₂ => wpAny_pure ?_)
  have hTO₂ : IsPair h₂ TO a b := hs₂.extBut _ _ D.TOi1 (hs₁.extBut _ _ D.TOz hTO)
  refine wpAny_bind (wpAny_seqItems hTO₂ rfl ?_)
  refine wpAny_bind (wpAny_updateSeq_pair hTO₂ fun h₃ hTO₃ hs₃ => ?_)
  replace hTO₃ : IsPair h₃ TO x b := hTO₃
  refine wpAny_bind (wpAny_letGo (wpAny_pure ?_))

  refine wpAny_bind (wpAny_bind (wpAny_onRaise ?_))
  show wpAny _ _ (Builtin.SmallTypes.nextOf (.ref i2) >>= _) _ _ _
  refine wpAny_bind (wpAny_nextOf_list_item (((h2.extBut hs₁.extBut D.i2z).extBut hs₂.extBut D.i12.symm).extBut hs₃.extBut D.TOi2.symm)
    (((hl2.extBut hs₁.extBut D.l2z).extBut hs₂.extBut D.l2i1).extBut hs₃.extBut D.l2TO) hy fun h₄ h2₄ hs₄ => wpAny_pure ?_)
  have hTO₄ : IsPair h₄ TO x b := hs₄.extBut _ _ D.TOi2 hTO₃
  refine wpAny_bind (wpAny_seqItems hTO₄ rfl ?_)
  refine wpAny_bind (wpAny_updateSeq_pair hTO₄ fun h₅ hTO₅ hs₅ => ?_)
  replace hTO₅ : IsPair h₅ TO x y := hTO₅
  refine wpAny_bind (wpAny_letGo (wpAny_pure (wpAny_pure ?_)))

  refine wpAny_bind (wpAny_seqItems hTO₅ rfl ?_)
  refine wpAny_bind (wpAny_newTuple ?_)
  have hsz : h₅.objs.size = s.heap.objs.size := by rw [hs₅.1, hs₄.1, hs₃.1, hs₂.1, hs₁.1]
  have hz₅ : IsZip h₅ z TI TO .ellipsis := hs₅.extBut _ _ D.TOz.symm (hs₄.extBut _ _ D.i2z.symm (hs₃.extBut _ _ D.TOz.symm (hs₂.extBut _ _ D.i1z.symm hz₁)))
  have hk₅ : ∀ c o, c ≠ z → c ≠ TO → c ≠ i1 → c ≠ i2 → s.heap.get? c = some o → h₅.get? c = some o := fun c o c1 c2 c3 c4 e =>
    hs₅.extBut _ _ c2 (hs₄.extBut _ _ c4 (hs₃.extBut _ _ c2 (hs₂.extBut _ _ c3 (hs₁.extBut _ _ c1 e))))
  have h1₅ : h₅.IsTupleIter i1 l1 (k1 + 1) := ((h1₂.extBut hs₃.extBut D.TOi1.symm).extBut hs₄.extBut D.i12).extBut hs₅.extBut D.TOi1.symm
  have h2₅ : h₅.IsListIter i2 l2 (k2 + 1) := h2₄.extBut hs₅.extBut D.TOi2.symm
  have hzlt : z < h₅.objs.size := Heap.lt_size hz₅
  have hTOlt : TO < h₅.objs.size := Heap.lt_size hTO₅
  have hi1lt : i1 < h₅.objs.size := by obtain ⟨_, e, _⟩ := h1₅; exact Heap.lt_size e
  have hi2lt : i2 < h₅.objs.size := by obtain ⟨_, e, _⟩ := h2₅; exact Heap.lt_size e
  show wpAny _ _ (Builtin.SmallTypes.ownedTupleHandOut (.ref z) (.ref h₅.objs.size) >>= _) _ _ _
  refine wpAny_bind ?_
  unfold Builtin.SmallTypes.ownedTupleHandOut
  have hz₆ : IsZip (h₅.push { cls := .type "tuple", data := .seq #[x, y] }) z TI TO .ellipsis := Heap.get?_push_of_some _ hz₅
  refine wpAny_bind (wpAny_setField_rec hz₆ (by simp) fun h₇ hz₇ hs₇ => ?_)
  replace hz₇ : IsZip h₇ z TI TO (rawInt h₅.objs.size) := hz₇
  refine wpAny_setField_rec hz₇ (by simp) fun h₈ hz₈ hs₈ => ?_
  replace hz₈ : IsZip h₈ z TI TO (rawInt h₅.objs.size) := hz₈
  have up : ∀ c o, c ≠ z → h₅.get? c = some o → h₈.get? c = some o := fun c o c1 e => hs₈.extBut _ _ c1 (hs₇.extBut _ _ c1 (Heap.get?_push_of_some _ e))
  have hT₈ : IsPair h₈ h₅.objs.size x y := hs₈.extBut _ _ (Nat.ne_of_gt hzlt) (hs₇.extBut _ _ (Nat.ne_of_gt hzlt) (Heap.get?_push_size _ rfl))
  have hz8 : h₈.objs.size = h₅.objs.size + 1 := by rw [hs₈.1, hs₇.1, Heap.size_push]
  rw [hsz] at hz₈ hT₈ hz8
  refine wpAny_pure ⟨_, rfl, ?_⟩
  show Q (.ref h₅.objs.size) _
  rw [hsz]
  exact hQ h₈ hz₈ (up _ _ D.TOz hTO₅) (h1₅.at fun o e => up _ o D.i1z e) (h2₅.at fun o e => up _ o D.i2z e) hT₈ hz8 fun c o c1 c2 c3 c4 e => up c o c1 (hk₅ c o c1 c2 c3 c4 e)

theorem zipTL_next_end {z TI TO i1 i2 l1 l2 : Addr} {k1 k2 : Nat} {xs ys : Array Value} {a b : Value} {Q : Fin → Shared → Prop} (hh : A.handled = none) (D : ZipApart z TI TO i1 i2 l1 l2)
    (hz : IsZip s.heap z TI TO .none) (hTI : IsPair s.heap TI (.ref i1) (.ref i2)) (hTO : IsPair s.heap TO a b)
    (h1 : s.heap.IsTupleIter i1 l1 k1) (h2 : s.heap.IsListIter i2 l2 k2) (hl1 : s.heap.IsTuple l1 xs) (hl2 : s.heap.IsList l2 ys) (hend : xs[k1]? = none ∨ ys[k2]? = none)
    (hE : ∀ h' e, (∀ c o, c ≠ z → c ≠ TO → c ≠ i1 → c ≠ i2 → s.heap.get? c = some o → h'.get? c = some o) → (∃ o, h'.get? e = some o ∧ o.cls = .type "StopIteration") → E (.ref e) { s with heap := h' }) :
    wpAny (model prog w) A (Builtin.«zip.__next__» ⟨[.ref z], []⟩) Q E s := by
  show wpAny _ _ (field (.ref z) 2 >>= _) _ _ _
  refine wpAny_bind (wpAny_field hz rfl (x := .bool false) rfl ?_)
  show wpAny _ _ (field (.ref z) 3 >>= _) _ _ _
  refine wpAny_bind (wpAny_field hz rfl (x := .ref TI) rfl ?_)
  refine wpAny_bind (wpAny_seqItems hTI rfl ?_)
  show wpAny _ _ (Builtin.SmallTypes.ownedTupleIsFree (.ref z) >>= _) _ _ _
  refine wpAny_bind ?_
  unfold Builtin.SmallTypes.ownedTupleIsFree
  refine wpAny_bind (wpAny_field hz rfl (x := .none) rfl (wpAny_pure ?_))
  simp only [if_true]
  refine wpAny_bind (wpAny_rule ?_)
  refine wpAny_bind (wpAny_field hz rfl (x := .ref TO) rfl ?_)
  refine wpAny_bind (wpAny_setField_rec hz (by simp) fun h₁ hz₁ hs₁ => ?_)
  replace hz₁ : IsZip h₁ z TI TO .ellipsis := hz₁
  refine wpAny_bind ?_
  simp only [List.zipIdx_cons, List.zipIdx_nil, List.forIn_cons, List.forIn_nil]
  refine wpAny_bind (wpAny_bind (wpAny_onRaise ?_))
  show wpAny _ _ (Builtin.SmallTypes.nextOf (.ref i1) >>= _) _ _ _
  cases hx : xs[k1]? with
  | none =>
    refine wpAny_bind (nextOf_tuple_end hh (h1.extBut hs₁.extBut D.i1z) (hl1.extBut hs₁.extBut D.l1z) hx fun h₂ e hs₂ he => ?_)
    obtain ⟨oe, hoe, hce⟩ := he
    have hz₂ : IsZip h₂ z TI TO .ellipsis := hs₂ _ _ D.i1z.symm hz₁
    have hez : e ≠ z := fun x => by subst x; rw [hz₂] at hoe; cases hoe; simp at hce
    refine wpAny_setField_rec hz₂ (by simp) fun h₃ _ hs₃ => hE h₃ e (fun c o c1 _ c3 _ x => hs₃.extBut _ _ c1 (hs₂ _ _ c3 (hs₁.extBut _ _ c1 x))) ⟨oe, hs₃.extBut _ _ hez hoe, hce⟩
  | some x =>
    have hy : ys[k2]? = none := by rcases hend with h | h; rw [hx] at h; cases h; exact h
    refine wpAny_bind (nextOf_tuple_item (h1.extBut hs₁.extBut D.i1z) (hl1.extBut hs₁.extBut D.l1z) hx fun h₂ h1₂ hs₂ => wpAny_pure ?_)
    have hTO₂ : IsPair h₂ TO a b := hs₂.extBut _ _ D.TOi1 (hs₁.extBut _ _ D.TOz hTO)
    refine wpAny_bind (wpAny_seqItems hTO₂ rfl ?_)
    refine wpAny_bind (wpAny_updateSeq_pair hTO₂ fun h₃ hTO₃ hs₃ => ?_)
    refine wpAny_bind (wpAny_letGo (wpAny_pure ?_))
    refine wpAny_bind (wpAny_bind (wpAny_onRaise ?_))
    show wpAny _ _ (Builtin.SmallTypes.nextOf (.ref i2) >>= _) _ _ _
    refine wpAny_bind (wpAny_nextOf_list_end hh (((h2.extBut hs₁.extBut D.i2z).extBut hs₂.extBut D.i12.symm).extBut hs₃.extBut D.TOi2.symm)
      (((hl2.extBut hs₁.extBut D.l2z).extBut hs₂.extBut D.l2i1).extBut hs₃.extBut D.l2TO) hy fun h₄ e hs₄ he => ?_)
    obtain ⟨oe, hoe, hce⟩ := he
    have hz₄ : IsZip h₄ z TI TO .ellipsis := hs₄ _ _ D.i2z.symm (hs₃.extBut _ _ D.TOz.symm (hs₂.extBut _ _ D.i1z.symm hz₁))
    have hez : e ≠ z := fun x => by subst x; rw [hz₄] at hoe; cases hoe; simp at hce
    refine wpAny_setField_rec hz₄ (by simp) fun h₅ _ hs₅ => hE h₅ e (fun c o c1 c2 c3 c4 x => hs₅.extBut _ _ c1 (hs₄ _ _ c4 (hs₃.extBut _ _ c2 (hs₂.extBut _ _ c3 (hs₁.extBut _ _ c1 x))))) ⟨oe, hs₅.extBut _ _ hez hoe, hce⟩

theorem pyNext_zipTL_item {z TI TO i1 i2 l1 l2 : Addr} {k1 k2 : Nat} {xs ys : Array Value} {x y a b : Value} {Q : Option Value → Shared → Prop} (D : ZipApart z TI TO i1 i2 l1 l2)
    (hz : IsZip s.heap z TI TO .none) (hTI : IsPair s.heap TI (.ref i1) (.ref i2)) (hTO : IsPair s.heap TO a b)
    (h1 : s.heap.IsTupleIter i1 l1 k1) (h2 : s.heap.IsListIter i2 l2 k2) (hl1 : s.heap.IsTuple l1 xs) (hl2 : s.heap.IsList l2 ys) (hx : xs[k1]? = some x) (hy : ys[k2]? = some y)
    (hQ : ∀ h', IsZip h' z TI TO (rawInt s.heap.objs.size) → IsPair h' TO x y → h'.IsTupleIter i1 l1 (k1 + 1) → h'.IsListIter i2 l2 (k2 + 1) → IsPair h' s.heap.objs.size x y → h'.objs.size = s.heap.objs.size + 1 →
      (∀ c o, c ≠ z → c ≠ TO → c ≠ i1 → c ≠ i2 → s.heap.get? c = some o → h'.get? c = some o) → Q (some (.ref s.heap.objs.size)) { s with heap := h' }) :
    wpAny (model prog w) A (pyNext (.ref z)) Q E s := by
  have hT : s.TypeIs (.ref z) "zip" := ⟨_, hz, rfl⟩
  unfold pyNext
  exact wpAny_bind (wpAny_attempt (wpAny_callSpecial?_slot (name := Str.ofString "__next__") hT F.slot_zip_next
    (wpAny_call_entry F.slot_zip_next hT F.entry_zip_next
      (zipTL_next_item D hz hTI hTO h1 h2 hl1 hl2 hx hy fun h' a1 a2 a3 a4 a5 a6 a7 => wpAny_pure (hQ h' a1 a2 a3 a4 a5 a6 a7)) (F.args_zip_next_1 _))))

theorem pyNext_zipTL_end {z TI TO i1 i2 l1 l2 : Addr} {k1 k2 : Nat} {xs ys : Array Value} {a b : Value} {Q : Option Value → Shared → Prop} (hh : A.handled = none) (D : ZipApart z TI TO i1 i2 l1 l2)
    (hz : IsZip s.heap z TI TO .none) (hTI : IsPair s.heap TI (.ref i1) (.ref i2)) (hTO : IsPair s.heap TO a b)
    (h1 : s.heap.IsTupleIter i1 l1 k1) (h2 : s.heap.IsListIter i2 l2 k2) (hl1 : s.heap.IsTuple l1 xs) (hl2 : s.heap.IsList l2 ys) (hend : xs[k1]? = none ∨ ys[k2]? = none)
    (hQ : ∀ h', (∀ c o, c ≠ z → c ≠ TO → c ≠ i1 → c ≠ i2 → s.heap.get? c = some o → h'.get? c = some o) → Q none { s with heap := h' }) : wpAny (model prog w) A (pyNext (.ref z)) Q E s := by
  have hT : s.TypeIs (.ref z) "zip" := ⟨_, hz, rfl⟩
  unfold pyNext
  refine wpAny_bind (wpAny_attempt (wpAny_callSpecial?_slot (name := Str.ofString "__next__") hT F.slot_zip_next
    (wpAny_call_entry F.slot_zip_next hT F.entry_zip_next (zipTL_next_end hh D hz hTI hTO h1 h2 hl1 hl2 hend fun h' e hk he => ?_) (F.args_zip_next_1 _))))
  obtain ⟨o, ho, hc⟩ := he
  refine wpAny_bind (wpAny_isInstance (T := "StopIteration") (b := true) ⟨o, ho, hc⟩ isSubtype_stop ?_)
  exact wpAny_pure (hQ _ hk)
end

abbrev zipMH1 (h : Heap) (l1 : Addr) : Heap := h.push { cls := .type "tuple_iterator", data := .fields #[.ref l1, .int 0 0] }
abbrev zipMH2 (h : Heap) (l1 l2 : Addr) : Heap := (zipMH1 h l1).push { cls := .type "list_iterator", data := .fields #[.ref l2, .int 0 0] }
abbrev zipMH3 (h : Heap) (l1 l2 : Addr) : Heap := (zipMH2 h l1 l2).push { cls := .type "tuple", data := .seq #[.ref h.objs.size, .ref (zipMH1 h l1).objs.size] }
abbrev zipMH4 (h : Heap) (l1 l2 : Addr) : Heap := (zipMH3 h l1 l2).push { cls := .type "tuple", data := .seq #[.none, .none] }
abbrev zipMH5 (h : Heap) (l1 l2 : Addr) : Heap := (zipMH4 h l1 l2).push { cls := .type "zip", data := .fields #[.none, .bool false, .bool false, .ref (zipMH2 h l1 l2).objs.size, .ref (zipMH3 h l1 l2).objs.size] }

theorem meets_zipTL_new (l1 l2 : Addr) (xs ys : Array Value) :
    Meets (Builtin.«zip.__new__» ⟨[.type "zip", .ref l1, .ref l2], []⟩) (fun _ R s => s.heap.IsTuple l1 xs ∧ s.heap.IsList l2 ys ∧
      R (.ok (.ret (.ref (zipMH4 s.heap l1 l2).objs.size))) { s with heap := zipMH5 s.heap l1 l2 }) :=
  .of_wp fun prog w A R s h => by
    obtain ⟨hp, g, d, tk, os⟩ := s; obtain ⟨hl1, hl2, h⟩ := h
    have hsub := sub_zip
    have hL1 : Heap.IsTuple (Shared.heap ⟨hp, g, d, tk, os⟩) l1 xs := hl1
    have hL2 : Heap.IsList (Shared.heap ⟨hp.push { cls := .type "tuple_iterator", data := .fields #[.ref l1, .int 0 0] }, g, d, tk, os⟩) l2 ys := Heap.IsList.push hl2 _
    wp_walk using wpAny_pyIter_tuple hL1, wpAny_pyIter_list hL2
    exact ⟨_, rfl, h⟩

section
variable {prog : Program} {w : World} {A : Around} {E : Value → Shared → Prop} {s : Shared}

theorem call_zipTL {l1 l2 : Addr} {xs ys : Array Value} {Q : Value → Shared → Prop} (hl1 : s.heap.IsTuple l1 xs) (hl2 : s.heap.IsList l2 ys)
    (h : ∀ h', IsZip h' (s.heap.objs.size + 4) (s.heap.objs.size + 2) (s.heap.objs.size + 3) .none → IsPair h' (s.heap.objs.size + 2) (.ref s.heap.objs.size) (.ref (s.heap.objs.size + 1)) →
      IsPair h' (s.heap.objs.size + 3) .none .none → h'.IsTupleIter s.heap.objs.size l1 0 → h'.IsListIter (s.heap.objs.size + 1) l2 0 → h'.objs.size = s.heap.objs.size + 5 →
      (∀ c o, s.heap.get? c = some o → h'.get? c = some o) → Q (.ref (s.heap.objs.size + 4)) { s with heap := h' }) :
    wpAny (model prog w) A (call (.type "zip") [.ref l1, .ref l2]) Q E s := by
  refine callType_new F.called_zip (by decide) (F.typeCall_zip_2 _ _) (F.newCall_zip_2 _ _) (fun obj => F.args_object_init_3 obj _ _) F.entry_zip_new
    (meets_zipTL_new l1 l2 xs ys) ⟨hl1, hl2, ?_⟩
  have z1 : (zipMH1 s.heap l1).objs.size = s.heap.objs.size + 1 := Heap.size_push ..
  have z2 : (zipMH2 s.heap l1 l2).objs.size = s.heap.objs.size + 2 := by rw [Heap.size_push, z1]
  have z3 : (zipMH3 s.heap l1 l2).objs.size = s.heap.objs.size + 3 := by rw [Heap.size_push, z2]
  have z4 : (zipMH4 s.heap l1 l2).objs.size = s.heap.objs.size + 4 := by rw [Heap.size_push, z3]
  have z5 : (zipMH5 s.heap l1 l2).objs.size = s.heap.objs.size + 5 := by rw [Heap.size_push, z4]
  have g5 : (zipMH5 s.heap l1 l2).get? (zipMH4 s.heap l1 l2).objs.size = some _ := Heap.get?_push_size _ rfl
  have g4 : (zipMH5 s.heap l1 l2).get? (zipMH3 s.heap l1 l2).objs.size = some _ := Heap.get?_push_of_some _ (Heap.get?_push_size _ rfl)
  have g3 : (zipMH5 s.heap l1 l2).get? (zipMH2 s.heap l1 l2).objs.size = some _ := Heap.get?_push_of_some _ (Heap.get?_push_of_some _ (Heap.get?_push_size _ rfl))
  have g2 : (zipMH5 s.heap l1 l2).get? (zipMH1 s.heap l1).objs.size = some _ := Heap.get?_push_of_some _ (Heap.get?_push_of_some _ (Heap.get?_push_of_some _ (Heap.get?_push_size _ rfl)))
  have g1 : (zipMH5 s.heap l1 l2).get? s.heap.objs.size = some _ := Heap.get?_push_of_some _ (Heap.get?_push_of_some _ (Heap.get?_push_of_some _ (Heap.get?_push_of_some _ (Heap.get?_push_size _ rfl))))
  show _ ∧ _
  rw [z2, z3, z4] at g5
  rw [z1, z2] at g3
  rw [z3] at g4
  rw [z1] at g2
  rw [z4]
  exact ⟨⟨_, g5, rfl⟩, h _ g5 g3 g4 ⟨_, g1, rfl, rfl⟩ ⟨_, g2, rfl, rfl⟩ z5 fun c o x =>
    Heap.get?_push_of_some _ (Heap.get?_push_of_some _ (Heap.get?_push_of_some _ (Heap.get?_push_of_some _ (Heap.get?_push_of_some _ x))))⟩
end
open PySem PySem.Spec PyProof.Rows L2
/-- the tuple at a and the list at b as they stand at each turn, the items in new pairs -/
def ItzTL (K : PySem.W.Frag) (a b : Addr) : It :=
  ⟨fun i H => ∃ (xs ys : List V) (x y : V), SqT K H a xs ∧ SqL K H b ys ∧ xs[i]? = some x ∧ ys[i]? = some y,
    fun i H v H' => ∃ T x y, v = .ref T ∧ H T = none ∧ H' = upd H T (.tup [x, y]) ∧ (∀ xs, SqT K H a xs → xs[i]? = some x) ∧ ∀ ys, SqL K H b ys → ys[i]? = some y,
    fun i H => ∃ xs ys : List V, SqT K H a xs ∧ SqL K H b ys ∧ (xs.length ≤ i ∨ ys.length ≤ i)⟩
theorem turn_zipTL {P : Program} {w : World} {K : PySem.W.Frag} {elts : List Expr} {kk : Nat} {tpos : Pos} {a b z TI TO i1 i2 : Addr} (D : ZipApart z TI TO i1 i2 a b) :
    Turn P w K (.Tuple elts kk tpos) (ItzTL K a b) [z, TI, TO, i1, i2] z (fun i h => IsZip h z TI TO .none ∧ IsPair h TI (.ref i1) (.ref i2) ∧ (∃ x y, IsPair h TO x y) ∧ h.IsTupleIter i1 a i ∧ h.IsListIter i2 b i) where
  mem := by simp
  obj := fun i h st c hc => by
    obtain ⟨hz, hTI, ⟨x, y, hTO⟩, ⟨o1, e1, _, d1⟩, ⟨o2, e2, _, d2⟩⟩ := st
    have e' : c = z ∨ c = TI ∨ c = TO ∨ c = i1 ∨ c = i2 := by simpa using hc
    rcases e' with q | q | q | q | q
    · rw [q]; exact ⟨_, hz, fun v q => nomatch q⟩
    · rw [q]; exact ⟨_, hTI, fun v q => nomatch q⟩
    · rw [q]; exact ⟨_, hTO, fun v q => nomatch q⟩
    · rw [q]; exact ⟨o1, e1, fun v q => by rw [d1] at q; cases q⟩
    · rw [q]; exact ⟨o2, e2, fun v q => by rw [d2] at q; cases q⟩
  keep := fun i h h' st k => by
    obtain ⟨hz, hTI, ⟨x, y, hTO⟩, h1, h2⟩ := st
    exact ⟨k z (by simp) _ hz, k TI (by simp) _ hTI, ⟨x, y, k TO (by simp) _ hTO⟩, h1.at fun o q => k i1 (by simp) o q, h2.at fun o q => k i2 (by simp) o q⟩
  item := by
    intro X hP hw hK hc i pins s σ H E I hf st hg
    subst hP hw hK
    obtain ⟨hz, hTI, ⟨x0, y0, hTO⟩, h1, h2⟩ := st
    obtain ⟨xs, ys, x, y, hqx, hqy, hx, hy⟩ := hg
    obtain ⟨its, rv, p, _⟩ := I.tuple hqx
    obtain ⟨its2, rv2, p2, _⟩ := I.list hqy
    obtain ⟨u, hu, ru⟩ := rv.get hx
    obtain ⟨u2, hu2, ru2⟩ := rv2.get hy
    have hzl : z < s.heap.objs.size := Heap.lt_size hz
    refine pyNext_zipTL_item D hz hTI hTO h1 h2 p p2.isList (x := u) (y := u2) (by simpa using hu) (by simpa using hu2) fun h' z' TO' h1' h2' hT hsz hk => ?_
    refine ⟨_, rfl, wpAny_letOwnedTupleGo_zip (s := { s with heap := h' }) z' fun h'' z'' sb => ?_⟩
    have hT2 : h''.get? s.heap.objs.size = some { cls := .type "tuple", data := .seq #[u, u2] } := (sb.2 _ (Nat.ne_of_gt hzl)).trans hT
    have new : ObjOk X.prog X.w (upd H s.heap.objs.size (.tup [x, y])) h'' s.heap.objs.size (.tup [x, y]) :=
      ⟨by show 2 ≤ sizeLine; decide, [u, u2], .cons ru (.cons ru2 .nil), ⟨_, hT2, rfl, _, rfl⟩⟩
    have I1 : Inv X pins σ (upd H s.heap.objs.size (.tup [x, y])) { s with heap := h'' } :=
      I.turnedNew (t' := s.toks) (ch := [z, TI, TO, i1, i2]) (fun c o hb q => (sb.2 c (fun q' => hb (by simp [q']))).trans (hk c o (fun q' => hb (by simp [q'])) (fun q' => hb (by simp [q'])) (fun q' => hb (by simp [q'])) (fun q' => hb (by simp [q'])) q)) hf (Nat.le_refl _) new
    refine ⟨.ref s.heap.objs.size, _, I1, rfl, ⟨_, x, y, rfl, I.hok.fresh (Nat.le_refl _), rfl, fun l hl => by rw [I.tuple_inj hl hqx]; exact hx, fun l hl => by rw [I.list_inj hl hqy]; exact hy⟩, ⟨z'', ?_, ⟨u, u2, ?_⟩, ?_, ?_⟩, fun c hcm => ?_⟩
    · exact (sb.2 _ D.TIz).trans (hk _ _ D.TIz D.TITO D.TIi1 D.TIi2 hTI)
    · exact (sb.2 _ D.TOz).trans TO'
    · exact h1'.at fun o q => (sb.2 _ D.i1z).trans q
    · exact h2'.at fun o q => (sb.2 _ D.i2z).trans q
    · have hlt : c < s.heap.objs.size := by
        have e' : c = z ∨ c = TI ∨ c = TO ∨ c = i1 ∨ c = i2 := by simpa using hcm
        rcases e' with q | q | q | q | q
        · rw [q]; exact hzl
        · rw [q]; exact Heap.lt_size hTI
        · rw [q]; exact Heap.lt_size hTO
        · rw [q]; obtain ⟨_, e1, _⟩ := h1; exact Heap.lt_size e1
        · rw [q]; obtain ⟨_, e2, _⟩ := h2; exact Heap.lt_size e2
      rw [upd_ne (Nat.ne_of_lt hlt)]
      exact (hf c hcm).1
  done := by
    intro X hP hw hK hc i pins s σ H E I hf st hg
    subst hP hw hK
    obtain ⟨hz, hTI, ⟨x0, y0, hTO⟩, h1, h2⟩ := st
    obtain ⟨xs, ys, hqx, hqy, hend⟩ := hg
    obtain ⟨its, rv, p, _⟩ := I.tuple hqx
    obtain ⟨its2, rv2, p2, _⟩ := I.list hqy
    have l1 := rv.length
    have l2 := rv2.length
    have he : its.toArray[i]? = none ∨ its2.toArray[i]? = none := by
      rcases hend with q | q
      · exact .inl (by simp; omega)
      · exact .inr (by simp; omega)
    exact pyNext_zipTL_end (I.ok.hd hc) D hz hTI hTO h1 h2 p p2.isList he fun h' hk => ⟨rfl, I.turnedL (t' := s.toks) (ch := [z, TI, TO, i1, i2]) (fun c o hb q =>
      hk c o (fun q' => hb (by simp [q'])) (fun q' => hb (by simp [q'])) (fun q' => hb (by simp [q'])) (fun q' => hb (by simp [q'])) q) hf⟩
  self := fun A i s Q E st h => wpAny_pyIter_zip st.1 h

def iZipM (K : PySem.W.Frag) (ta : TA) : TI := fun σ H R => ta σ H fun vs H1 => ∃ a b xs ys, vs = [.ref a, .ref b] ∧ ((SqL K H1 a xs ∧ SqL K H1 b ys ∧ R (Itz K a b) H1) ∨ (SqT K H1 a xs ∧ SqT K H1 b ys ∧ R (ItzT K a b) H1) ∨ (SqT K H1 a xs ∧ SqL K H1 b ys ∧ R (ItzTL K a b) H1))
theorem pi_zipM {X : Cx} {e e2 : Expr} {ta : TA} {p pos tpos : Pos} {elts : List Expr} {kk : Nat} (hg : Gl X "zip") (hm : X.mg "zip" = none) (ha : PA X [e, e2] ta)
    (hs : starEach [e, e2] X.env = (false, eval e X.env) :: starEach [e2] X.env := by rfl) (hpl : (backTo pos (starEach [e2] X.env)).any (·.1) = false := by rfl) :
    PI X (.Tuple elts kk tpos) (.Call (.Name "zip" p) [e, e2] [] pos) (iZipM X.K ta) := by
  refine ⟨fun pins s σ H R I h => ?_⟩
  refine Call_ (ld_blt I hg hm PyProof.Rows.boot_zip (PyProof.Rows.callWith_type1 (thn (ha.run pos pins s σ H _ I h) fun us s1 ⟨vs, H1, I1, r1, q1⟩ => ?_) hs hpl))
  obtain ⟨a, b, xs, ys, ex, q1⟩ := q1
  subst ex
  cases r1 with
  | cons r rr =>
    cases rr with
    | cons r' rr =>
      cases rr
      cases r
      cases r'
      have fresh5 : ∀ c, c ∈ [s1.heap.objs.size + 4, s1.heap.objs.size + 2, s1.heap.objs.size + 3, s1.heap.objs.size, s1.heap.objs.size + 1] → FpOk X pins H1 c := fun c hcm => by
        have e' : c = s1.heap.objs.size + 4 ∨ c = s1.heap.objs.size + 2 ∨ c = s1.heap.objs.size + 3 ∨ c = s1.heap.objs.size ∨ c = s1.heap.objs.size + 1 := by simpa using hcm
        have hle : s1.heap.objs.size ≤ c := by
          rcases e' with z | z | z | z | z
          · rw [z]; exact Nat.le_add_right _ _
          · rw [z]; exact Nat.le_add_right _ _
          · rw [z]; exact Nat.le_add_right _ _
          · rw [z]; exact Nat.le_refl _
          · rw [z]; exact Nat.le_add_right _ _
        exact I1.fpOk hle (I1.hok.fresh hle)
      rcases q1 with ⟨hqx, hqy, q⟩ | ⟨hqx, hqy, q⟩ | ⟨hqx, hqy, q⟩
      · obtain ⟨its, rv, p1, _⟩ := I1.list hqx
        obtain ⟨its2, rv2, p2, _⟩ := I1.list hqy
        refine call_zip_2 p1.isList p2.isList fun h' hz hTI hTO h1 h2 hsz hk => wpAny_pyIter_zip hz ?_
        have I2 : Inv X pins σ H1 { s1 with heap := h' } := I1.kept (t' := s1.toks) hk
        exact ⟨s1.heap.objs.size + 4, [s1.heap.objs.size + 4, s1.heap.objs.size + 2, s1.heap.objs.size + 3, s1.heap.objs.size, s1.heap.objs.size + 1], _, _, H1, rfl, I2, turn_zip (PySem.W.ktu_apart s1.heap.objs.size a b p1.lt p2.lt), ⟨hz, hTI, ⟨_, _, hTO⟩, h1, h2⟩, fresh5, q⟩
      · obtain ⟨its, rv, p1, _⟩ := I1.tuple hqx
        obtain ⟨its2, rv2, p2, _⟩ := I1.tuple hqy
        obtain ⟨o1, ho1, _⟩ := id p1
        obtain ⟨o2, ho2, _⟩ := id p2
        refine call_zipT (show s1.heap.IsTuple a its.toArray from p1) (show s1.heap.IsTuple b its2.toArray from p2) fun h' hz hTI hTO h1 h2 hsz hk => wpAny_pyIter_zip hz ?_
        have I2 : Inv X pins σ H1 { s1 with heap := h' } := I1.kept (t' := s1.toks) hk
        exact ⟨s1.heap.objs.size + 4, [s1.heap.objs.size + 4, s1.heap.objs.size + 2, s1.heap.objs.size + 3, s1.heap.objs.size, s1.heap.objs.size + 1], _, _, H1, rfl, I2, turn_zipT (PySem.W.ktu_apart s1.heap.objs.size a b (Heap.lt_size ho1) (Heap.lt_size ho2)), ⟨hz, hTI, ⟨_, _, hTO⟩, h1, h2⟩, fresh5, q⟩
      · obtain ⟨its, rv, p1, _⟩ := I1.tuple hqx
        obtain ⟨its2, rv2, p2, _⟩ := I1.list hqy
        obtain ⟨o1, ho1, _⟩ := id p1
        refine call_zipTL (show s1.heap.IsTuple a its.toArray from p1) p2.isList fun h' hz hTI hTO h1 h2 hsz hk => wpAny_pyIter_zip hz ?_
        have I2 : Inv X pins σ H1 { s1 with heap := h' } := I1.kept (t' := s1.toks) hk
        exact ⟨s1.heap.objs.size + 4, [s1.heap.objs.size + 4, s1.heap.objs.size + 2, s1.heap.objs.size + 3, s1.heap.objs.size, s1.heap.objs.size + 1], _, _, H1, rfl, I2, turn_zipTL (PySem.W.ktu_apart s1.heap.objs.size a b (Heap.lt_size ho1) p2.lt), ⟨hz, hTI, ⟨_, _, hTO⟩, h1, h2⟩, fresh5, q⟩
end RZ
end
section
set_option linter.all false
set_option autoImplicit false
set_option Elab.async false
set_option maxRecDepth 100000
set_option maxHeartbeats 2000000
namespace Rt
open PySem PySem.Spec PyProof.Rows L2
theorem textFrom0 (ts : List Str) (acc : Str) : (textFrom 0 acc ts).length ≤ acc.length + piled ts := by
  cases ts with
  | nil => simp [textFrom, piled]
  | cons t ts =>
    show (textFrom 1 (acc ++ (if (0 : Nat) > 0 then ", " else "" : String) ++ t) ts).length ≤ _
    rw [textFrom_length_pos ts 1 _ (by omega), piled_cons, strLen_append, strLen_append]
    have e : ((if (0 : Nat) > 0 then ", " else "" : String) : Str).length = 0 := rfl
    rw [e]
    omega
mutual
theorem shown_len : ∀ (p : PyData), p.plain = true → p.shown.length ≤ repW p
  | .none, _ => by decide
  | .bool b, _ => by cases b <;> decide
  | .int i, _ => by
    have h := int_text_length_le (a := i) (k := i.natAbs.log2 + 1) (by omega) (by omega)
    have e : (PyData.int i).shown = Str.ofString (toString i) := by simp only [PyData.shown]
    rw [e]
    simp only [repW]
    have e2 : (Str.ofString (toString i)).length = (toString i).length := PySem.ofString_length _
    omega
  | .str x, _ => by
    simp only [PyData.shown, repW]
    exact Nat.le_refl _
  | .list xs, p => by
    have h := shownAll_len xs (by simpa [PyData.plain] using p)
    have h2 := textFrom0 (PyData.shownAll xs) "["
    simp only [PyData.shown, repW, listText, strLen_append]
    have e1 : ((("[" : String) : Str)).length = 1 := rfl
    have e2 : ((("]" : String) : Str)).length = 1 := rfl
    rw [e1] at h2
    rw [e2]
    omega
  | .tuple xs, p => by
    have h := shownAll_len xs (by simpa [PyData.plain] using p)
    simp only [PyData.shown, repW, tupleText, strLen_append]
    have e1 : ((("(" : String) : Str)).length = 1 := rfl
    have e2 : ∀ b : Bool, ((if b then ",)" else ")" : String) : Str).length ≤ 2 := fun b => by cases b <;> decide
    have h3 := e2 ((PyData.shownAll xs).length == 1)
    have h4 : (Str.join ", " (PyData.shownAll xs)).length ≤ piled (PyData.shownAll xs) := by
      cases q : PyData.shownAll xs with
      | nil => decide
      | cons t ts =>
        have := join_length_add (t :: ts) (by simp)
        omega
    rw [e1]
    omega
  | .dict _, p => by simp [PyData.plain] at p
theorem shownAll_len : ∀ (ps : List PyData), PyData.plainAll ps = true → piled (PyData.shownAll ps) ≤ repWL ps
  | [], _ => by decide
  | p :: ps, h => by
    rw [plain_cons, Bool.and_eq_true] at h
    have h1 := shown_len p h.1
    have h2 := shownAll_len ps h.2
    simp only [PyData.shownAll, piled_cons, repWL]
    omega
end
mutual
theorem plain_noDict : ∀ (p : PyData), p.plain = true → p.hasDict = false
  | .none, _ => rfl
  | .bool _, _ => rfl
  | .int _, _ => rfl
  | .str _, _ => rfl
  | .list xs, p => by simpa [PyData.hasDict] using plainAll_noDict xs (by simpa [PyData.plain] using p)
  | .tuple xs, p => by simpa [PyData.hasDict] using plainAll_noDict xs (by simpa [PyData.plain] using p)
  | .dict _, p => by simp [PyData.plain] at p
theorem plainAll_noDict : ∀ (ps : List PyData), PyData.plainAll ps = true → PyData.hasDictAll ps = false
  | [], _ => rfl
  | p :: ps, h => by
    rw [plain_cons, Bool.and_eq_true] at h
    simp [PyData.hasDictAll, plain_noDict p h.1, plainAll_noDict ps h.2]
end
/-! ### dicts -/
theorem repW_len : ∀ (kvs : List (PyData × PyData)), kvs.all (fun kv => kv.1.plain && kv.2.plain) = true → ((PyData.shownKv kvs).map (·.length)).sum + 2 * (PyData.shownKv kvs).length ≤ repWK kvs
  | [], _ => by simp [PyData.shownKv, repWK]
  | (k, v) :: r, h => by
    simp only [List.all_cons, Bool.and_eq_true] at h
    have h1 := shown_len k h.1.1
    have h2 := shown_len v h.1.2
    have h3 := repW_len r h.2
    simp only [PyData.shownKv, List.map_cons, List.sum_cons, List.length_cons, repWK, strLen_append]
    have e1 : (((": " : String) : Str)).length = 2 := rfl
    try rw [e1]
    omega
theorem keys_noDict : ∀ (kvs : List (PyData × PyData)) (f : PyData × PyData → PyData), (∀ x ∈ kvs, (f x).plain = true) → PyData.hasDictAll (kvs.map f) = false := fun kvs f h => plainAll_noDict _ (by
  induction kvs with
  | nil => rfl
  | cons x l ih => rw [List.map_cons, plain_cons, h x List.mem_cons_self, ih fun y hy => h y (List.mem_cons_of_mem _ hy)]; rfl)
theorem repr_dictP {prog : Program} {w : World} {A : Around} {E : Value → Shared → Prop} {s : Shared} {Q : Value → Shared → Prop} {h₀ : Heap} {a : Addr} {o : Obj} {es : Array DictEntry} {n : Nat} {kvs : List (PyData × PyData)} {as₁ bs₁ : List Addr}
    (h1 : h₀.get? a = some o) (h2 : o.cls = .type "dict") (h3 : o.data = .dict es n) (h4 : ReadsAll h₀ (es.toList.map (·.key)) (kvs.map (·.1)) as₁) (h5 : ReadsAll h₀ (es.toList.map (·.val)) (kvs.map (·.2)) bs₁)
    (hsys : (a == sysModules) = false) (nk : PyData.hasDictAll (kvs.map (·.1)) = false) (nv : PyData.hasDictAll (kvs.map (·.2)) = false) (hs : (PyData.dict kvs).showable = true) (hg : A.guards = some []) (hu : A.units + ((PyData.dict kvs).depth + 1) < cLine)
    (hk0 : ∀ b o, h₀.get? b = some o → s.heap.get? b = some o) (hQ : ∀ h' u tk, (∀ b o, s.heap.get? b = some o → h'.get? b = some o) → Q (.str (PyData.dict kvs).shown u) { s with heap := h', toks := tk })
    (hsz : (PyData.dict kvs).shown.length ≤ sizeLine) : wpAny (model prog w) A (call (.builtin "repr") [.ref a]) Q E s := by
  have hz' : (dictText (PyData.shownKv kvs)).length ≤ sizeLine := by simpa only [PyData.shown] using hsz
  obtain ⟨hs1, hs2⟩ := PyData.showableKv_split kvs (by simpa [PyData.showable] using hs)
  obtain ⟨b1, hb1, k1⟩ := ReprAllK.of_readsAll (prog := prog) (w := w) h4 hs1 (fun z => by rw [nk] at z; cases z) (fun t ht => let ⟨p, hp, hl⟩ := PyData.shownKv_key_le kvs t ht; Nat.le_trans hl (Nat.le_trans (dictText_mem_le hp) hz'))
  obtain ⟨b2, hb2, k2⟩ := ReprAllK.of_readsAll (prog := prog) (w := w) h5 hs2 (fun z => by rw [nv] at z; cases z) (fun t ht => let ⟨p, hp, hl⟩ := PyData.shownKv_val_le kvs t ht; Nat.le_trans hl (Nat.le_trans (dictText_mem_le hp) hz'))
  have hb : ReadAtMost h₀ (PyData.depthKv kvs) (b1 ++ b2) := (hb1.mono (PyData.depthAll_keys_le kvs)).append (hb2.mono (PyData.depthAll_vals_le kvs))
  have hna : a ∉ b1 ++ b2 := not_mem_of_deeper (.dict h1 h2 h3 h4 h5) (by simp only [PyData.depth]; omega) hb
  simp only [PyData.depth] at hu
  simp only [PyData.shown, PyData.shownKv_eq] at hQ
  refine call_repr_slot (by omega) (⟨o, hk0 _ _ h1, h2⟩ : s.TypeIs (.ref a) "dict") F.slot_dict_repr (call_dict_reprK (A := A.in1) h1 h2 h3 hsys hna (ReprEntriesK.of_two es.toList _ _
    (k1.more_le (fun b hb => List.mem_append_left _ hb) (PyData.depthAll_keys_le kvs)) (k2.more_le (fun b hb => List.mem_append_right _ hb) (PyData.depthAll_vals_le kvs))) hg (fun b _ => Clear.nil b) (by show A.units + 1 + _ < cLine; omega) hk0 (fun h' u tk hk => ⟨_, _, rfl, hQ h' u tk hk⟩) (by rw [← PyData.shownKv_eq]; exact hz'))
theorem pyL_length : ∀ (l : List D), (D.pyL l).length = l.length
  | [] => rfl
  | x :: l => by simp [D.pyL, pyL_length l]
theorem reads_keys {P : Program} {w : World} {h : Heap} : ∀ {es : List DictEntry} {ws : List (Key × Value)} {kvs : List (Key × V)}, Pairs (mixKind P w) es ws → KV kvs ws →
    ReadsAll h (es.map (·.key)) (D.pyL (kvs.map fun p => keyD p.1)) [] ∧ Vals (kvs.map (·.2)) (es.map (·.val))
  | [], _, kvs, .nil, r => by
    cases r
    exact ⟨.nil, .nil⟩
  | e :: es, _, _, .cons hk hv t, .cons ⟨q1, q2⟩ r => by
    obtain ⟨i1, i2⟩ := reads_keys t r
    rename_i kv p _
    refine ⟨?_, .cons (show L2.RelV p.2 e.val by rw [hv]; exact q2) i2⟩
    have hk' : keyIs p.1 e.key = true := by rw [q1]; exact hk
    obtain ⟨k, v⟩ := p
    simp only [List.map_cons, D.pyL]
    rcases keyIs_shape hk' with ⟨i, t, e1, e2⟩ | ⟨x, t, e1, e2⟩
    · dsimp only at e1
      subst e1
      rw [e2]
      exact ReadsAll.cons (as := []) (.int i t) i1
    · dsimp only at e1
      subst e1
      rw [e2]
      exact ReadsAll.cons (as := []) (.str x t) i1
section
variable {fa ca : Nat → Addr} {X : Cx}
theorem bi_repr (hg : X.A.guards = some []) (hu : X.A.units + 64 < cLine) : BiS fa X (.builtin "repr") bRepr := fun Z H vs ds r fr Q sz kd q k pins s σ us I rv => by
  unfold bRepr at q
  split at q
  · rename_i d
    split at q
    · rename_i ok
      cases q
      by_cases okd : okRepD d = true
      · cases d with
        | dct ks vs =>
          obtain ⟨v, rfl, k1⟩ := kid1 kd
          obtain ⟨u, rfl, ru⟩ := rv.one
          obtain ⟨a, kvs, rfl, h1, rfl, h2⟩ := k1
          obtain rfl : u = Value.ref a := ru
          have ln : (D.pyL (kvs.map fun p => keyD p.1)).length = (D.pyL vs).length := by
            rw [pyL_length, pyL_length, List.length_map, h2.length, List.length_map]
          simp only [okRepD, okKv, Bool.and_eq_true, decide_eq_true_eq, List.all_eq_true] at okd
          obtain ⟨⟨⟨pl, sh⟩, dp⟩, wd⟩ := okd
          have e1 : ((D.pyL (kvs.map fun p => keyD p.1)).zip (D.pyL vs)).map (·.1) = D.pyL (kvs.map fun p => keyD p.1) := by rw [← List.unzip_fst, List.unzip_zip ln]
          have e2 : ((D.pyL (kvs.map fun p => keyD p.1)).zip (D.pyL vs)).map (·.2) = D.pyL vs := by rw [← List.unzip_snd, List.unzip_zip ln]
          have nk := keys_noDict _ (·.1) fun x hx => (pl x hx).1
          have nv := keys_noDict _ (·.2) fun x hx => (pl x hx).2
          have pv : PyData.plainAll (D.pyL vs) = true := by
            rw [← e2]
            generalize (D.pyL (kvs.map fun p => keyD p.1)).zip (D.pyL vs) = l at pl
            induction l with
            | nil => rfl
            | cons x l ih => rw [List.map_cons, plain_cons, (pl x List.mem_cons_self).2, ih fun y hy => pl y (List.mem_cons_of_mem _ hy)]; rfl
          obtain ⟨z, hd, ws, rel, o, es, ep, ho, hex, hdt, hko, hpr, hnd⟩ := dk_of I.hok h1
          obtain ⟨rk, rvs⟩ := reads_keys (h := s.heap) hpr rel
          obtain ⟨bs, rr⟩ := Dp.readsAll I _ _ _ (RepL.dp (fa := fa) vs _ (RepL.sub sz _ _ h2) pv) rvs
          refine repr_dictP (kvs := (D.pyL (kvs.map fun p => keyD p.1)).zip (D.pyL vs)) ho hex.1 hdt (by rw [e1]; exact rk) (by rw [e2]; exact rr) hd nk nv sh hg (by omega) (fun b o e => e) (fun h' t tk kp => ?_) ?_
          · exact ⟨.str (D.dct (kvs.map fun p => keyD p.1) vs).py.shown, H, I.kept (t' := tk) kp, ⟨t, by simp only [D.py]⟩, k _ _ (NewR.flat fun _ => by simp only [Rep])⟩
          · have h3 := repW_len _ (List.all_eq_true.mpr fun x hx => by rw [(pl x hx).1, (pl x hx).2]; rfl)
            have h4 := dictText_len_le (PyData.shownKv ((D.pyL (kvs.map fun p => keyD p.1)).zip (D.pyL vs)))
            simp only [PyData.shown]
            rw [← line_eq]
            omega
        | _ => simp [okRepD] at okd
      have ok : okRep d.py = true := by
        rw [Bool.or_eq_true] at ok
        exact ok.resolve_right okd
      simp only [okRep, Bool.and_eq_true, decide_eq_true_eq] at ok
      obtain ⟨⟨⟨pl, sh⟩, dp⟩, wd⟩ := ok
      obtain ⟨v, rfl, k1⟩ := kid1 kd
      obtain ⟨u, rfl, ru⟩ := rv.one
      have fit : d.py.shown.length ≤ sizeLine := by rw [← line_eq]; exact Nat.le_trans (shown_len _ pl) wd
      have rep := k1.rep sz
      have dpv := Rep.dp (fa := fa) d v rep pl
      obtain ⟨as, rd⟩ := Dp.reads I d.py v u dpv ru
      have nd := plain_noDict d.py pl
      have fin : ∀ (h' : Heap) (t : Tok) (tk : Nat), (∀ b o, s.heap.get? b = some o → h'.get? b = some o) → EP X pins σ Q (.str d.py.shown t) { s with heap := h', toks := tk } := fun h' t tk kp =>
        ⟨.str d.py.shown, H, I.kept (t' := tk) kp, ⟨t, rfl⟩, k _ _ (NewR.flat fun _ => by simp only [Rep])⟩
      have ref : ∀ a : Addr, u = .ref a → wpAny (model X.prog X.w) X.A (call (.builtin "repr") [u]) (EP X pins σ Q) X.xe s := fun a e => by
        subst e
        exact repr_of_reads' rd sh (fun z => by rw [nd] at z; cases z) hg (by omega) (fun b o e => e) (fun h' t tk kp => fin h' t tk kp) fit
      cases d with
      | lst xs => simp only [Rep] at rep; obtain ⟨a, _, rfl, _⟩ := rep; exact ref a (by cases ru; rfl)
      | tup xs => simp only [Rep] at rep; obtain ⟨a, _, rfl, _⟩ := rep; exact ref a (by cases ru; rfl)
      | int i =>
        simp only [Rep] at rep; subst rep
        obtain ⟨t, rfl⟩ := ru
        refine P.repr_of_int (by simpa [D.py, PyData.showable] using sh) ?_
        have e : (D.int i).py.shown = Str.ofString (toString i) := by simp only [D.py, PyData.shown]
        have f := fin s.heap s.toks (s.toks + 1) fun _ _ e => e
        rw [e] at f
        exact f
      | str x =>
        simp only [Rep] at rep; subst rep
        obtain ⟨t, rfl⟩ := ru
        have e : (D.str x).py.shown = reprText x := by simp only [D.py, PyData.shown]
        have f := fin s.heap s.toks (s.toks + 1) fun _ _ e => e
        rw [e] at f fit
        exact P.repr_of_str f fit
      | bl b =>
        simp only [Rep] at rep; subst rep
        obtain rfl : u = .bool b := ru
        have e : (D.bl b).py.shown = (if b then ("True" : Str) else "False") := by cases b <;> rfl
        have f := fin s.heap s.toks (s.toks + 1) fun _ _ e => e
        rw [e] at f
        exact P.repr_of_bool f
      | non =>
        simp only [Rep] at rep; subst rep
        obtain rfl : u = .none := ru
        have e : D.non.py.shown = Str.ofString "None" := by rfl
        have f := fin s.heap s.toks (s.toks + 1) fun _ _ e => e
        rw [e] at f
        exact P.repr_of_none f
      | dct ks vs => simp [D.py, PyData.plain] at pl
      | set xs => simp [D.py, PyData.plain] at pl
      | rep d => simp [D.py, PyData.plain] at pl
      | fn i => simp [D.py, PyData.plain] at pl
      | scr is => simp [D.py, PyData.plain] at pl
    · cases q
  · cases q
end
end Rt
end
section
set_option linter.all false
set_option autoImplicit false
set_option Elab.async false
set_option maxRecDepth 100000
set_option maxHeartbeats 2000000
/-! for k, x in enumerate(t), t a tuple -/
namespace Rt
open PySem PySem.Spec PyProof.Rows L2
open Sem (wp)

theorem enum_new1 {v : Value} {ob : Obj} {G : Heap → Prop} (B : Begins v ob G) :
    Meets (Builtin.«enumerate.__new__» ⟨[.type "enumerate", v], []⟩) (fun _ R st => G st.heap ∧
      R (.ok (.ret (.ref (st.heap.push ob).objs.size))) { st with heap := (st.heap.push ob).push { cls := .type "enumerate", data := .fields #[.none, .bool false, .ref st.heap.objs.size, rawInt 0, .none, .none] } }) :=
  .of_wp fun pg wd A R st both => by
    obtain ⟨hp, gs, dr, tk, os⟩ := st
    obtain ⟨gv, fin⟩ := both
    have hsub := sub_enumerate
    have mv : ∀ {A' : Around} {E : Value → Shared → Prop} {Q : Value → Shared → Prop}, Q (.ref hp.objs.size) ⟨hp.push ob, gs, dr, tk, os⟩ → wpAny (model pg wd) A' (pyIter v) Q E ⟨hp, gs, dr, tk, os⟩ :=
      fun q => B.iter pg wd _ _ ⟨hp, gs, dr, tk, os⟩ _ gv q
    wp_walk using mv
    refine wpAny_stack_any fun _ => wpAny_pure ?_
    split
    · rename_i k1 _ _ _ _ _
      cases (k1 == Value.type "enumerate")
      all_goals
        wp_walk using mv
        exact ⟨_, rfl, fin⟩
    · wp_walk using mv
      exact ⟨_, rfl, fin⟩
section
variable {pg : Program} {wd : World} {A : Around} {E : Value → Shared → Prop} {st : Shared}
theorem enum_call1 {v : Value} {ob : Obj} {G : Heap → Prop} {Q : Value → Shared → Prop} (B : Begins v ob G) (gv : G st.heap)
    (fin : ∀ h2, IsEnum h2 (st.heap.objs.size + 1) st.heap.objs.size 0 .none → h2.get? st.heap.objs.size = some ob →
      (∀ b o, st.heap.get? b = some o → h2.get? b = some o) → Q (.ref (st.heap.objs.size + 1)) { st with heap := h2 }) :
    wpAny (model pg wd) A (call (.type "enumerate") [v]) Q E st := by
  refine callType_new F.called_enumerate (by decide) (F.typeCall_enumerate_1 _) (F.newCall_enumerate_1 _) (fun obj => F.args_object_init_2 obj _) F.entry_enumerate_new (enum_new1 B) ⟨gv, ?_⟩
  have sz : (st.heap.push ob).objs.size = st.heap.objs.size + 1 := Heap.size_push ..
  show _ ∧ _
  rw [sz]
  have at_ := Heap.get?_push_size (st.heap.push ob) (o := { cls := .type "enumerate", data := .fields #[.none, .bool false, .ref st.heap.objs.size, rawInt 0, .none, .none] }) rfl
  rw [sz] at at_
  exact ⟨⟨_, at_, rfl⟩, fin _ at_ (Heap.get?_push_of_some _ (Heap.get?_push_size _ B.free)) fun b o x => Heap.get?_push_of_some _ (Heap.get?_push_of_some _ x)⟩
theorem enum_endT {en it t : Addr} {k : Nat} {its : Array Value} {last : Value} {Q : Option Value → Shared → Prop} (calm : A.handled = none)
    (he : IsEnum st.heap en it k last) (hit : st.heap.IsTupleIter it t k) (tup : st.heap.IsTuple t its) (none_ : its[k]? = none) (fin : ∀ h2, Heap.ExtBut it st.heap h2 → Q none { st with heap := h2 }) : wpAny (model pg wd) A (pyNext (.ref en)) Q E st := by
  have ty : st.TypeIs (.ref en) "enumerate" := ⟨_, he, rfl⟩
  unfold pyNext
  refine wpAny_bind (wpAny_attempt (wpAny_callSpecial?_slot (name := Str.ofString "__next__") ty F.slot_enumerate_next (wpAny_call_entry F.slot_enumerate_next ty F.entry_enumerate_next ?_ (F.args_enumerate_next_1 _))))
  show wpAny _ _ (field (.ref en) 2 >>= _) _ _ st
  refine wpAny_bind (wpAny_field he rfl (x := .ref it) rfl (wpAny_bind (wpAny_nextOf_tuple_end calm hit tup none_ fun h2 x eb ⟨o, q1, q2⟩ => ?_)))
  exact wpAny_bind (wpAny_isInstance (T := "StopIteration") (b := true) ⟨o, q1, q2⟩ isSubtype_stop (wpAny_pure (fin _ eb)))
end
/-- the tuple's items in new pairs -/
def ItE (K : PySem.W.Frag) (t : Addr) : It where
  go := fun k H => ∃ ys y, SqT K H t ys ∧ ys[k]? = some y
  yld := fun k H v H2 => ∃ p y, v = .ref p ∧ H p = none ∧ H2 = upd H p (.tup [.int (k : Nat), y]) ∧ ∀ ys, SqT K H t ys → ys[k]? = some y
  stop := fun k H => ∃ ys, SqT K H t ys ∧ ys.length ≤ k
theorem turn_enumT {P : Program} {w : World} {K : PySem.W.Frag} {els : List Expr} {kk : Nat} {tp : Pos} (t en it : Addr) :
    Turn P w K (.Tuple els kk tp) (ItE K t) [en, it] en (fun k h => (∃ last, IsEnum h en it ((k : Nat) : Int) last) ∧ h.IsTupleIter it t k ∧ en ≠ it) where
  mem := List.mem_cons_self
  obj := fun k h st b hb => by
    obtain ⟨⟨last, he⟩, ⟨o, ho, _, hd⟩, _⟩ := st
    rcases List.mem_cons.mp hb with z | z
    · rw [z]
      exact ⟨_, he, fun v q => nomatch q⟩
    · rw [List.mem_singleton.mp z]
      exact ⟨o, ho, fun v q => by rw [hd] at q; cases q⟩
  keep := fun k h h2 st same => let ⟨⟨last, he⟩, hi, ne⟩ := st; ⟨⟨last, same en List.mem_cons_self _ he⟩, hi.at fun o q => same it (List.mem_cons_of_mem _ List.mem_cons_self) o q, ne⟩
  item := by
    intro X eP ew eK calm k pins s σ H E I fp ⟨⟨last, he⟩, hit, ne⟩ ⟨ys, y, hq, hy⟩
    subst eP ew eK
    obtain ⟨its, rv, tup, _⟩ := I.tuple hq
    obtain ⟨u, hu, ru⟩ := rv.get hy
    have len : k < its.toArray.size := by
      have := (List.getElem?_eq_some_iff.mp hu).1
      simpa using this
    have ti : t ≠ it := fun z => by
      obtain ⟨o, q1, q2, _⟩ := hit
      obtain ⟨o', q3, q4, _⟩ := tup
      rw [z, q1] at q3; cases q3
      rw [q2] at q4; exact absurd q4 (by decide)
    have te : en ≠ t := fun z => by
      obtain ⟨o', q3, q4, _⟩ := tup
      rw [← z, he] at q3; cases q3
      have q5 : Value.type "enumerate" = Value.type "tuple" := q4
      exact absurd q5 (by decide)
    have Dr := Draws.tuple (prog := X.prog) (w := X.w) (A := X.A.in1) (I.ok.hd calm) it t ti its.toArray
    have bounds : en < s.heap.objs.size ∧ it < s.heap.objs.size := by
      obtain ⟨_, q, _⟩ := hit
      exact ⟨Heap.lt_size he, Heap.lt_size q⟩
    refine wpAny_pyNext_enum_itemD Dr he ⟨hit, tup⟩ len ne (by simp [ne, te]) fun x h2 tk hx out ⟨hit2, _⟩ hT sz kp => ?_
    have ex : x = u := by
      rw [List.getElem?_toArray, hu] at hx
      exact (Option.some.inj hx).symm
    subst ex
    refine ⟨_, rfl, wpAny_letOwnedTupleGo_enum (s := { s with heap := h2, toks := tk + 1 }) out fun h3 he3 sb => ?_⟩
    have hT3 : h3.get? s.heap.objs.size = some { cls := .type "tuple", data := .seq #[.int k tk, x] } := (sb.2 _ (Nat.ne_of_gt bounds.1)).trans hT
    have new : ObjOk X.prog X.w (upd H s.heap.objs.size (.tup [.int (k : Nat), y])) h3 s.heap.objs.size (.tup [.int (k : Nat), y]) :=
      ⟨by show 2 ≤ sizeLine; decide, [.int k tk, x], .cons ⟨_, rfl⟩ (.cons ru .nil), ⟨_, hT3, rfl, _, rfl⟩⟩
    have rest : ∀ b o, b ∉ [en, it] → s.heap.get? b = some o → h3.get? b = some o := fun b o nb q => by
      have n1 : b ≠ en := fun z => nb (z ▸ List.mem_cons_self)
      have n2 : b ≠ it := fun z => nb (z ▸ List.mem_cons_of_mem _ List.mem_cons_self)
      exact (sb.2 b n1).trans (kp b o n1 n2 q)
    have I3 := I.turnedNew (t' := tk + 1) (ch := [en, it]) rest fp (Nat.le_refl _) new
    have step : ((k + 1 : Nat) : Int) = (k : Int) + 1 := by omega
    refine ⟨.ref s.heap.objs.size, _, I3, rfl, ⟨_, y, rfl, I.hok.fresh (Nat.le_refl _), rfl, fun zs hz => by rw [I.tuple_inj hz hq]; exact hy⟩, ⟨⟨x, step ▸ he3⟩, hit2.at fun o q => (sb.2 it (Ne.symm ne)).trans q, ne⟩, fun b hb => ?_⟩
    have lt : b < s.heap.objs.size := by
      rcases List.mem_cons.mp hb with z | z
      · exact z ▸ bounds.1
      · exact (List.mem_singleton.mp z) ▸ bounds.2
    rw [upd_ne (Nat.ne_of_lt lt)]
    exact (fp b hb).1
  done := by
    intro X eP ew eK calm k pins s σ H E I fp ⟨⟨last, he⟩, hit, ne⟩ ⟨ys, hq, hy⟩
    subst eP ew eK
    obtain ⟨its, rv, tup, _⟩ := I.tuple hq
    have ti : t ≠ it := fun z => by
      obtain ⟨o, q1, q2, _⟩ := hit
      obtain ⟨o', q3, q4, _⟩ := tup
      rw [z, q1] at q3; cases q3
      rw [q2] at q4; exact absurd q4 (by decide)
    obtain ⟨f0, f1, f2, f3, f4, f5⟩ := fp it (List.mem_cons_of_mem _ List.mem_cons_self)
    have ll := rv.length
    refine enum_endT (I.ok.hd calm) he hit tup (by simp; omega) fun h2 eb => ⟨rfl, I.turned (t' := s.toks) (fun b o nb q => eb b o nb q) f0 f1 f3 f4 f5⟩
  self := fun _ _ _ _ _ ⟨⟨_, he⟩, _⟩ q => wpAny_pyIter_enum he q
def iEnT (K : PySem.W.Frag) (ta : TA) : TI := fun σ H R => ta σ H fun vs H1 => ∃ t ys, vs = [.ref t] ∧ SqT K H1 t ys ∧ R (ItE K t) H1
theorem pi_enumT {X : Cx} {e : Expr} {ta : TA} {p pos tp : Pos} {els : List Expr} {kk : Nat} (hg : Gl X "enumerate") (hm : X.mg "enumerate" = none) (ha : PA X [e] ta) (hs : starEach [e] X.env = [(false, eval e X.env)]) :
    PI X (.Tuple els kk tp) (.Call (.Name "enumerate" p) [e] [] pos) (iEnT X.K ta) := ⟨fun pins s σ H R I h => by
  refine Call_ (ld_blt I hg hm boot_enumerate (PyProof.Rows.callWith_type1 (thn (ha.run pos pins s σ H _ I h) fun us s1 ⟨vs, H1, I1, r1, q1⟩ => ?_) hs rfl))
  obtain ⟨t, ys, e1, hq, q⟩ := q1
  subst e1
  cases r1 with
  | cons r nil_ =>
    cases nil_
    cases r
    obtain ⟨its, rv, tup, _⟩ := I1.tuple hq
    refine enum_call1 (begins_tuple t its.toArray) tup fun h2 he hit kp => wpAny_pyIter_enum he ?_
    refine ⟨_, [s1.heap.objs.size + 1, s1.heap.objs.size], _, _, H1, rfl, I1.kept (t' := s1.toks) kp, turn_enumT t (s1.heap.objs.size + 1) s1.heap.objs.size, ⟨⟨.none, he⟩, ⟨_, hit, rfl, rfl⟩, Nat.succ_ne_self _⟩, fun b hb => ?_, q⟩
    have le : s1.heap.objs.size ≤ b := by
      rcases List.mem_cons.mp hb with z | z
      · rw [z]; exact Nat.le_succ _
      · rw [List.mem_singleton.mp z]; exact Nat.le_refl _
    exact I1.fpOk le (I1.hok.fresh le)⟩
end Rt
end
section
set_option linter.all false
set_option autoImplicit false
set_option Elab.async false
set_option maxRecDepth 100000
set_option maxHeartbeats 2000000
namespace Rt
open PySem PySem.Spec PyProof.Rows L2
/-! ### what is walked -/
/-- the walk J gives the items; Zt: where what is walked stands, Zi: where its items stand -/
structure Wk (fa : Nat → Addr) (K : PySem.W.Frag) (Zt Zi : Hp) (J : It) (items : List D) : Prop where
  go : ∀ (i : Nat) (H : Hp) (d : D), Sub Zt H → Sub Zi H → items[i]? = some d → J.go i H ∧ ∀ x H', J.yld i H x H' → NewR fa K Zi H H' false d x
  stop : ∀ (i : Nat) (H : Hp), Sub Zt H → Sub Zi H → items.length ≤ i → J.stop i H
def tI (X : Cx) (tg iter : Expr) : TI := fun σ H R => ∀ (pins : List (Addr × Obj)) (s : Shared), Inv X pins σ H s → wpAny (model X.prog X.w) X.A (eval iter X.env) (fun v s1 => wpAny (model X.prog X.w) X.A (pyIter v) (PIE X pins σ tg R) X.xe s1) X.xe s
section
variable {fa ca : Nat → Addr} {X : Cx} {a b c e tg iter elt : Expr} {da db dc : Ex} {ta tb tc : Tst} {pos : Pos} {it : Itr}
theorem piI : PI X tg iter (tI X tg iter) := ⟨fun pins s σ H R I h => h pins s I⟩
theorem of_pi {wi : TI} {σ : L2.St} {H : Hp} {R : It → Hp → Prop} (h : PI X tg iter wi) (k : wi σ H R) : tI X tg iter σ H R := fun pins s I => h.run pins s σ H R I k
def SndI (fa ca : Nat → Addr) (X : Cx) (tg iter : Expr) (f : Itr) : Prop := ∀ (W : WX), Takes X W → ∀ (N : Addr → Prop) (H : Hp) (σ : L2.St) (E : Env) (R : It → Hp → Prop), SR fa X.K N H σ E →
  Post ca W H σ (fun q => ∀ J H', Sub H H' → Wk fa X.K (hide H' (del N σ q.2)) (hide H' N) J q.1 → R J H') (f E) → tI X tg iter σ H R
theorem SndI.bd {β : Type} {P : β → Prop} {W : WX} {N : Addr → Prop} {H0 H : Hp} {σ : L2.St} {E : Env} {k : List D × List Nat → R β} {R : It → Hp → Prop} (ha : SndI fa ca X tg iter it) (tk : Takes X W) (s : SR fa X.K N H σ E) (g : Sub H0 H)
    (h : Post ca W H0 σ P ((it E).bd k)) (hk : ∀ q J H1, it E = .ok q → Sub H H1 → Wk fa X.K (hide H1 (del N σ q.2)) (hide H1 N) J q.1 → Post ca W H0 σ P (k q) → R J H1) : tI X tg iter σ H R := by
  refine ha W tk N H σ E R s ?_
  cases q : it E with
  | ok r => rw [q] at h; exact fun v H1 g1 rr => hk r v H1 q g1 rr h
  | ex c x => rw [q] at h; exact fun dd H' g' ed => h dd H' (g.trans g') (ed.from g)
  | bad => rw [q] at h; exact h.elim
theorem noDep_ok {K : PySem.W.Frag} {N : Addr → Prop} {H H' : Hp} {σ : L2.St} {E : Env} {items xs : List D} {l p : List Nat} {vs : List V} (s : SR fa K N H σ E) (g : Sub H H') (e : noDep items p = .ok (xs, l)) (h : RepL fa K (hide H' (del N σ p)) items vs) :
    RepL fa K (hide H' N) xs vs ∧ xs = items := by
  unfold noDep at e
  cases p with
  | nil =>
    simp only [R.ok.injEq, Prod.mk.injEq] at e
    obtain ⟨rfl, _⟩ := e
    exact ⟨RepL.sub (hide_mono (Sub.refl _) fun b _ _ n => del_nil.mpr n) _ _ h, rfl⟩
  | cons i p =>
    dsimp only at e
    split at e
    · rename_i im
      simp only [R.ok.injEq, Prod.mk.injEq] at e
      obtain ⟨rfl, _⟩ := e
      exact ⟨RepL.unhide (fun b n => by obtain ⟨o, q, m⟩ := s.sub b n; exact ⟨o, g _ _ q, m⟩) _ _ im h, rfl⟩
    · cases e
theorem noDep_bd {α : Type} {items : List D} {p : List Nat} (k : List D × List Nat → R α) : noDep items p = .ok (items, []) ∧ (noDep items p).bd k = k (items, []) ∨ noDep items p = .bad ∧ (noDep items p).bd k = .bad := by
  unfold noDep
  cases p with
  | nil => exact .inl ⟨rfl, rfl⟩
  | cons i p =>
    by_cases im : D.immL items = true
    · simp [im]
    · simp [im]
theorem wk_list {K : PySem.W.Frag} {Zt Zi : Hp} {a : Addr} {vs : List V} {ds : List D} (h : Zt a = some (.lst vs)) (hi : RepL fa K Zi ds vs) : Wk fa K Zt Zi (Itl K a) ds where
  go := fun i H d st si e => by
    obtain ⟨v, q1, q2⟩ := hi.get e
    refine ⟨⟨vs, v, SqL.of (st _ _ h), q1⟩, fun x H' y => ?_⟩
    obtain ⟨rfl, y⟩ := y
    have z := y vs (SqL.of (st _ _ h))
    rw [q1] at z; cases z
    exact NewR.old q2 si
  stop := fun i H st si le => ⟨vs, SqL.of (st _ _ h), by rw [← hi.length]; exact le⟩
theorem wk_tup {K : PySem.W.Frag} {Zt Zi : Hp} {a : Addr} {vs : List V} {ds : List D} (h : SqT K Zt a vs) (hi : RepL fa K Zi ds vs) : Wk fa K Zt Zi (Itt K a) ds where
  go := fun i H d st si e => by
    obtain ⟨v, q1, q2⟩ := hi.get e
    refine ⟨⟨vs, v, SqT.sub h st, q1⟩, fun x H' y => ?_⟩
    obtain ⟨rfl, y⟩ := y
    have z := y vs (SqT.sub h st)
    rw [q1] at z; cases z
    exact NewR.old q2 si
  stop := fun i H st si le => ⟨vs, SqT.sub h st, by rw [← hi.length]; exact le⟩
theorem wk_range {K : PySem.W.Frag} {Zt Zi : Hp} {lo : Int} {n : Nat} : Wk fa K Zt Zi (L2.Itr lo n) ((upto lo n).map .int) where
  go := fun i H d st si e => by
    simp only [upto, List.map_map, List.getElem?_map, Option.map_eq_some_iff] at e
    obtain ⟨k, e1, e2⟩ := e
    have lt : i < n := by
      have := (List.getElem?_eq_some_iff.mp e1).1
      simpa using this
    rw [List.getElem?_range lt] at e1
    cases e1
    refine ⟨lt, fun x H' y => ?_⟩
    obtain ⟨rfl, rfl⟩ := y
    rw [← e2]
    exact newR_int
  stop := fun i H st si le => by
    have : n ≤ i := by simpa [upto] using le
    exact this
theorem numbered_get : ∀ {ds : List D} {k i : Nat} {d : D}, (numbered k ds)[i]? = some d → ∃ e, ds[i]? = some e ∧ d = .tup [.int ((k + i : Nat) : Int), e]
  | [], _, _, _, h => by simp [numbered] at h
  | x :: xs, k, 0, d, h => by
    simp only [numbered, List.getElem?_cons_zero, Option.some.injEq] at h
    exact ⟨x, by simp, by rw [← h]; simp⟩
  | x :: xs, k, i + 1, d, h => by
    simp only [numbered, List.getElem?_cons_succ] at h
    obtain ⟨e, h1, h2⟩ := numbered_get h
    refine ⟨e, by simpa using h1, ?_⟩
    rw [h2]
    have : k + 1 + i = k + (i + 1) := by omega
    rw [this]
theorem numbered_length : ∀ (ds : List D) (k : Nat), (numbered k ds).length = ds.length
  | [], _ => rfl
  | x :: xs, k => by simp [numbered, numbered_length xs]
theorem wk_enum {K : PySem.W.Frag} {Zt Zi : Hp} {a : Addr} {vs : List V} {ds : List D} (h : Zt a = some (.lst vs)) (hi : RepL fa K Zi ds vs) : Wk fa K Zt Zi (Ite K a) (numbered 0 ds) where
  go := fun i H d st si e => by
    obtain ⟨e0, e1, e2⟩ := numbered_get e
    obtain ⟨v, q1, q2⟩ := hi.get e1
    refine ⟨⟨vs, v, SqL.of (st _ _ h), q1⟩, fun x H' y => ?_⟩
    obtain ⟨T, w, rfl, nT, rfl, y⟩ := y
    have z := y vs (SqL.of (st _ _ h))
    rw [q1] at z; cases z
    rw [e2, Nat.zero_add]
    exact NewR.tuple nT si (.cons_ (by simp [Rep]) (.one q2))
  stop := fun i H st si le => ⟨vs, SqL.of (st _ _ h), by rw [← hi.length, ← numbered_length ds 0]; exact le⟩
theorem wk_enumT {K : PySem.W.Frag} {Zt Zi : Hp} {a : Addr} {vs : List V} {ds : List D} (h : SqT K Zt a vs) (hi : RepL fa K Zi ds vs) : Wk fa K Zt Zi (ItE K a) (numbered 0 ds) where
  go := fun i H d st si e => by
    obtain ⟨e0, e1, e2⟩ := numbered_get e
    obtain ⟨v, q1, q2⟩ := hi.get e1
    refine ⟨⟨vs, v, SqT.sub h st, q1⟩, fun x H' y => ?_⟩
    obtain ⟨T, w, rfl, nT, rfl, y⟩ := y
    have z := y vs (SqT.sub h st)
    rw [q1] at z; cases z
    rw [e2, Nat.zero_add]
    exact NewR.tuple nT si (.cons_ (by simp [Rep]) (.one q2))
  stop := fun i H st si le => ⟨vs, SqT.sub h st, by rw [← hi.length, ← numbered_length ds 0]; exact le⟩
theorem paired_get : ∀ {ds es : List D} {i : Nat} {d : D}, (paired ds es)[i]? = some d → ∃ x y, ds[i]? = some x ∧ es[i]? = some y ∧ d = .tup [x, y]
  | [], es, _, _, h => by cases es <;> simp [paired] at h
  | x :: xs, [], _, _, h => by simp [paired] at h
  | x :: xs, y :: ys, 0, d, h => by
    simp only [paired, List.getElem?_cons_zero, Option.some.injEq] at h
    exact ⟨x, y, by simp, by simp, h.symm⟩
  | x :: xs, y :: ys, i + 1, d, h => by
    simp only [paired, List.getElem?_cons_succ] at h
    obtain ⟨e, f, h1, h2, h3⟩ := paired_get h
    exact ⟨e, f, by simpa using h1, by simpa using h2, h3⟩
theorem paired_length : ∀ (ds es : List D), (paired ds es).length = min ds.length es.length
  | [], es => by cases es <;> simp [paired]
  | x :: xs, [] => by simp [paired]
  | x :: xs, y :: ys => by simp [paired, paired_length xs ys]
theorem wk_zip {K : PySem.W.Frag} {Zt Zi : Hp} {a b : Addr} {vs us : List V} {ds es : List D} (h : Zt a = some (.lst vs)) (h' : Zt b = some (.lst us)) (hi : RepL fa K Zi ds vs) (hi' : RepL fa K Zi es us) : Wk fa K Zt Zi (Itz K a b) (paired ds es) where
  go := fun i H d st si e => by
    obtain ⟨e0, f0, e1, f1, e2⟩ := paired_get e
    obtain ⟨v, q1, q2⟩ := hi.get e1
    obtain ⟨u, r1, r2⟩ := hi'.get f1
    refine ⟨⟨vs, us, v, u, SqL.of (st _ _ h), SqL.of (st _ _ h'), q1, r1⟩, fun x H' y => ?_⟩
    obtain ⟨T, w, z, rfl, nT, rfl, y1, y2⟩ := y
    have z1 := y1 vs (SqL.of (st _ _ h))
    rw [q1] at z1; cases z1
    have z2 := y2 us (SqL.of (st _ _ h'))
    rw [r1] at z2; cases z2
    rw [e2]
    exact NewR.tuple nT si (.cons_ q2 (.one r2))
  stop := fun i H st si le => ⟨vs, us, SqL.of (st _ _ h), SqL.of (st _ _ h'), by rw [← hi.length, ← hi'.length]; rw [paired_length] at le; omega⟩
/-- a list or a tuple -/
theorem snd_seq (ha : Snd fa ca X a da) : SndI fa ca X tg a (iSeq da) := fun W tk N H σ E R s p => by
  unfold iSeq at p
  by_cases ht : ∃ r xs, da E = .ok r ∧ r.d = .tup xs
  · obtain ⟨r0, xs0, z1, z2⟩ := ht
    refine of_pi (pi_tup (peE (e := a))) ?_
    show tE X a σ H _
    refine ha.bd tk s (Sub.refl _) p fun r x H1 e1 g1 r1 p1 => ?_
    rw [z1] at e1; cases e1
    have k1 := r1.kid s g1
    have k2 := r1.all s g1
    rw [z2] at k1 k2
    simp only [z2] at p1
    rcases noDep_bd (items := xs0) (p := r0.kc) (fun q => .ok (q.1, r0.kp)) with ⟨n1, n2⟩ | ⟨n1, n2⟩ <;> rw [n2] at p1
    · have ek : r0.kp = r0.kc := by
        unfold Rv.kp Rv.kc
        cases et : r0.t with
        | sl i =>
          unfold RR at r1
          rw [et] at r1
          obtain ⟨ad, _, _, tp⟩ := s.ow _ _ r1.1
          rw [z2] at tp
          exact tp.elim
        | _ => rfl
      simp only [Rep] at k2
      obtain ⟨v', vs', e', h3, h4⟩ := k2
      subst e'
      exact ⟨_, rfl, ⟨vs', SqT.sub h3 hide_sub⟩, p1 _ H1 g1 (wk_tup h3 (noDep_ok s g1 n1 (ek ▸ h4)).1)⟩
    · exact p1.elim
  · refine of_pi (pi_list (peE (e := a))) ?_
    show tE X a σ H _
    refine ha.bd tk s (Sub.refl _) p fun r x H1 e1 g1 r1 p1 => ?_
    have k1 := r1.kid s g1
    have k2 := r1.all s g1
    cases hd : r.d <;> simp only [hd] at p1 k1 k2 <;> try exact p1.elim
    · rename_i xs0
      rcases noDep_bd (items := xs0) (p := r.kc) (fun q => .ok (q.1, r.kp)) with ⟨n1, n2⟩ | ⟨n1, n2⟩ <;> rw [n2] at p1
      · simp only [Rep] at k2
        obtain ⟨v, vs, e, h1, h2⟩ := k1
        obtain ⟨v', vs', e', h3, h4⟩ := k2
        subst e; cases e'
        have : vs' = vs := by
          have q3 := hide_sub _ _ h3
          rw [h1] at q3; cases q3; rfl
        subst this
        exact ⟨_, rfl, ⟨vs', SqL.of h1⟩, p1 _ H1 g1 (wk_list h3 (noDep_ok s g1 n1 h2).1)⟩
      · exact p1.elim
    · exact (ht ⟨r, _, e1, hd⟩).elim
theorem snd_range1 {p0 : Pos} (hg : Gl X "range") (hm : X.mg "range" = none) (hs : notStar a = true) (ha : Snd fa ca X a da) : SndI fa ca X tg (.Call (.Name "range" p0) [a] [] pos) (iRng1 da) := fun W tk N H σ E R s p => by
  refine of_pi (pi_range1 hg hm (pa_cons (peE (e := a)) pa_nil (star_cons hs)) (star_cons hs)) ?_
  unfold iRng1 at p
  show tE X a σ H _
  refine ha.bd tk s (Sub.refl _) p fun r x H1 e1 g1 r1 p1 => ?_
  have k1 := r1.kid s g1
  cases hd : r.d <;> simp only [hd] at p1 k1 <;> try exact p1.elim
  rename_i n
  split at p1
  · rename_i ok
    simp only [okRng, Bool.and_eq_true, below_iff] at ok
    have e := k1.int; subst e
    exact ⟨n, rfl, by omega, by omega, p1 _ H1 g1 wk_range⟩
  · exact p1.elim
theorem snd_range2 {p0 : Pos} (hg : Gl X "range") (hm : X.mg "range" = none) (hs : notStar a = true) (hs2 : notStar b = true) (ha : Snd fa ca X a da) (hb : Snd fa ca X b db) : SndI fa ca X tg (.Call (.Name "range" p0) [a, b] [] pos) (iRng2 da db) := fun W tk N H σ E R s p => by
  refine of_pi (pi_range2 hg hm (pa_cons (peE (e := a)) (pa_cons (peE (e := b)) pa_nil (star_cons hs2)) (star_cons hs)) (by rw [star_cons hs, star_cons hs2]; rfl) (star_cons hs2)) ?_
  unfold iRng2 at p
  show tE X a σ H _
  refine ha.bd tk s (Sub.refl _) p fun r x H1 e1 g1 r1 p1 => ?_
  refine hb.bd tk (s.grow g1) g1 p1 fun r' y H2 e2 g2 r2 p2 => ?_
  have k1 := (r1.grow g2).kid s (g1.trans g2)
  have k2 := r2.kid (s.grow g1) g2
  cases hd : r.d <;> simp only [hd] at p2 k1 <;> try exact p2.elim
  cases hd2 : r'.d <;> simp only [hd2] at p2 k2 <;> try exact p2.elim
  rename_i m n
  split at p2
  · rename_i ok
    simp only [okRng, Bool.and_eq_true, below_iff] at ok
    have e := k1.int; subst e
    have e := k2.int; subst e
    exact ⟨m, n, rfl, ⟨by omega, by omega, by omega, by omega⟩, p2 _ H2 (g1.trans g2) wk_range⟩
  · exact p2.elim
/-- a walked thing that is a list, or a tuple -/
theorem snd_enum {p0 tp : Pos} {els : List Expr} {kk : Nat} (hg : Gl X "enumerate") (hm : X.mg "enumerate" = none) (hs : notStar a = true) (ha : Snd fa ca X a da) : SndI fa ca X (.Tuple els kk tp) (.Call (.Name "enumerate" p0) [a] [] pos) (iEnum da) := fun W tk N H σ E R s p => by
  unfold iEnum at p
  by_cases ht : ∃ r xs, da E = .ok r ∧ r.d = .tup xs
  · obtain ⟨r0, xs0, z1, z2⟩ := ht
    refine of_pi (pi_enumT hg hm (pa_cons (peE (e := a)) pa_nil (star_cons hs)) (star_cons hs)) ?_
    show tE X a σ H _
    refine ha.bd tk s (Sub.refl _) p fun r x H1 e1 g1 r1 p1 => ?_
    rw [z1] at e1; cases e1
    have k2 := r1.all s g1
    rw [z2] at k2
    simp only [z2] at p1
    rcases noDep_bd (items := xs0) (p := r0.kc) (fun q => .ok (numbered 0 q.1, r0.kp)) with ⟨n1, n2⟩ | ⟨n1, n2⟩ <;> rw [n2] at p1
    · have ek : r0.kp = r0.kc := by
        unfold Rv.kp Rv.kc
        cases et : r0.t with
        | sl i =>
          unfold RR at r1
          rw [et] at r1
          obtain ⟨ad, _, _, tp⟩ := s.ow _ _ r1.1
          rw [z2] at tp
          exact tp.elim
        | _ => rfl
      simp only [Rep] at k2
      obtain ⟨v', vs', e', h3, h4⟩ := k2
      subst e'
      exact ⟨_, vs', rfl, SqT.sub h3 hide_sub, p1 _ H1 g1 (wk_enumT h3 (noDep_ok s g1 n1 (ek ▸ h4)).1)⟩
    · exact p1.elim
  · refine of_pi (pi_enum hg hm (pa_cons (peE (e := a)) pa_nil (star_cons hs)) (star_cons hs)) ?_
    show tE X a σ H _
    refine ha.bd tk s (Sub.refl _) p fun r x H1 e1 g1 r1 p1 => ?_
    have k1 := r1.kid s g1
    have k2 := r1.all s g1
    cases hd : r.d <;> simp only [hd] at p1 k1 k2 <;> try exact p1.elim
    · rename_i xs0
      rcases noDep_bd (items := xs0) (p := r.kc) (fun q => .ok (numbered 0 q.1, r.kp)) with ⟨n1, n2⟩ | ⟨n1, n2⟩ <;> rw [n2] at p1
      · simp only [Rep] at k2
        obtain ⟨v, vs, e, h1, h2⟩ := k1
        obtain ⟨v', vs', e', h3, h4⟩ := k2
        subst e; cases e'
        have : vs' = vs := by
          have q3 := hide_sub _ _ h3
          rw [h1] at q3; cases q3; rfl
        subst this
        exact ⟨_, vs', rfl, SqL.of h1, p1 _ H1 g1 (wk_enum h3 (noDep_ok s g1 n1 h2).1)⟩
      · exact p1.elim
    · exact (ht ⟨r, _, e1, hd⟩).elim
theorem wk_zipT {K : PySem.W.Frag} {Zt Zi : Hp} {a b : Addr} {vs us : List V} {ds es : List D} (h : SqT K Zt a vs) (h' : SqT K Zt b us) (hi : RepL fa K Zi ds vs) (hi' : RepL fa K Zi es us) : Wk fa K Zt Zi (RZ.ItzT K a b) (paired ds es) where
  go := fun i H d st si e => by
    obtain ⟨e0, f0, e1, f1, e2⟩ := paired_get e
    obtain ⟨v, q1, q2⟩ := hi.get e1
    obtain ⟨u, r1, r2⟩ := hi'.get f1
    refine ⟨⟨vs, us, v, u, SqT.sub h st, SqT.sub h' st, q1, r1⟩, fun x H' y => ?_⟩
    obtain ⟨T, w, z, rfl, nT, rfl, y1, y2⟩ := y
    have z1 := y1 vs (SqT.sub h st)
    rw [q1] at z1; cases z1
    have z2 := y2 us (SqT.sub h' st)
    rw [r1] at z2; cases z2
    rw [e2]
    exact NewR.tuple nT si (.cons_ q2 (.one r2))
  stop := fun i H st si le => ⟨vs, us, SqT.sub h st, SqT.sub h' st, by rw [← hi.length, ← hi'.length]; rw [paired_length] at le; omega⟩
theorem wk_zipTL {K : PySem.W.Frag} {Zt Zi : Hp} {a b : Addr} {vs us : List V} {ds es : List D} (h : SqT K Zt a vs) (h' : Zt b = some (.lst us)) (hi : RepL fa K Zi ds vs) (hi' : RepL fa K Zi es us) : Wk fa K Zt Zi (RZ.ItzTL K a b) (paired ds es) where
  go := fun i H d st si e => by
    obtain ⟨e0, f0, e1, f1, e2⟩ := paired_get e
    obtain ⟨v, q1, q2⟩ := hi.get e1
    obtain ⟨u, r1, r2⟩ := hi'.get f1
    refine ⟨⟨vs, us, v, u, SqT.sub h st, SqL.of (st _ _ h'), q1, r1⟩, fun x H' y => ?_⟩
    obtain ⟨T, w, z, rfl, nT, rfl, y1, y2⟩ := y
    have z1 := y1 vs (SqT.sub h st)
    rw [q1] at z1; cases z1
    have z2 := y2 us (SqL.of (st _ _ h'))
    rw [r1] at z2; cases z2
    rw [e2]
    exact NewR.tuple nT si (.cons_ q2 (.one r2))
  stop := fun i H st si le => ⟨vs, us, SqT.sub h st, SqL.of (st _ _ h'), by rw [← hi.length, ← hi'.length]; rw [paired_length] at le; omega⟩
theorem snd_zip {p0 tp : Pos} {els : List Expr} {kk : Nat} (hg : Gl X "zip") (hm : X.mg "zip" = none) (hs : notStar a = true) (hs2 : notStar b = true) (ha : Snd fa ca X a da) (hb : Snd fa ca X b db) : SndI fa ca X (.Tuple els kk tp) (.Call (.Name "zip" p0) [a, b] [] pos) (iZip da db) := fun W tk N H σ E R s p => by
  refine of_pi (RZ.pi_zipM hg hm (pa_cons (peE (e := a)) (pa_cons (peE (e := b)) pa_nil (star_cons hs2)) (star_cons hs)) (star_cons hs) (by rw [star_cons hs2]; rfl)) ?_
  unfold iZip at p
  show tE X a σ H _
  refine ha.bd tk s (Sub.refl _) p fun r x H1 e1 g1 r1 p1 => ?_
  refine hb.bd tk (s.grow g1) g1 p1 fun r' y H2 e2 g2 r2 p2 => ?_
  have g12 := g1.trans g2
  have r1' := r1.grow g2
  have r2' := r2.from g1
  have k1 := r1'.kid s g12
  have k2 := r2'.kid s g12
  have l1 := r1'.all s g12
  have l2 := r2'.all s g12
  cases hd : r.d <;> simp only [hd] at p2 k1 l1 <;> try exact p2.elim
  · cases hd2 : r'.d <;> simp only [hd2] at p2 k2 l2 <;> try exact p2.elim
    rename_i xs ys
    rcases noDep_bd (items := xs) (p := r.kc) (fun q => (noDep ys r'.kc).bd fun q' => .ok (paired q.1 q'.1, r.kp ++ r'.kp)) with ⟨n1, n2⟩ | ⟨n1, n2⟩ <;> rw [n2] at p2
    · rcases noDep_bd (items := ys) (p := r'.kc) (fun q' => .ok (paired xs q'.1, r.kp ++ r'.kp)) with ⟨n3, n4⟩ | ⟨n3, n4⟩ <;> rw [n4] at p2
      · simp only [Rep] at l1 l2
        obtain ⟨v, vs, e, h1, h2⟩ := k1
        obtain ⟨v', vs', e', h3, h4⟩ := l1
        subst e; cases e'
        have ev : vs' = vs := by
          have q3 := hide_sub _ _ h3
          rw [h1] at q3; cases q3; rfl
        subst ev
        obtain ⟨u, us, e, h5, h6⟩ := k2
        obtain ⟨u', us', e', h7, h8⟩ := l2
        subst e; cases e'
        have ev : us' = us := by
          have q3 := hide_sub _ _ h7
          rw [h5] at q3; cases q3; rfl
        subst ev
        exact ⟨_, _, vs', us', rfl, .inl ⟨SqL.of h1, SqL.of h5, p2 _ H2 g12 (wk_zip (hide_dep mem_app_l _ _ h3) (hide_dep mem_app_r _ _ h7) (noDep_ok s g12 n1 h2).1 (noDep_ok s g12 n3 h6).1)⟩⟩
      · exact p2.elim
    · exact p2.elim
  · cases hd2 : r'.d <;> simp only [hd2] at p2 k2 l2 <;> try exact p2.elim
    · rename_i xs ys
      have ek1 : r.kp = r.kc := by
        unfold Rv.kp Rv.kc
        cases et : r.t with
        | sl i =>
          unfold RR at r1'
          rw [et] at r1'
          obtain ⟨ad, _, _, tp⟩ := s.ow _ _ r1'.1
          rw [hd] at tp
          exact tp.elim
        | _ => rfl
      rcases noDep_bd (items := xs) (p := r.kc) (fun q => (noDep ys r'.kc).bd fun q' => .ok (paired q.1 q'.1, r.kp ++ r'.kp)) with ⟨n1, n2⟩ | ⟨n1, n2⟩ <;> rw [n2] at p2
      · rcases noDep_bd (items := ys) (p := r'.kc) (fun q' => .ok (paired xs q'.1, r.kp ++ r'.kp)) with ⟨n3, n4⟩ | ⟨n3, n4⟩ <;> rw [n4] at p2
        · simp only [Rep] at l1 l2
          obtain ⟨v', vs', e', h3, h4⟩ := l1
          subst e'
          obtain ⟨u, us, e, h5, h6⟩ := k2
          obtain ⟨u', us', e', h7, h8⟩ := l2
          subst e; cases e'
          have ev : us' = us := by
            have q3 := hide_sub _ _ h7
            rw [h5] at q3; cases q3; rfl
          subst ev
          exact ⟨_, _, vs', us', rfl, .inr (.inr ⟨SqT.sub h3 hide_sub, SqL.of h5, p2 _ H2 g12 (wk_zipTL (SqT.sub h3 (hide_dep mem_app_l)) (hide_dep mem_app_r _ _ h7) (noDep_ok s g12 n1 (ek1 ▸ h4)).1 (noDep_ok s g12 n3 h6).1)⟩)⟩
        · exact p2.elim
      · exact p2.elim
    · rename_i xs ys
      have ek1 : r.kp = r.kc := by
        unfold Rv.kp Rv.kc
        cases et : r.t with
        | sl i =>
          unfold RR at r1'
          rw [et] at r1'
          obtain ⟨ad, _, _, tp⟩ := s.ow _ _ r1'.1
          rw [hd] at tp
          exact tp.elim
        | _ => rfl
      have ek2 : r'.kp = r'.kc := by
        unfold Rv.kp Rv.kc
        cases et : r'.t with
        | sl i =>
          unfold RR at r2'
          rw [et] at r2'
          obtain ⟨ad, _, _, tp⟩ := s.ow _ _ r2'.1
          rw [hd2] at tp
          exact tp.elim
        | _ => rfl
      rcases noDep_bd (items := xs) (p := r.kc) (fun q => (noDep ys r'.kc).bd fun q' => .ok (paired q.1 q'.1, r.kp ++ r'.kp)) with ⟨n1, n2⟩ | ⟨n1, n2⟩ <;> rw [n2] at p2
      · rcases noDep_bd (items := ys) (p := r'.kc) (fun q' => .ok (paired xs q'.1, r.kp ++ r'.kp)) with ⟨n3, n4⟩ | ⟨n3, n4⟩ <;> rw [n4] at p2
        · simp only [Rep] at l1 l2
          obtain ⟨v', vs', e', h3, h4⟩ := l1
          subst e'
          obtain ⟨u', us', e', h7, h8⟩ := l2
          subst e'
          exact ⟨_, _, vs', us', rfl, .inr (.inl ⟨SqT.sub h3 hide_sub, SqT.sub h7 hide_sub, p2 _ H2 g12 (wk_zipT (SqT.sub h3 (hide_dep mem_app_l)) (SqT.sub h7 (hide_dep mem_app_r)) (noDep_ok s g12 n1 (ek1 ▸ h4)).1 (noDep_ok s g12 n3 (ek2 ▸ h8)).1)⟩)⟩
        · exact p2.elim
      · exact p2.elim
end
end Rt
end
section
set_option linter.all false
set_option autoImplicit false
set_option Elab.async false
set_option maxRecDepth 100000
set_option maxHeartbeats 2000000
namespace Rt
open PySem PySem.Spec PyProof.Rows L2
section
variable {fa ca : Nat → Addr} {X : Cx} {a b c e tg iter elt : Expr} {da db dc : Ex} {ta tb tc : Tst} {pos : Pos} {it : Itr}
/-! ### targets -/
def tG (X : Cx) (tg : Expr) : TG := fun v σ H Q => ∀ (pins : List (Addr × Obj)) (s : Shared) (u : Value), Inv X pins σ H s → RelV v u →
  wpAny (model X.prog X.w) X.A (assign tg X.env u) (fun _ s' => ∃ σ' H', Inv X pins σ' H' s' ∧ Q σ' H') X.xe s
theorem pgG : PG X tg (tG X tg) := ⟨fun pins s σ H v u Q I r h => h pins s u I r⟩
theorem of_pg {g : TG} {v : V} {σ : L2.St} {H : Hp} {Q : L2.St → Hp → Prop} (h : PG X tg g) (k : g v σ H Q) : tG X tg v σ H Q := fun pins s u I r => h.run pins s σ H v u Q I r k
def tGs (X : Cx) (tgs : List Expr) : TGs := fun vs σ H Q => ∀ (pins : List (Addr × Obj)) (s : Shared) (us : List Value), Inv X pins σ H s → Vals vs us →
  wpAny (model X.prog X.w) X.A (assignInOrder ((assignEach tgs X.env).map (·.2)) us) (fun _ s' => ∃ σ' H', Inv X pins σ' H' s' ∧ Q σ' H') X.xe s
theorem pgsG {tgs : List Expr} : PGs X tgs (tGs X tgs) := ⟨fun pins s σ H vs us Q I r h => h pins s us I r⟩
theorem of_pgs {tgs : List Expr} {g : TGs} {vs : List V} {σ : L2.St} {H : Hp} {Q : L2.St → Hp → Prop} (h : PGs X tgs g) (k : g vs σ H Q) : tGs X tgs vs σ H Q := fun pins s us I r => h.run pins s σ H vs us Q I r k
/-- but for the slots l alike -/
def But {α : Type} (l : List Nat) (σ σ' : List α) : Prop := ∀ j, j ∉ l → σ'[j]? = σ[j]?
theorem But.trans {α : Type} {l m : List Nat} {x y z : List α} (h : But l x y) (k : But m y z) : But (l ++ m) x z := fun j nj => by
  rw [List.mem_append, not_or] at nj
  rw [k j nj.2, h j nj.1]
/-- what targets do -/
structure Mv (is : List Nat) (σ : L2.St) (E : Env) (σ' : L2.St) (E' : Env) : Prop where
  st : But is σ σ'
  env : But is E E'
  len : σ'.length = σ.length
  own : ∀ (i : Nat) (d : D), E'[i]? = some (some (d, true)) → E[i]? = some (some (d, true)) ∧ σ'[i]? = σ[i]?
theorem Mv.trans {l m : List Nat} {σ σ1 σ2 : L2.St} {E E1 E2 : Env} (h : Mv l σ E σ1 E1) (k : Mv m σ1 E1 σ2 E2) : Mv (l ++ m) σ E σ2 E2 :=
  ⟨h.st.trans k.st, h.env.trans k.env, k.len.trans h.len, fun i d e => by
    obtain ⟨q1, q2⟩ := k.own i d e
    obtain ⟨q3, q4⟩ := h.own i d q1
    exact ⟨q3, q2.trans q4⟩⟩
structure SndG (fa : Nat → Addr) (X : Cx) (tg : Expr) (is : List Nat) (g : Tg) : Prop where
  run : ∀ (N : Addr → Prop) (H : Hp) (σ : L2.St) (E : Env) (d : D) (v : V) (E' : Env) (Q : L2.St → Hp → Prop), SR fa X.K N H σ E → Rep fa X.K (hide H N) d v → g d E = some E' →
    (∀ σ', SR fa X.K N H σ' E' → Mv is σ E σ' E' → Q σ' H) → tG X tg v σ H Q
structure SndGs (fa : Nat → Addr) (X : Cx) (tgs : List Expr) (is : List Nat) (gs : List Tg) : Prop where
  run : ∀ (N : Addr → Prop) (H : Hp) (σ : L2.St) (E : Env) (ds : List D) (vs : List V) (E' : Env) (Q : L2.St → Hp → Prop), SR fa X.K N H σ E → RepL fa X.K (hide H N) ds vs → gAll gs ds E = some E' →
    (∀ σ', SR fa X.K N H σ' E' → Mv is σ E σ' E' → Q σ' H) → tGs X tgs vs σ H Q
  len : tgs.length = gs.length
theorem SR.put {K : PySem.W.Frag} {N : Addr → Prop} {H : Hp} {σ : L2.St} {E : Env} {i : Nat} {d : D} {v : V} (s : SR fa K N H σ E) (lt : i < E.length) (r : Rep fa K (hide H N) d v) : SR fa K N H (σ.set i (some v)) (E.set i (some (d, false))) where
  len := by simp [s.len]
  sub := s.sub
  fz := fun j d' e => by
    by_cases q : i = j
    · subst q
      rw [List.getElem?_set_self lt] at e
      cases e
      exact ⟨v, by rw [List.getElem?_set_self (by rw [s.len]; exact lt)], r⟩
    · rw [List.getElem?_set_ne q] at e
      obtain ⟨w, h1, h2⟩ := s.fz j d' e
      exact ⟨w, by rw [List.getElem?_set_ne q]; exact h1, h2⟩
  ow := fun j d' e => by
    by_cases q : i = j
    · subst q
      rw [List.getElem?_set_self lt] at e
      cases e
    · rw [List.getElem?_set_ne q] at e
      obtain ⟨w, h1, h2⟩ := s.ow j d' e
      exact ⟨w, by rw [List.getElem?_set_ne q]; exact h1, h2⟩
  inj := fun j k d' e' ad e1 e2 e3 e4 => by
    have z : ∀ {j : Nat} {d' : D}, (E.set i (some (d, false)))[j]? = some (some (d', true)) → i ≠ j := fun {j d'} e q => by
      subst q
      rw [List.getElem?_set_self lt] at e
      cases e
    have q1 := z e1
    have q2 := z e2
    rw [List.getElem?_set_ne q1] at e1 e3
    rw [List.getElem?_set_ne q2] at e2 e4
    exact s.inj j k d' e' ad e1 e2 e3 e4
theorem but_set {α : Type} {σ : List α} {i : Nat} {v : α} : But [i] σ (σ.set i v) := fun j nj => List.getElem?_set_ne fun z => nj (by rw [← z]; exact List.mem_cons_self)
theorem mv_put {σ : L2.St} {E : Env} {i : Nat} {v : Option V} {d : D} (lt : i < E.length) : Mv [i] σ E (σ.set i v) (E.set i (some (d, false))) :=
  ⟨but_set, but_set, by simp, fun j d' e => by
    have q : i ≠ j := fun q => by
      subst q
      rw [List.getElem?_set_self lt] at e
      cases e
    rw [List.getElem?_set_ne q] at e ⊢
    exact ⟨e, rfl⟩⟩
theorem sndG_name {i : Nat} {x : Str} (hN : X.N.Nodup) (hi : X.N[i]? = some x) (hx : Loc X.env.scope x) (hf : X.fn x = true ∨ X.env.scope.names.lookup x = some .local) : SndG fa X (.Name x pos) [i] (gName i) where
  run := fun N H σ E d v E' Q s r e k => by
    refine of_pg (pg_name hN hi hx hf) ?_
    unfold gName at e
    split at e
    · rename_i lt
      cases e
      exact k _ (s.put lt r) (mv_put lt)
    · cases e
theorem sndGs_nil : SndGs fa X [] [] [] where
  run := fun N H σ E ds vs E' Q s r e k => by
    refine of_pgs pgs_nil ?_
    cases ds with
    | nil =>
      simp only [gAll, Option.some.injEq] at e
      subst e
      simp only [RepL] at r
      exact ⟨r, k σ s ⟨fun _ _ => rfl, fun _ _ => rfl, rfl, fun _ _ e => ⟨e, rfl⟩⟩⟩
    | cons d ds => simp [gAll] at e
  len := rfl
def plainTg : Expr → Bool
  | .Name _ _ => true
  | .Tuple _ _ _ => true
  | _ => false
theorem each_cons {e : Expr} {es : List Expr} {env : PySem.Env} (h : plainTg e = true) : assignEach (e :: es) env = (false, assign e env) :: assignEach es env := by
  cases e <;> first | rfl | exact absurd h (by simp [plainTg])
theorem each_len {env : PySem.Env} : ∀ {es : List Expr}, es.all plainTg = true → (assignEach es env).length = es.length ∧ (assignEach es env).findIdx? (·.1) = none
  | [], _ => ⟨rfl, rfl⟩
  | e :: es, h => by
    simp only [List.all_cons, Bool.and_eq_true] at h
    obtain ⟨h1, h2⟩ := each_len (env := env) h.2
    rw [each_cons h.1]
    refine ⟨by simp [h1], ?_⟩
    rw [List.findIdx?_cons]
    simp [h2]
theorem sndGs_cons {tgs : List Expr} {is js : List Nat} {g : Tg} {gs : List Tg} (hp : plainTg tg = true) (h : SndG fa X tg is g) (hr : SndGs fa X tgs js gs) : SndGs fa X (tg :: tgs) (is ++ js) (g :: gs) where
  run := fun N H σ E ds vs E' Q s r e k => by
    refine of_pgs (pgs_cons pgG pgsG (by rw [each_cons hp]; rfl)) ?_
    cases ds with
    | nil => simp [gAll] at e
    | cons d ds =>
      simp only [RepL] at r
      obtain ⟨v, us, rfl, r1, r2⟩ := r
      simp only [gAll] at e
      obtain ⟨E1, e1, e2⟩ := Option.bind_eq_some_iff.mp e
      refine ⟨v, us, rfl, h.run N H σ E d v E1 _ s r1 e1 fun σ1 s1 m1 => ?_⟩
      exact hr.run N H σ1 E1 ds us E' _ s1 r2 e2 fun σ2 s2 m2 => k σ2 s2 (m1.trans m2)
  len := by simp [hr.len]
theorem gAll_len : ∀ {gs : List Tg} {ds : List D} {E E' : Env}, gAll gs ds E = some E' → ds.length = gs.length
  | [], [], _, _, _ => rfl
  | [], _ :: _, _, _, h => by simp [gAll] at h
  | _ :: _, [], _, _, h => by simp [gAll] at h
  | g :: gs, d :: ds, E, E', h => by
    simp only [gAll] at h
    obtain ⟨E1, _, h⟩ := Option.bind_eq_some_iff.mp h
    simp [gAll_len h]
theorem sndG_tup {tgs : List Expr} {is : List Nat} {gs : List Tg} {k : Nat} (hc : X.calm = true) (h : SndGs fa X tgs is gs) (hp : tgs.all plainTg = true) : SndG fa X (.Tuple tgs k pos) is (gTup gs) where
  run := fun N H σ E d v E' Q s r e kk => by
    obtain ⟨hn, hst⟩ := each_len (env := X.env) hp
    unfold gTup at e
    split at e
    · refine of_pg (pg_tup hc pgsG hn hst) ?_
      simp only [Rep] at r
      obtain ⟨ad, vs, rfl, r1, r2⟩ := r
      refine ⟨ad, vs, rfl, SqT.sub r1 hide_sub, ?_, h.run N H σ E _ vs E' Q s r2 e kk⟩
      rw [← r2.length, gAll_len e, h.len]
    · refine of_pg (pg_lst hc pgsG hn hst) ?_
      simp only [Rep] at r
      obtain ⟨ad, vs, rfl, r1, r2⟩ := r
      refine ⟨ad, vs, rfl, SqL.of (hide_sub _ _ r1), ?_, h.run N H σ E _ vs E' Q s r2 e kk⟩
      rw [← r2.length, gAll_len e, h.len]
    · cases e

/-! ### a block's own slots -/
theorem wipe_get : ∀ {vs : List Nat} {σ : L2.St} {j : Nat}, j ∉ vs → (wipe σ vs)[j]? = σ[j]? := fun {vs σ j} h => wipe_out h
theorem wipe_in : ∀ {vs : List Nat} {σ : L2.St} {j : Nat}, j ∈ vs → j < σ.length → (wipe σ vs)[j]? = some none
  | v :: vs, σ, j, h, lt => by
    unfold wipe
    by_cases q : v = j
    · subst q
      rw [List.getElem?_set_self (by rw [wipe_length]; exact lt)]
    · rw [List.getElem?_set_ne q]
      exact wipe_in ((List.mem_cons.mp h).resolve_left fun z => q z.symm) lt
theorem wipe_but {vs : List Nat} {σ σ' : L2.St} (h : But vs (wipe σ vs) σ') (l : σ'.length = (wipe σ vs).length) : wipe σ' vs = wipe σ vs := by
  refine List.ext_getElem? fun j => ?_
  by_cases q : j ∈ vs
  · by_cases lt : j < σ.length
    · rw [wipe_in q lt, wipe_in q (by rw [l, wipe_length]; exact lt)]
    · rw [List.getElem?_eq_none (by rw [wipe_length, l, wipe_length]; omega), List.getElem?_eq_none (by rw [wipe_length]; omega)]
  · rw [wipe_get q, h j q]
theorem wipeE_get : ∀ {vs : List Nat} {σ : Env} {j : Nat}, j ∉ vs → (wipeE vs σ)[j]? = σ[j]?
  | [], _, _, _ => rfl
  | v :: vs, σ, j, h => by
    rw [List.mem_cons, not_or] at h
    show ((wipeE vs σ).set v none)[j]? = _
    rw [List.getElem?_set_ne fun z => h.1 z.symm]
    exact wipeE_get h.2
theorem wipeE_length : ∀ (vs : List Nat) (σ : Env), (wipeE vs σ).length = σ.length
  | [], _ => rfl
  | v :: vs, σ => by
    show ((wipeE vs σ).set v none).length = _
    rw [List.length_set]; exact wipeE_length vs σ
theorem wipeE_some : ∀ {vs : List Nat} {σ : Env} {j : Nat} {x : D × Bool}, (wipeE vs σ)[j]? = some (some x) → j ∉ vs ∧ σ[j]? = some (some x)
  | [], _, _, _, h => ⟨by simp, h⟩
  | v :: vs, σ, j, x, h => by
    have h' : ((wipeE vs σ).set v none)[j]? = some (some x) := h
    by_cases q : v = j
    · subst q
      by_cases lt : v < (wipeE vs σ).length
      · rw [List.getElem?_set_self lt] at h'; cases h'
      · rw [List.getElem?_eq_none (by simpa using lt)] at h'; cases h'
    · rw [List.getElem?_set_ne q] at h'
      obtain ⟨h1, h2⟩ := wipeE_some h'
      exact ⟨by rw [List.mem_cons, not_or]; exact ⟨fun z => q z.symm, h1⟩, h2⟩
theorem SR.wipe {K : PySem.W.Frag} {N : Addr → Prop} {H : Hp} {σ : L2.St} {E : Env} (s : SR fa K N H σ E) (vs : List Nat) : SR fa K N H (L2.wipe σ vs) (wipeE vs E) where
  len := by rw [wipe_length, wipeE_length, s.len]
  sub := s.sub
  fz := fun j d e => by
    obtain ⟨q1, q2⟩ := wipeE_some e
    rw [wipe_get q1]
    exact s.fz j d q2
  ow := fun j d e => by
    obtain ⟨q1, q2⟩ := wipeE_some e
    rw [wipe_get q1]
    exact s.ow j d q2
  inj := fun j k d e ad e1 e2 e3 e4 => by
    obtain ⟨q1, q2⟩ := wipeE_some e1
    obtain ⟨q3, q4⟩ := wipeE_some e2
    rw [wipe_get q1] at e3
    rw [wipe_get q3] at e4
    exact s.inj j k d e ad q2 q4 e3 e4
/-- one more object that may change -/
theorem SR.also {K : PySem.W.Frag} {N : Addr → Prop} {H H2 : Hp} {σ : L2.St} {E : Env} {p : Addr} (s : SR fa K N H σ E) (g : Sub H H2) (np : H p = none) {o : HO} (hp : H2 p = some o) (mb : Mb o) : SR fa K (fun b => N b ∨ b = p) H2 σ E := by
  have sb : Sub (hide H N) (hide H2 fun b => N b ∨ b = p) := hide_mono g fun b o e n => n.elim id fun z => by rw [z, np] at e; cases e
  exact {
    len := s.len
    sub := fun b n => n.elim (fun n => by obtain ⟨o, e, m⟩ := s.sub b n; exact ⟨o, g _ _ e, m⟩) fun z => ⟨o, by rw [z]; exact hp, mb⟩
    fz := fun i d e => by
      obtain ⟨v, q1, q2⟩ := s.fz i d e
      exact ⟨v, q1, Rep.sub sb _ _ q2⟩
    ow := fun i d e => by
      obtain ⟨ad, q1, q2, q3⟩ := s.ow i d e
      exact ⟨ad, q1, .inl q2, q3.sub sb g⟩
    inj := s.inj }

/-! ### a clause's tests -/
def tTs (X : Cx) (ifs : List Expr) : TT := fun σ H Q => ∀ (pins : List (Addr × Obj)) (s : Shared), Inv X pins σ H s →
  wpAny (model X.prog X.w) X.A (forIn ifs true fun c r => if r = true then do let ok ← isTrue c X.env (eval c X.env); pure (ForInStep.yield ok) else pure (ForInStep.yield r)) (TP X pins σ Q) X.xe s
theorem of_pts {ifs : List Expr} {t : TT} {σ : L2.St} {H : Hp} {Q : Bool → Hp → Prop} (h : PTs X ifs t) (k : t σ H Q) : tTs X ifs σ H Q := fun pins s I => h.run pins s σ H Q I k
def SndTs (fa ca : Nat → Addr) (X : Cx) (ifs : List Expr) (f : Tst) : Prop := ∀ (W : WX), Takes X W → ∀ (N : Addr → Prop) (H : Hp) (σ : L2.St) (E : Env) (Q : Bool → Hp → Prop), SR fa X.K N H σ E →
  Post ca W H σ (fun k => ∀ H', Sub H H' → Q k H') (f E) → tTs X ifs σ H Q
def tYesD : Tst := fun _ => .ok true
theorem sndTs_nil : SndTs fa ca X [] tYesD := fun W tk N H σ E Q s p => of_pts pts_nil (p H (Sub.refl _))
theorem sndTs_one (h : SndT fa ca X c tc) : SndTs fa ca X [c] tc := fun W tk N H σ E Q s p => of_pts (pts_one (ptT (e := c))) (h W tk N H σ E Q s p)

/-! ### list comprehensions of one for -/
abbrev blkN (X : Cx) (scope : Scope) (s : Shared) (H : Hp) (C : Addr) (cl : List (Str × Addr)) (fp : List Addr) : Cx := X.blk s H scope (compEnvC scope cl C X.env) fp
def bE (X : Cx) (scope : Scope) (e : Expr) : TE := fun σ H Q => ∀ (s0 : Shared) (H0 : Hp) (C : Addr) (cl : List (Str × Addr)) (fp : List Addr), tE (blkN X scope s0 H0 C cl fp) e σ H Q
def bT (X : Cx) (scope : Scope) (ifs : List Expr) : TT := fun σ H Q => ∀ (s0 : Shared) (H0 : Hp) (C : Addr) (cl : List (Str × Addr)) (fp : List Addr), tTs (blkN X scope s0 H0 C cl fp) ifs σ H Q
def bG (X : Cx) (scope : Scope) (tg : Expr) : TG := fun v σ H Q => ∀ (s0 : Shared) (H0 : Hp) (C : Addr) (cl : List (Str × Addr)) (fp : List Addr), tG (blkN X scope s0 H0 C cl fp) tg v σ H Q
theorem pe_b {scope : Scope} : ∀ (s : Shared) (H : Hp) (C : Addr) (cl : List (Str × Addr)) (fp : List Addr), PE (blkN X scope s H C cl fp) e (bE X scope e) := fun s0 H0 C cl fp => ⟨fun pins st σ H Q I h => h s0 H0 C cl fp pins st I⟩
theorem pt_b {scope : Scope} {ifs : List Expr} : ∀ (s : Shared) (H : Hp) (C : Addr) (cl : List (Str × Addr)) (fp : List Addr), PTs (blkN X scope s H C cl fp) ifs (bT X scope ifs) := fun s0 H0 C cl fp => ⟨fun pins st σ H Q I h => h s0 H0 C cl fp pins st I⟩
theorem pg_b {scope : Scope} : ∀ (s : Shared) (H : Hp) (C : Addr) (cl : List (Str × Addr)) (fp : List Addr), PG (blkN X scope s H C cl fp) tg (bG X scope tg) := fun s0 H0 C cl fp => ⟨fun pins st σ H v u Q I r h => h s0 H0 C cl fp pins st u I r⟩
theorem fine_mem {own : List Nat} {E : Env} {l : List Nat} (h : fineAt own E l = true) {i : Nat} (hi : i ∈ l) : i ∉ own ∧ ∃ d, E[i]? = some (some (d, true)) := by
  unfold fineAt at h
  rw [List.all_eq_true] at h
  have q := h i hi
  simp only [Bool.and_eq_true, Bool.not_eq_true', List.contains_eq_mem, decide_eq_false_iff_not] at q
  refine ⟨q.1, ?_⟩
  have q2 := q.2
  split at q2
  · exact ⟨_, by assumption⟩
  · cases q2
theorem lc_read {ifs : List Expr} {scope : Scope} {own is : List Nat} {g : Tg} {t : Tst} {W : WX} {N : Addr → Prop} {H : Hp} {σ : L2.St} {E : Env} {Q : VK} (hi : SndI fa ca X tg iter it) (his : ∀ i ∈ is, i ∈ own)
    (hg : ∀ (s : Shared) (H : Hp) (C : Addr) (cl : List (Str × Addr)) (fp : List Addr), SndG fa (blkN X scope s H C cl fp) tg is g)
    (ht : ∀ (s : Shared) (H : Hp) (C : Addr) (cl : List (Str × Addr)) (fp : List Addr), SndTs fa ca (blkN X scope s H C cl fp) ifs t)
    (he : ∀ (s : Shared) (H : Hp) (C : Addr) (cl : List (Str × Addr)) (fp : List Addr), Snd fa ca (blkN X scope s H C cl fp) elt da)
    (tk : Takes X W) (s : SR fa X.K N H σ E) (p : Post ca W H σ (fun r => ∀ v H', Sub H H' → RR fa X.K N H H' σ E v r → Q v H') (xLC own it g t da E)) :
    tLc (tI X tg iter) (bG X scope tg) (bT X scope ifs) (bE X scope elt) own σ H Q := by
  unfold xLC at p
  refine hi.bd tk s (Sub.refl _) p fun q J H1 e1 g1 wk p1 => ?_
  intro L nL
  cases ql : lcGo own g t da (wipeE own E) q.1 with
  | ex c x => rw [ql] at p1; exact p1.elim
  | bad => rw [ql] at p1; exact p1.elim
  | ok w =>
    rw [ql] at p1
    dsimp only at p1
    split at p1
    case isFalse => exact p1.elim
    rename_i wl
    refine ⟨fun i m H2 => m = q.1.length - i ∧ i ≤ q.1.length ∧ Sub H1 H2 ∧ ∃ acc ds w', H2 L = some (.lst acc) ∧ RepL fa X.K (hide H2 fun b => del N σ w.2 b ∨ b = L) ds acc ∧
      lcGo own g t da (wipeE own E) (q.1.drop i) = .ok w' ∧ ds ++ w'.1 = w.1 ∧ ∀ j ∈ w'.2, j ∈ w.2, ⟨_, rfl, Nat.zero_le _, sub_upd nL, [], [], w, upd_same, RepL.nil_, by simpa using ql, rfl, fun _ h => h⟩, ?_⟩
    rintro i m H2 ⟨rfl, hil, g2, acc, ds, w', hL, hr, hl, hw, hd⟩
    have nL0 : H L = none := g1.none nL
    have zt : Sub (hide H1 (del N σ q.2)) H2 := fun b o e => g2 _ _ (hide_sub _ _ e)
    have zi : Sub (hide H1 N) H2 := fun b o e => g2 _ _ (hide_sub _ _ e)
    by_cases hlt : i < q.1.length
    · have hdr : q.1.drop i = q.1[i] :: q.1.drop (i + 1) := (List.getElem_cons_drop hlt).symm
      rw [hdr] at hl
      unfold lcGo at hl
      obtain ⟨jg, jy⟩ := wk.go i H2 q.1[i] zt zi (List.getElem?_eq_getElem hlt)
      refine .inr ⟨jg, fun H' => Sub H1 H' ∧ ∃ acc ds w', H' L = some (.lst acc) ∧ RepL fa X.K (hide H' fun b => del N σ w.2 b ∨ b = L) ds acc ∧
        lcGo own g t da (wipeE own E) (q.1.drop (i + 1)) = .ok w' ∧ ds ++ w'.1 = w.1 ∧ ∀ j ∈ w'.2, j ∈ w.2, fun H' ⟨k1, k2⟩ => ⟨q.1.length - (i + 1), by omega, rfl, hlt, k1, k2⟩, fun x H3 y3 => ?_⟩
      obtain ⟨g3, rx⟩ := jy x H3 y3
      have hL3 : H3 L = some (.lst acc) := g3 _ _ hL
      have sB : SR fa X.K (fun b => N b ∨ b = L) H3 (L2.wipe σ own) (wipeE own E) := (s.wipe own).also ((g1.trans g2).trans g3) nL0 hL3 trivial
      have rx' : Rep fa X.K (hide H3 fun b => N b ∨ b = L) q.1[i] x := Rep.sub (fun b o e => by
        cases z : H2 b with
        | none =>
          simp only [z] at e
          rw [hide_at fun n => ?_]
          · exact e
          · rcases n with n | n
            · obtain ⟨u, q1, _⟩ := s.sub b n
              rw [g2 _ _ (g1 _ _ q1)] at z; cases z
            · rw [n, hL] at z; cases z
        | some u =>
          simp only [z] at e
          refine hide_mono (g2.trans g3) (fun b o e n => ?_) b o e
          rcases n with n | n
          · exact n
          · rw [n, nL] at e; cases e) _ _ rx
      cases qg : g q.1[i] (wipeE own E) with
      | none => rw [qg] at hl; cases hl
      | some E2 =>
        simp only [qg] at hl
        intro s0 H0 C cl fp
        refine (hg s0 H0 C cl fp).run _ H3 _ _ _ x E2 _ sB rx' qg fun σ2 s2 ⟨b2, c2, l2, _⟩ => ?_
        have bo : But own (L2.wipe σ own) σ2 := fun j nj => b2 j fun z => nj (his j z)
        refine ⟨wipe_but bo l2, ?_⟩
        intro s0 H0 C cl fp
        refine ht s0 H0 C cl fp _ takes_none5 _ H3 σ2 E2 _ s2 ?_
        cases qt : t E2 with
        | ex c x => rw [qt] at hl; cases hl
        | bad => rw [qt] at hl; cases hl
        | ok k =>
          intro H4 g4
          cases k with
          | false =>
            simp only [qt] at hl
            simp only [Bool.false_eq_true, if_false]
            exact ⟨(g2.trans g3).trans g4, acc, ds, w', g4 _ _ hL3, RepL.sub (hide_mono (g3.trans g4) fun _ _ _ n => n) _ _ hr, hl, hw, hd⟩
          | true =>
            simp only [qt] at hl
            simp only [if_true]
            intro s0 H0 C cl fp
            refine he s0 H0 C cl fp _ takes_none5 _ H4 σ2 E2 _ (s2.grow g4) ?_
            cases qe : da E2 with
            | ex c x => rw [qe] at hl; cases hl
            | bad => rw [qe] at hl; cases hl
            | ok r =>
              simp only [qe] at hl
              split at hl
              case isFalse => cases hl
              rename_i fine
              cases qr : lcGo own g t da (wipeE own E) (q.1.drop (i + 1)) with
              | ex c x => rw [qr] at hl; cases hl
              | bad => rw [qr] at hl; cases hl
              | ok w2 =>
                rw [qr] at hl
                have hl' : w' = (r.d :: w2.1, r.kp ++ w2.2) := by cases hl; rfl
                subst hl'
                intro v H5 g5 rr
                have hL5 : H5 L = some (.lst acc) := g5 _ _ (g4 _ _ hL3)
                have al := rr.all (s2.grow g4) g5
                have g25 : Sub H2 H5 := (g3.trans g4).trans g5
                refine ⟨acc, hL5, ?_, ?_, acc ++ [v], ds ++ [r.d], w2, upd_same, ?_, rfl, by rw [← hw]; simp, fun j hj => hd j (List.mem_append_right _ hj)⟩
                · rw [← line_eq, ← hr.length]
                  have : w.1.length = ds.length + (w2.1.length + 1) := by rw [← hw]; simp
                  omega
                · exact fun b o e => by
                    have ne : b ≠ L := ne_of_none e nL
                    rw [upd_ne ne]
                    exact g25 _ _ (g2 _ _ e)
                · have up : ∀ b o, b ≠ L → H5 b = some o → ¬ (del N σ w.2 b) → hide (upd H5 L (.lst (acc ++ [v]))) (fun b => del N σ w.2 b ∨ b = L) b = some o := fun b o ne e nd => by
                    rw [hide_at fun z => z.elim nd ne, upd_ne ne]; exact e
                  refine RepL.append (RepL.sub (fun b o e => ?_) _ _ hr) (.one (Rep.sub (fun b o e => ?_) _ _ al))
                  · unfold hide at e
                    split at e
                    · cases e
                    · rename_i n
                      rw [not_or] at n
                      exact up b o n.2 (g25 _ _ e) n.1
                  · unfold hide at e
                    split at e
                    · cases e
                    · rename_i n
                      -- what stands in the value's slots is no new list, and stands in the slots of old
                      have key : ∀ j ∈ r.kp, ∀ bb, σ2[j]? = some (some (.ref bb)) → bb ≠ L ∧ σ[j]? = some (some (.ref bb)) := fun j hj bb e2 => by
                        obtain ⟨nj, d2, ed⟩ := fine_mem fine hj
                        have nis : j ∉ is := fun z => nj (his j z)
                        have e3 : σ[j]? = some (some (.ref bb)) := by rw [← wipe_get nj, ← bo j nj]; exact e2
                        have e4 : E[j]? = some (some (d2, true)) := by rw [← wipeE_get nj, ← c2 j nis]; exact ed
                        obtain ⟨ad, q1, q2, q3⟩ := s.ow j d2 e4
                        rw [e3] at q1; cases q1
                        refine ⟨fun z => ?_, e3⟩
                        obtain ⟨u, z1, _⟩ := s.sub _ q2
                        rw [z, nL0] at z1; cases z1
                      have ne : b ≠ L := fun z => n ⟨.inr z, fun ⟨j, hj, e2⟩ => (key j hj b e2).1 z⟩
                      refine up b o ne e fun nd => n ⟨.inl nd.1, fun ⟨j, hj, e2⟩ => nd.2 ⟨j, hd j (List.mem_append_left _ hj), (key j hj b e2).2⟩⟩
    · have ei : i = q.1.length := by omega
      subst ei
      rw [List.drop_length] at hl
      have ew : w' = ([], []) := by cases hl; rfl
      subst ew
      rw [List.append_nil] at hw
      subst hw
      refine .inl ⟨wk.stop _ H2 zt zi (Nat.le_refl _), p1 _ H2 (g1.trans g2) (rr_mkN s (g1.trans g2) nL0 ⟨acc, hL, hr⟩)⟩
theorem snd_lc {ifs : List Expr} {scope : Scope} {own : List (Str × Nat)} {is : List Nat} {g : Tg} {t : Tst} (hc : X.calm = true) (hN : X.N.Nodup) (hi : SndI fa ca X tg iter it) (ok : BlkOk X.N X.env.scope scope own) (his : ∀ i ∈ is, i ∈ own.map (·.2))
    (hg : ∀ (s : Shared) (H : Hp) (C : Addr) (cl : List (Str × Addr)) (fp : List Addr), SndG fa (blkN X scope s H C cl fp) tg is g)
    (ht : ∀ (s : Shared) (H : Hp) (C : Addr) (cl : List (Str × Addr)) (fp : List Addr), SndTs fa ca (blkN X scope s H C cl fp) ifs t)
    (he : ∀ (s : Shared) (H : Hp) (C : Addr) (cl : List (Str × Addr)) (fp : List Addr), Snd fa ca (blkN X scope s H C cl fp) elt da) (hs : ∀ x, foldedSetIterable iter X.env x = pure x) :
    Snd fa ca X (.ListComp elt [⟨tg, iter, ifs, 0⟩] scope pos) (xLC (own.map (·.2)) it g t da) := fun W tk N H σ E Q s p =>
  of_pe (pe_lc (own := own) hc hN piI ok pg_b pt_b pe_b hs) (lc_read hi his hg ht he tk s p)
end
end Rt
end
section
set_option linter.all false
set_option autoImplicit false
set_option Elab.async false
set_option maxRecDepth 100000
set_option maxHeartbeats 2000000
namespace Rt
open PySem PySem.Spec PyProof.Rows L2
/-! ### statements -/
def tS (X : Cx) (st : Stmt) : TS := fun D σ H => ∀ (pins : List (Addr × Obj)) (s : Shared), Inv X pins σ H s → wpAny (model X.prog X.w) X.A (exec st X.env) (SP X pins D) X.xe s
def tSs (X : Cx) (st : List Stmt) : TS := fun D σ H => ∀ (pins : List (Addr × Obj)) (s : Shared), Inv X pins σ H s → wpAny (model X.prog X.w) X.A (execs st X.env) (SP X pins D) X.xe s
/-- as of the def's start: H0, with U hidden from it -/
structure FS (H0 : Hp) (U N : Addr → Prop) (H : Hp) (σ : L2.St) (E : Env) : Prop where
  sub : Sub H0 H
  un : ∀ b, U b → N b
  ud : ∀ b, U b → ∃ o, H0 b = some o
  new : ∀ (i : Nat) (d : D) (a : Addr), E[i]? = some (some (d, true)) → σ[i]? = some (some (.ref a)) → H0 a = none
structure Fx (fa : Nat → Addr) (K : PySem.W.Frag) (H0 : Hp) (U N : Addr → Prop) (H : Hp) (σ : L2.St) (E : Env) : Prop where
  sr : SR fa K N H σ E
  fs : FS H0 U N H σ E
def PostS (fa ca : Nat → Addr) (K : PySem.W.Frag) (W : WX) (H0 : Hp) (U : Addr → Prop) (D : Ends) (Z : Hp) : O → Prop
  | .nx E' => ∀ (N' : Addr → Prop) (H' : Hp) (σ' : L2.St), Sub Z (hide H' N') → Fx fa K H0 U N' H' σ' E' → D.nx σ' H'
  | .rt d fr => ∀ (v : V) (H' : Hp), Sub H0 H' → RetR fa K U H0 H' v d fr → D.rt v H'
  | .ex c a _ => ∀ (dd : Addr) (σ' : L2.St) (H' : Hp), Sub H0 H' → ExD H0 H' dd a → W (.ref (ca c)) (some dd) σ' H'
  | .bad => False
def SndS (fa ca : Nat → Addr) (X : Cx) (st : Stmt) (f : Sm) : Prop := ∀ (W : WX), Takes X W → ∀ (H0 : Hp) (U N : Addr → Prop) (H : Hp) (σ : L2.St) (E : Env) (D : Ends), Fx fa X.K H0 U N H σ E →
  PostS fa ca X.K W H0 U D (hide H N) (f E) → tS X st D σ H
def SndSs (fa ca : Nat → Addr) (X : Cx) (st : List Stmt) (f : Sm) : Prop := ∀ (W : WX), Takes X W → ∀ (H0 : Hp) (U N : Addr → Prop) (H : Hp) (σ : L2.St) (E : Env) (D : Ends), Fx fa X.K H0 U N H σ E →
  PostS fa ca X.K W H0 U D (hide H N) (f E) → tSs X st D σ H
section
variable {fa ca : Nat → Addr} {X : Cx} {a b c e tg iter elt : Expr} {da db dc : Ex} {ta tb tc : Tst} {pos : Pos} {it : Itr} {st : Stmt} {sts body orelse : List Stmt} {f g fb fo : Sm}
theorem psS : PS X st (tS X st) := ⟨fun pins s σ H D I h => h pins s I⟩
theorem of_ps {t : TS} {D : Ends} {σ : L2.St} {H : Hp} (h : PS X st t) (k : t D σ H) : tS X st D σ H := fun pins s I => h.run pins s σ H D I k
theorem pssS : PSs X sts (tSs X sts) := ⟨fun pins s σ H D I h => h pins s I⟩
theorem of_pss {t : TS} {D : Ends} {σ : L2.St} {H : Hp} (h : PSs X sts t) (k : t D σ H) : tSs X sts D σ H := fun pins s I => h.run pins s σ H D I k
theorem Fx.grow {K : PySem.W.Frag} {H0 H H' : Hp} {U N : Addr → Prop} {σ : L2.St} {E : Env} (h : Fx fa K H0 U N H σ E) (g : Sub H H') : Fx fa K H0 U N H' σ E :=
  ⟨h.sr.grow g, ⟨h.fs.sub.trans g, h.fs.un, h.fs.ud, h.fs.new⟩⟩
theorem hide_grow {H H' : Hp} {N : Addr → Prop} (g : Sub H H') : Sub (hide H N) (hide H' N) := hide_mono g fun _ _ _ n => n
theorem PostS.base {K : PySem.W.Frag} {W : WX} {H0 : Hp} {U : Addr → Prop} {D : Ends} {Z Z' : Hp} {o : O} (h : PostS fa ca K W H0 U D Z o) (g : Sub Z Z') : PostS fa ca K W H0 U D Z' o := by
  cases o with
  | nx E => exact fun N' H' σ' s x => h N' H' σ' (g.trans s) x
  | rt d fr => exact h
  | ex c x E => exact h
  | bad => exact h
theorem PostS.to {K : PySem.W.Frag} {W : WX} {H0 H : Hp} {U : Addr → Prop} {D : Ends} {Z : Hp} {σ : L2.St} {E : Env} {β : Type} {r : R β} {k : β → O} (h : PostS fa ca K W H0 U D Z (r.to E k)) (g : Sub H0 H) :
    Post ca W H σ (fun b => PostS fa ca K W H0 U D Z (k b)) r := by
  cases r with
  | ok b => exact h
  | ex c x => exact fun dd H' g' ed => h dd σ H' (g.trans g') (ed.from g)
  | bad => exact h.elim
/-- the first of two statements -/
theorem PostS.bd {K : PySem.W.Frag} {W : WX} {H0 : Hp} {U : Addr → Prop} {D : Ends} {Z : Hp} {o : O} {k : Sm} (h : PostS fa ca K W H0 U D Z (o.bd k)) {nx' : L2.St → Hp → Prop}
    (hk : ∀ E' N' H' σ', Sub Z (hide H' N') → Fx fa K H0 U N' H' σ' E' → PostS fa ca K W H0 U D Z (k E') → nx' σ' H') {bk' ct' : L2.St → Hp → Prop} : PostS fa ca K W H0 U { D with nx := nx', bk := bk', ct := ct' } Z o := by
  cases o with
  | nx E => exact fun N' H' σ' s x => hk E N' H' σ' s x h
  | rt d fr => exact h
  | ex c x E => exact h
  | bad => exact h
theorem sndS_pass : SndS fa ca X (.Pass pos) sPass := fun W tk H0 U N H σ E D x p => of_ps ps_pass (p N H σ (Sub.refl _) x)
theorem sndS_doc {x : Str} {j : Nat} {p1 p2 : Pos} : SndS fa ca X (.Expr (.Constant (.str x) j p1) p2) sPass := fun W tk H0 U N H σ E D x p => of_ps ps_doc (p N H σ (Sub.refl _) x)
theorem sndSs_nil : SndSs fa ca X [] sPass := fun W tk H0 U N H σ E D x p => of_pss pss_nil (p N H σ (Sub.refl _) x)
theorem sndSs_one (h : SndS fa ca X st f) : SndSs fa ca X [st] f := fun W tk H0 U N H σ E D x p => of_pss (pss_one psS) (h W tk H0 U N H σ E D x p)
theorem sndSs_cons (h : SndS fa ca X st f) (hr : SndSs fa ca X sts g) : SndSs fa ca X (st :: sts) (sSeq f g) := fun W tk H0 U N H σ E D x p => by
  refine of_pss (pss_cons psS pssS) ?_
  show tS X st { D with nx := tSs X sts D } σ H
  refine h W tk H0 U N H σ E _ x ?_
  have p' : PostS fa ca X.K W H0 U D (hide H N) ((f E).bd g) := p
  exact p'.bd fun E' N' H' σ' s x' q => hr W tk H0 U N' H' σ' E' D x' (q.base s)
def plainV : Expr → Bool
  | .ListComp _ _ _ _ | .SetComp _ _ _ _ | .DictComp _ _ _ _ _ => false
  | _ => true
theorem swaps_plain {t : Option Expr} {l : Nat} {env : PySem.Env} (h : plainV e = true) : swapsWith e t l env = pure false := by
  cases e <;> first | rfl | exact absurd h (by simp [plainV])
theorem sndS_expr (he : Snd fa ca X e da) (hp : plainV e = true) : SndS fa ca X (.Expr e pos) (sExpr da) := fun W tk H0 U N H σ E D x p => by
  refine of_ps (ps_expr (peE (e := e)) (swaps_plain hp)) ?_
  show tE X e σ H _
  refine he W tk N H σ E _ x.sr ?_
  have p' : PostS fa ca X.K W H0 U D (hide H N) ((da E).to E fun _ => .nx E) := p
  exact (p'.to x.fs.sub).imp fun r _ q v H' g _ => q N H' σ (hide_grow g) (x.grow g)
theorem fine_own {E : Env} {l : List Nat} (h : fineAt [] E l = true) {i : Nat} (hi : i ∈ l) : ∃ d, E[i]? = some (some (d, true)) := (fine_mem h hi).2
theorem sndS_ret (he : Snd fa ca X e da) : SndS fa ca X (.Return (some e) pos) (sRet da) := fun W tk H0 U N H σ E D x p => by
  refine of_ps (ps_ret (peE (e := e))) ?_
  show tE X e σ H _
  refine he W tk N H σ E _ x.sr ?_
  have p' : PostS fa ca X.K W H0 U D (hide H N) ((da E).to E fun r => if fineAt [] E r.kp then .rt r.d (match r.t with | .fz => false | _ => true) else .bad) := p
  refine (p'.to x.fs.sub).imp fun r _ q v H' g rr => ?_
  split at q
  case isFalse => exact q.elim
  rename_i fine
  have up : Sub (hide H' (del N σ r.kp)) (hide H' U) := hide_mono (Sub.refl _) fun b o _ n => ⟨x.fs.un b n, fun ⟨i, hi, e⟩ => by
    obtain ⟨d, q1⟩ := fine_own fine hi
    have q2 := x.fs.new i d b q1 e
    obtain ⟨o, q3⟩ := x.fs.ud b n
    rw [q2] at q3; cases q3⟩
  refine q v H' (x.fs.sub.trans g) ?_
  have al := rr.all x.sr g
  unfold RR at rr
  cases et : r.t with
  | fz => exact Rep.sub up _ _ al
  | nw =>
    rw [et] at rr
    obtain ⟨ad, e1, e2, e3⟩ := rr
    refine ⟨ad, e1, x.fs.sub.none e2, e3.sub ?_ (Sub.refl _)⟩
    have ek : r.kp = r.p := by unfold Rv.kp; rw [et]
    exact hide_mono (Sub.refl _) fun b o eb n => n.elim (fun n => by
      by_cases z : b = ad
      · exact .inr z
      · refine .inl ?_
        rw [← ek]
        refine ⟨x.fs.un b n, fun ⟨i, hi, e⟩ => ?_⟩
        obtain ⟨d, q1⟩ := fine_own fine hi
        have q2 := x.fs.new i d b q1 e
        obtain ⟨o, q3⟩ := x.fs.ud b n
        rw [q2] at q3; cases q3) .inr
  | sl i =>
    rw [et] at rr
    obtain ⟨e1, e2⟩ := rr
    obtain ⟨ad, q1, q2, q3⟩ := x.sr.ow i _ e1
    rw [e2] at q1; cases q1
    refine ⟨ad, rfl, x.fs.new i _ ad e1 e2, (q3.sub (hide_grow g) g).sub ?_ (Sub.refl _)⟩
    exact hide_mono (Sub.refl _) fun b o eb n => n.elim (fun n => x.fs.un b n) fun z => by rw [z]; exact q2
theorem sndS_retN : SndS fa ca X (.Return none pos) sRetN := fun W tk H0 U N H σ E D x p =>
  of_ps ps_retN (p .non H x.fs.sub (by show Rep fa X.K (hide H U) .non .non; simp [Rep]))

/-! ### slots are frozen -/
theorem frz1_get {E : Env} {i j : Nat} : (frz1 E i)[j]? = if i = j then (match E[j]? with | some (some (d, _)) => some (some (d, false)) | o => o) else E[j]? := by
  unfold frz1
  by_cases q : i = j
  · subst q
    rw [if_pos rfl]
    cases z : E[i]? with
    | none => simp [z]
    | some o =>
      cases o with
      | none => simp [z]
      | some p =>
        obtain ⟨d, k⟩ := p
        have lt := (List.getElem?_eq_some_iff.mp z).1
        simp only []
        rw [List.getElem?_set_self lt]
  · rw [if_neg q]
    cases z : E[i]? with
    | none => rfl
    | some o =>
      cases o with
      | none => rfl
      | some p =>
        obtain ⟨d, k⟩ := p
        simp only []
        rw [List.getElem?_set_ne q]
theorem frz_get : ∀ {l : List Nat} {E : Env} {j : Nat}, (frz l E)[j]? = if j ∈ l then (match E[j]? with | some (some (d, _)) => some (some (d, false)) | o => o) else E[j]?
  | [], _, _ => by simp
  | i :: l, E, j => by
    show (frz l (frz1 E i))[j]? = _
    rw [frz_get, frz1_get]
    by_cases q : i = j
    · subst q
      simp only [if_true, List.mem_cons, true_or]
      split
      · cases z : E[i]? with
        | none => simp
        | some o => cases o <;> simp
      · rfl
    · rw [if_neg q]
      have : (j ∈ i :: l) ↔ j ∈ l := by simp only [List.mem_cons]; exact ⟨fun z => z.resolve_left fun w => q w.symm, .inr⟩
      simp only [this]
theorem frz_length : ∀ (l : List Nat) (E : Env), (frz l E).length = E.length
  | [], _ => rfl
  | i :: l, E => by
    show (frz l (frz1 E i)).length = _
    rw [frz_length]
    unfold frz1
    split
    · simp
    · rfl
theorem Fx.frz {K : PySem.W.Frag} {H0 H : Hp} {U N : Addr → Prop} {σ : L2.St} {E : Env} {l : List Nat} (x : Fx fa K H0 U N H σ E) (fine : fineAt [] E l = true) : Fx fa K H0 U (del N σ l) H σ (Rt.frz l E) := by
  have old : ∀ {i : Nat} {d : D} , (Rt.frz l E)[i]? = some (some (d, true)) → i ∉ l ∧ E[i]? = some (some (d, true)) := fun {i d} e => by
    rw [frz_get] at e
    by_cases q : i ∈ l
    · rw [if_pos q] at e
      split at e
      · cases e
      · rename_i z
        exact (z d true e).elim
    · rw [if_neg q] at e
      exact ⟨q, e⟩
  have sb : Sub (hide H N) (hide H (del N σ l)) := hide_mono (Sub.refl _) fun b o _ n => n.1
  refine ⟨⟨by rw [frz_length]; exact x.sr.len, fun b n => x.sr.sub b n.1, fun i d e => ?_, fun i d e => ?_, fun i j d e ad e1 e2 e3 e4 => x.sr.inj i j d e ad (old e1).2 (old e2).2 e3 e4⟩,
    ⟨x.fs.sub, fun b n => ⟨x.fs.un b n, fun ⟨i, hi, e⟩ => ?_⟩, x.fs.ud, fun i d ad e1 e2 => x.fs.new i d ad (old e1).2 e2⟩⟩
  · rw [frz_get] at e
    by_cases q : i ∈ l
    · obtain ⟨d', q1⟩ := fine_own fine q
      rw [if_pos q, q1] at e
      simp only [Option.some.injEq, Prod.mk.injEq, and_true] at e
      subst e
      obtain ⟨ad, q2, q3, q4⟩ := x.sr.ow i _ q1
      have rr : RR fa K N H H σ E (.ref ad) ⟨d', .sl i, []⟩ := ⟨q1, q2⟩
      exact ⟨_, q2, Rep.sub (hide_dep fun j hj => by rw [List.mem_singleton.mp hj]; exact q) _ _ (rr.all x.sr (Sub.refl _))⟩
    · rw [if_neg q] at e
      obtain ⟨v, q1, q2⟩ := x.sr.fz i d e
      exact ⟨v, q1, Rep.sub sb _ _ q2⟩
  · obtain ⟨ni, e'⟩ := old e
    obtain ⟨ad, q1, q2, q3⟩ := x.sr.ow i d e'
    refine ⟨ad, q1, ⟨q2, fun ⟨j, hj, ej⟩ => ?_⟩, q3.sub sb (Sub.refl _)⟩
    obtain ⟨d', q4⟩ := fine_own fine hj
    have := x.sr.inj i j d d' ad e' q4 q1 ej
    exact ni (this ▸ hj)
  · obtain ⟨d', q4⟩ := fine_own fine hi
    have q5 := x.fs.new i d' b q4 e
    obtain ⟨o, q6⟩ := x.fs.ud b n
    rw [q5] at q6; cases q6
theorem Fx.put {K : PySem.W.Frag} {H0 H : Hp} {U N : Addr → Prop} {σ : L2.St} {E : Env} {i : Nat} {d : D} {v : V} (x : Fx fa K H0 U N H σ E) (lt : i < E.length) (r : Rep fa K (hide H N) d v) : Fx fa K H0 U N H (σ.set i (some v)) (E.set i (some (d, false))) :=
  ⟨x.sr.put lt r, ⟨x.fs.sub, x.fs.un, x.fs.ud, fun j d' ad e1 e2 => by
    obtain ⟨q1, q2⟩ := (mv_put (σ := σ) (v := some v) lt).own j d' e1
    exact x.fs.new j d' ad q1 (q2 ▸ e2)⟩⟩
theorem Fx.mv {K : PySem.W.Frag} {H0 H : Hp} {U N : Addr → Prop} {σ σ' : L2.St} {E E' : Env} {l : List Nat} (x : Fx fa K H0 U N H σ E) (s : SR fa K N H σ' E') (m : Mv l σ E σ' E') : Fx fa K H0 U N H σ' E' :=
  ⟨s, ⟨x.fs.sub, x.fs.un, x.fs.ud, fun j d' ad e1 e2 => by
    obtain ⟨q1, q2⟩ := m.own j d' e1
    exact x.fs.new j d' ad q1 (q2 ▸ e2)⟩⟩
/-- a new object goes into a slot -/
theorem Fx.own {K : PySem.W.Frag} {H0 H H' : Hp} {U N : Addr → Prop} {σ : L2.St} {E : Env} {i : Nat} {d : D} {p : Addr} (x : Fx fa K H0 U N H σ E) (g : Sub H H') (lt : i < E.length) (np : H p = none) (t : Top fa K (hide H' fun b => N b ∨ b = p) H' p d) :
    Fx fa K H0 U (fun b => N b ∨ b = p) H' (σ.set i (some (.ref p))) (E.set i (some (d, true))) := by
  obtain ⟨o, ho, mb⟩ := t.mb
  have s' := x.sr.also g np ho mb
  have other : ∀ {j : Nat} {d' : D} {ad : Addr}, i ≠ j → (E.set i (some (d, true)))[j]? = some (some (d', true)) → (σ.set i (some (V.ref p)))[j]? = some (some (.ref ad)) → E[j]? = some (some (d', true)) ∧ σ[j]? = some (some (.ref ad)) ∧ ad ≠ p := fun {j d' ad} q e1 e2 => by
    rw [List.getElem?_set_ne q] at e1 e2
    obtain ⟨ad', q1, q2, _⟩ := x.sr.ow j d' e1
    rw [e2] at q1; cases q1
    refine ⟨e1, e2, fun z => ?_⟩
    obtain ⟨u, q3, _⟩ := x.sr.sub ad q2
    rw [z, np] at q3; cases q3
  have me : ∀ {ad : Addr}, (σ.set i (some (V.ref p)))[i]? = some (some (.ref ad)) → ad = p := fun {ad} e => by
    rw [List.getElem?_set_self (by rw [x.sr.len]; exact lt)] at e
    cases e; rfl
  refine ⟨⟨by simp [x.sr.len], s'.sub, fun j d' e => ?_, fun j d' e => ?_, fun j k d1 d2 ad e1 e2 e3 e4 => ?_⟩, ⟨x.fs.sub.trans g, fun b n => .inl (x.fs.un b n), x.fs.ud, fun j d' ad e1 e2 => ?_⟩⟩
  · have q : i ≠ j := fun q => by
      subst q
      rw [List.getElem?_set_self lt] at e
      cases e
    rw [List.getElem?_set_ne q] at e ⊢
    exact s'.fz j d' e
  · by_cases q : i = j
    · subst q
      rw [List.getElem?_set_self lt] at e
      cases e
      exact ⟨p, by rw [List.getElem?_set_self (by rw [x.sr.len]; exact lt)], .inr rfl, t⟩
    · rw [List.getElem?_set_ne q] at e ⊢
      exact s'.ow j d' e
  · by_cases q : i = j
    · subst q
      by_cases q' : i = k
      · exact q'
      · exact ((other q' e2 e4).2.2 (me e3)).elim
    · by_cases q' : i = k
      · subst q'
        exact ((other q e1 e3).2.2 (me e4)).elim
      · obtain ⟨z1, z2, _⟩ := other q e1 e3
        obtain ⟨z3, z4, _⟩ := other q' e2 e4
        exact x.sr.inj j k d1 d2 ad z1 z3 z2 z4
  · by_cases q : i = j
    · subst q
      rw [me e2]
      exact x.fs.sub.none np
    · obtain ⟨z1, z2, _⟩ := other q e1 e2
      exact x.fs.new j d' ad z1 z2
/-- the object of a slot is written -/
theorem Fx.write {K : PySem.W.Frag} {H0 H : Hp} {U N : Addr → Prop} {σ : L2.St} {E : Env} {i : Nat} {d d' : D} {p : Addr} {o : HO} (x : Fx fa K H0 U N H σ E) (e0 : E[i]? = some (some (d, true))) (e1 : σ[i]? = some (some (.ref p))) (t : Top fa K (hide H N) (upd H p o) p d') :
    Fx fa K H0 U N (upd H p o) σ (E.set i (some (d', true))) ∧ Sub (hide H N) (hide (upd H p o) N) := by
  obtain ⟨ad, q1, q2, q3⟩ := x.sr.ow i d e0
  rw [e1] at q1; cases q1
  have lt := (List.getElem?_eq_some_iff.mp e0).1
  have h0 := x.fs.new i d p e0 e1
  have sb : Sub (hide H N) (hide (upd H p o) N) := fun b u eb => by
    unfold hide at eb ⊢
    split at eb
    · cases eb
    · rename_i nb
      rw [if_neg nb, upd_ne fun z => nb (by rw [z]; exact q2)]
      exact eb
  have other : ∀ {j : Nat} {d1 : D}, i ≠ j → (E.set i (some (d', true)))[j]? = some (some (d1, true)) → E[j]? = some (some (d1, true)) := fun {j d1} q e => by
    rw [List.getElem?_set_ne q] at e
    exact e
  have got : ∀ {j : Nat} {d1 : D}, (E.set i (some (d', true)))[j]? = some (some (d1, true)) → ∃ d2, E[j]? = some (some (d2, true)) := fun {j d1} e => by
    by_cases q : i = j
    · subst q; exact ⟨_, e0⟩
    · exact ⟨_, other q e⟩
  obtain ⟨u, hu, mb⟩ := t.mb
  refine ⟨⟨⟨by simp [x.sr.len], fun b n => ?_, fun j d1 e => ?_, fun j d1 e => ?_, fun j k d1 d2 a' e2 e3 e4 e5 => ?_⟩, ⟨fun b v e => ?_, x.fs.un, x.fs.ud, fun j d1 a' e2 e3 => ?_⟩⟩, sb⟩
  · by_cases q : b = p
    · subst q; exact ⟨u, hu, mb⟩
    · obtain ⟨v, z1, z2⟩ := x.sr.sub b n
      exact ⟨v, by rw [upd_ne q]; exact z1, z2⟩
  · have q : i ≠ j := fun q => by
      subst q
      rw [List.getElem?_set_self lt] at e
      cases e
    rw [List.getElem?_set_ne q] at e
    obtain ⟨v, z1, z2⟩ := x.sr.fz j d1 e
    exact ⟨v, z1, Rep.sub sb _ _ z2⟩
  · by_cases q : i = j
    · subst q
      rw [List.getElem?_set_self lt] at e
      cases e
      exact ⟨p, e1, q2, t.sub sb (Sub.refl _)⟩
    · have e' := other q e
      obtain ⟨a2, z1, z2, z3⟩ := x.sr.ow j d1 e'
      refine ⟨a2, z1, z2, ?_⟩
      have ne : a2 ≠ p := fun z => q (x.sr.inj i j d d1 p e0 e' e1 (z ▸ z1))
      have z4 := z3.sub sb (Sub.refl _)
      cases d1 with
      | lst ds => obtain ⟨vs, w1, w2⟩ := z4; exact ⟨vs, by rw [upd_ne ne]; exact w1, w2⟩
      | dct ks ds => obtain ⟨vs, w1, w2, w3⟩ := z4; exact ⟨vs, by rw [upd_ne ne]; exact w1, w2, w3⟩
      | _ => exact z4.elim
  · obtain ⟨_, z1⟩ := got e2
    obtain ⟨_, z2⟩ := got e3
    exact x.sr.inj j k _ _ a' z1 z2 e4 e5
  · have ne : b ≠ p := fun z => by rw [z, h0] at e; cases e
    rw [upd_ne ne]
    exact x.fs.sub _ _ e
  · obtain ⟨_, z1⟩ := got e2
    exact x.fs.new j _ a' z1 e3
theorem PostS.frzO {K : PySem.W.Frag} {W : WX} {H0 : Hp} {U : Addr → Prop} {D : Ends} {Z : Hp} {l : List Nat} {E : Env} {k : Env → O} (h : PostS fa ca K W H0 U D Z (Rt.frzO l E k)) : fineAt [] E l = true ∧ PostS fa ca K W H0 U D Z (k (frz l E)) := by
  unfold Rt.frzO at h
  split at h
  · exact ⟨by assumption, h⟩
  · exact h.elim
/-! ### stores -/
/-- a value goes into a slot -/
theorem set_nx {W : WX} {H0 H H1 : Hp} {U N : Addr → Prop} {σ : L2.St} {E : Env} {D : Ends} {i : Nat} {r : Rv} {v : V} (x : Fx fa X.K H0 U N H σ E) (g : Sub H H1) (rr : RR fa X.K N H H1 σ E v r)
    (q : PostS fa ca X.K W H0 U D (hide H N) (Rt.frzO r.kp E fun σ' => if i < E.length then .nx (σ'.set i (some (r.d, r.isNw))) else .bad)) : D.nx (σ.set i (some v)) H1 := by
  obtain ⟨fine, q⟩ := q.frzO
  split at q
  case isFalse => exact q.elim
  rename_i lt
  have x1 := x.frz fine
  have lt' : i < (frz r.kp E).length := by rw [frz_length]; exact lt
  have al := rr.all x.sr g
  have sb : ∀ H2 N2, Sub H H2 → (∀ b o, H b = some o → N2 b → N b) → Sub (hide H N) (hide H2 N2) := fun H2 N2 g2 h => hide_mono g2 h
  unfold RR at rr
  cases et : r.t with
  | nw =>
    rw [et] at rr
    obtain ⟨ad, e1, e2, e3⟩ := rr
    subst e1
    have ek : r.kp = r.p := by unfold Rv.kp; rw [et]
    have en : r.isNw = true := by unfold Rv.isNw; rw [et]
    rw [en] at q
    rw [← ek] at e3
    refine q _ H1 _ ?_ (x1.own g lt' e2 e3)
    exact hide_mono g fun b o eb n => n.elim (fun n => n.1) fun z => by rw [z, e2] at eb; cases eb
  | fz =>
    have en : r.isNw = false := by unfold Rv.isNw; rw [et]
    rw [en] at q
    exact q _ H1 _ (hide_mono g fun b o _ n => n.1) ((x1.grow g).put lt' al)
  | sl j =>
    have en : r.isNw = false := by unfold Rv.isNw; rw [et]
    rw [en] at q
    exact q _ H1 _ (hide_mono g fun b o _ n => n.1) ((x1.grow g).put lt' al)
theorem sndS_set {i : Nat} {y : Str} {p1 : Pos} (hN : X.N.Nodup) (hi : X.N[i]? = some y) (hx : Loc X.env.scope y) (he : Snd fa ca X e da) (hs : swapsWith e (some (.Name y p1)) pos.line X.env = pure false) (hf : X.fn y = true ∨ X.env.scope.names.lookup y = some .local) :
    SndS fa ca X (.Assign [.Name y p1] e pos) (sSet i da) := fun W tk H0 U N H σ E D x p => by
  refine of_ps (ps_set hN hi hx (peE (e := e)) hs hf) ?_
  show tE X e σ H _
  refine he W tk N H σ E _ x.sr ?_
  have p' : PostS fa ca X.K W H0 U D (hide H N) ((da E).to E fun r => Rt.frzO r.kp E fun σ' => if i < E.length then .nx (σ'.set i (some (r.d, r.isNw))) else .bad) := p
  exact (p'.to x.fs.sub).imp fun r _ q v H1 g rr => set_nx x g rr q
theorem sndS_setLc {i : Nat} {y : Str} {p1 p2 : Pos} {ifs : List Expr} {scope : Scope} {own : List (Str × Nat)} {is : List Nat} {g : Tg} {t : Tst} (hc : X.calm = true) (hN : X.N.Nodup) (hy : X.N[i]? = some y) (hyl : X.env.scope.names.lookup y = some .local)
    (hsw : swapsWith (.ListComp elt [⟨tg, iter, ifs, 0⟩] scope p2) (some (.Name y p1)) pos.line X.env = pure true) (hi : SndI fa ca X tg iter it) (ok : BlkOk X.N X.env.scope scope own) (his : ∀ i ∈ is, i ∈ own.map (·.2))
    (hg : ∀ (s : Shared) (H : Hp) (C : Addr) (cl : List (Str × Addr)) (fp : List Addr), SndG fa (blkN X scope s H C cl fp) tg is g)
    (ht : ∀ (s : Shared) (H : Hp) (C : Addr) (cl : List (Str × Addr)) (fp : List Addr), SndTs fa ca (blkN X scope s H C cl fp) ifs t)
    (he : ∀ (s : Shared) (H : Hp) (C : Addr) (cl : List (Str × Addr)) (fp : List Addr), Snd fa ca (blkN X scope s H C cl fp) elt da) (hs : ∀ x, foldedSetIterable iter X.env x = pure x) :
    SndS fa ca X (.Assign [.Name y p1] (.ListComp elt [⟨tg, iter, ifs, 0⟩] scope p2) pos) (sSet i (xLC (own.map (·.2)) it g t da)) := fun W tk H0 U N H σ E D x p => by
  refine of_ps (ps_setLc (own := own) hc hN hy hyl hsw piI ok pg_b pt_b pe_b hs) ?_
  have p' : PostS fa ca X.K W H0 U D (hide H N) ((xLC (own.map (·.2)) it g t da E).to E fun r => Rt.frzO r.kp E fun σ' => if i < E.length then .nx (σ'.set i (some (r.d, r.isNw))) else .bad) := p
  exact lc_read (Q := fun v H1 => D.nx (σ.set i (some v)) H1) hi his hg ht he tk x.sr ((p'.to x.fs.sub).imp fun r _ q v H1 g rr => set_nx x g rr q)
theorem sndS_tg {is : List Nat} {g : Tg} (hg : SndG fa X tg is g) (he : Snd fa ca X e da) (hs : swapsWithSole [tg] e pos.line X.env = pure false) (hw : swappedStores [tg] e X.env = pure none) (h1 : (assignEach [tg] X.env).map (·.2) = [assign tg X.env]) :
    SndS fa ca X (.Assign [tg] e pos) (sTg g da) := fun W tk H0 U N H σ E D x p => by
  refine of_ps (ps_asg (peE (e := e)) pgG hs hw h1) ?_
  show tE X e σ H _
  refine he W tk N H σ E _ x.sr ?_
  have p' : PostS fa ca X.K W H0 U D (hide H N) ((da E).to E fun r => Rt.frzO r.kp E fun σ' => match g r.d σ' with | some σ'' => .nx σ'' | none => .bad) := p
  refine (p'.to x.fs.sub).imp fun r _ q v H1 g1 rr => ?_
  obtain ⟨fine, q⟩ := q.frzO
  cases qg : g r.d (frz r.kp E) with
  | none => rw [qg] at q; exact q.elim
  | some E2 =>
    rw [qg] at q
    have x1 := (x.frz fine).grow g1
    refine hg.run _ H1 σ _ r.d v E2 _ x1.sr (rr.all x.sr g1) qg fun σ2 s2 m2 => ?_
    exact q _ H1 σ2 (hide_mono g1 fun b o _ n => n.1) (x1.mv s2 m2)
theorem sndS_par {i j : Nat} {y z : Str} {py pz pt : Pos} {kt k2 : Nat} {pt2 : Pos} (hc : X.calm = true) (hN : X.N.Nodup) (hi : X.N[i]? = some y) (hj : X.N[j]? = some z) (hij : i ≠ j) (hy : X.env.scope.names.lookup y = some .local) (hz : X.env.scope.names.lookup z = some .local)
    (hs1 : notStar a = true) (hs2 : notStar b = true) (hw : swappedStores [.Tuple [.Name y py, .Name z pz] kt pt] (.Tuple [a, b] k2 pt2) X.env = pure (some [y, z])) (ha : Snd fa ca X a da) (hb : Snd fa ca X b db) :
    SndS fa ca X (.Assign [.Tuple [.Name y py, .Name z pz] kt pt] (.Tuple [a, b] k2 pt2) pos) (sPar i j da db) := fun W tk H0 U N H σ E D x p => by
  refine of_ps (ps_par hc hN hi hj hij hy hz (pa_cons (peE (e := a)) (pa_cons (peE (e := b)) pa_nil (star_cons hs2)) (star_cons hs1)) hw rfl) ?_
  show tE X a σ H _
  refine ha W tk N H σ E _ x.sr ?_
  have p' : PostS fa ca X.K W H0 U D (hide H N) ((da E).to E fun r => (db E).to E fun s => Rt.frzO (r.kp ++ s.kp) E fun σ' => if i < E.length ∧ j < E.length then .nx ((σ'.set i (some (r.d, false))).set j (some (s.d, s.isNw))) else .bad) := p
  refine (p'.to x.fs.sub).imp fun r _ q v H1 g1 rr => ?_
  show tE X b σ H1 _
  have x1 := x.grow g1
  refine hb W tk N H1 σ E _ x1.sr ?_
  refine (q.to x1.fs.sub).imp fun r' _ q2 w H2 g2 rr2 => ?_
  refine ⟨v, w, rfl, ?_⟩
  obtain ⟨fine, q3⟩ := q2.frzO
  split at q3
  case isFalse => exact q3.elim
  rename_i lt
  have sameK : ∀ b o, H b = some o → (del N σ (r.kp ++ r'.kp)) b → N b := fun b o _ n => n.1
  have al1 : Rep fa X.K (hide H2 (del N σ (r.kp ++ r'.kp))) r.d v := Rep.sub (hide_mono g2 fun b o _ n => del_anti mem_app_l n) _ _ (rr.all x.sr g1)
  have al2 : Rep fa X.K (hide H2 (del N σ (r.kp ++ r'.kp))) r'.d w := Rep.sub (hide_dep mem_app_r) _ _ (rr2.all x1.sr g2)
  have flat : r'.isNw = false → D.nx ((σ.set i (some v)).set j (some w)) H2 := fun en => by
    rw [en] at q3
    have x2 := (x1.frz fine).grow g2
    exact q3 _ H2 _ (hide_mono (g1.trans g2) fun b o _ n => n.1) ((x2.put (by rw [frz_length]; exact lt.1) al1).put (by rw [List.length_set, frz_length]; exact lt.2) al2)
  cases et : r'.t with
  | fz => exact flat (by unfold Rv.isNw; rw [et])
  | sl k => exact flat (by unfold Rv.isNw; rw [et])
  | nw =>
    unfold RR at rr2
    rw [et] at rr2
    obtain ⟨ad, e1, e2, e3⟩ := rr2
    subst e1
    have ek : r'.kp = r'.p := by unfold Rv.kp; rw [et]
    have en : r'.isNw = true := by unfold Rv.isNw; rw [et]
    rw [en] at q3
    rw [← ek] at e3
    have al1' : Rep fa X.K (hide H1 (del N σ (r.kp ++ r'.kp))) r.d v := Rep.sub (hide_dep mem_app_l) _ _ (rr.all x.sr g1)
    have x3 := (x1.frz fine).put (i := i) (by rw [frz_length]; exact lt.1) al1'
    refine q3 _ H2 _ ?_ (x3.own g2 (by rw [List.length_set, frz_length]; exact lt.2) e2 (Top.sub (hide_mono (Sub.refl _) fun b o _ n => n.elim (fun n => .inl (del_anti mem_app_r n)) .inr) (Sub.refl _) e3))
    exact hide_mono (g1.trans g2) fun b o eb n => n.elim (fun n => n.1) fun z => by
      have := g1 _ _ eb
      rw [z, e2] at this; cases this
/-- a, b = c, d, stored through a pair (one of the names lies in a cell) -/
theorem sndS_parC {i j : Nat} {y z : Str} {py pz pt : Pos} {kt k2 : Nat} {pt2 : Pos} (hc : X.calm = true) (hN : X.N.Nodup) (hi : X.N[i]? = some y) (hj : X.N[j]? = some z) (hy : L2.Loc X.env.scope y) (hz : L2.Loc X.env.scope z)
    (fy : X.fn y = true ∨ X.env.scope.names.lookup y = some .local) (fz : X.fn z = true ∨ X.env.scope.names.lookup z = some .local)
    (hs1 : notStar a = true) (hs2 : notStar b = true) (hsw : swapsWithSole [.Tuple [.Name y py, .Name z pz] kt pt] (.Tuple [a, b] k2 pt2) pos.line X.env = pure false) (hw : swappedStores [.Tuple [.Name y py, .Name z pz] kt pt] (.Tuple [a, b] k2 pt2) X.env = pure none) (ha : Snd fa ca X a da) (hb : Snd fa ca X b db) :
    SndS fa ca X (.Assign [.Tuple [.Name y py, .Name z pz] kt pt] (.Tuple [a, b] k2 pt2) pos) (sPar i j da db) := fun W tk H0 U N H σ E D x p => by
  refine of_ps (ps_asg (pe_tup (pa_cons (peE (e := a)) (pa_cons (peE (e := b)) pa_nil (star_cons hs2)) (star_cons hs1))) (pg_tup hc (pgs_cons (pg_name hN hi hy fy) (pgs_cons (pg_name hN hj hz fz) pgs_nil))) hsw hw rfl) ?_
  show tE X a σ H _
  refine ha W tk N H σ E _ x.sr ?_
  have p' : PostS fa ca X.K W H0 U D (hide H N) ((da E).to E fun r => (db E).to E fun s => Rt.frzO (r.kp ++ s.kp) E fun σ' => if i < E.length ∧ j < E.length then .nx ((σ'.set i (some (r.d, false))).set j (some (s.d, s.isNw))) else .bad) := p
  refine (p'.to x.fs.sub).imp fun r _ q v H1 g1 rr => ?_
  show tE X b σ H1 _
  have x1 := x.grow g1
  refine hb W tk N H1 σ E _ x1.sr ?_
  refine (q.to x1.fs.sub).imp fun r' _ q2 w H2 g2 rr2 => ?_
  refine ⟨by show 2 ≤ sizeLine; decide, fun T hT => ?_⟩
  refine ⟨T, [v, w], rfl, .inl (.inl upd_same), rfl, v, [w], rfl, w, [], rfl, rfl, ?_⟩
  have g3 : Sub H2 (upd H2 T (.tup [v, w])) := sub_upd hT
  have g23 := g2.trans g3
  obtain ⟨fine, q3⟩ := q2.frzO
  split at q3
  case isFalse => exact q3.elim
  rename_i lt
  have al1 : Rep fa X.K (hide (upd H2 T (.tup [v, w])) (del N σ (r.kp ++ r'.kp))) r.d v := Rep.sub (hide_mono g23 fun b o _ n => del_anti mem_app_l n) _ _ (rr.all x.sr g1)
  have al2 : Rep fa X.K (hide (upd H2 T (.tup [v, w])) (del N σ (r.kp ++ r'.kp))) r'.d w := Rep.sub (hide_mono g3 fun b o _ n => del_anti mem_app_r n) _ _ (rr2.all x1.sr g2)
  have flat : r'.isNw = false → D.nx ((σ.set i (some v)).set j (some w)) (upd H2 T (.tup [v, w])) := fun en => by
    rw [en] at q3
    have x2 := (x1.frz fine).grow g23
    exact q3 _ _ _ (hide_mono (g1.trans g23) fun b o _ n => n.1) ((x2.put (by rw [frz_length]; exact lt.1) al1).put (by rw [List.length_set, frz_length]; exact lt.2) al2)
  cases et : r'.t with
  | fz => exact flat (by unfold Rv.isNw; rw [et])
  | sl k => exact flat (by unfold Rv.isNw; rw [et])
  | nw =>
    unfold RR at rr2
    rw [et] at rr2
    obtain ⟨ad, e1, e2, e3⟩ := rr2
    subst e1
    have ek : r'.kp = r'.p := by unfold Rv.kp; rw [et]
    have en : r'.isNw = true := by unfold Rv.isNw; rw [et]
    rw [en] at q3
    rw [← ek] at e3
    have al1' : Rep fa X.K (hide H1 (del N σ (r.kp ++ r'.kp))) r.d v := Rep.sub (hide_dep mem_app_l) _ _ (rr.all x.sr g1)
    have x3 := (x1.frz fine).put (i := i) (by rw [frz_length]; exact lt.1) al1'
    refine q3 _ _ _ ?_ (x3.own g23 (by rw [List.length_set, frz_length]; exact lt.2) e2 (Top.sub (hide_mono g3 fun b o _ n => n.elim (fun n => .inl (del_anti mem_app_r n)) .inr) g3 e3))
    exact hide_mono (g1.trans g23) fun b o eb n => n.elim (fun n => n.1) fun z => by
      have := g1 _ _ eb
      rw [z, e2] at this; cases this
/-! ### branches, loops -/
theorem sndS_if (hc : SndT fa ca X c tc) (ha : SndSs fa ca X body fb) (hb : SndSs fa ca X orelse fo) : SndS fa ca X (.If c body orelse pos) (sIf tc fb fo) := fun W tk H0 U N H σ E D x p => by
  refine of_ps (ps_if (ptT (e := c)) pssS pssS) ?_
  show tT X c σ H _
  refine hc W tk N H σ E _ x.sr ?_
  have p' : PostS fa ca X.K W H0 U D (hide H N) ((tc E).to E fun k => match k with | true => fb E | false => fo E) := p
  refine (p'.to x.fs.sub).imp fun k _ q H1 g => ?_
  cases k with
  | true =>
    simp only [if_true]
    exact ha W tk H0 U N H1 σ E D (x.grow g) (q.base (hide_grow g))
  | false =>
    simp only [Bool.false_eq_true, if_false]
    exact hb W tk H0 U N H1 σ E D (x.grow g) (q.base (hide_grow g))
theorem sndS_while (hp : PassesOwn (model X.prog X.w) X.A X.env X.xe) (hc : SndT fa ca X c tc) (hb : SndSs fa ca X body fb) : SndS fa ca X (.While c body [] pos) (sWhile tc fb) := fun W tk H0 U N H σ E D x p => by
  refine of_ps (ps_while hp (ptT (e := c)) pssS) ?_
  refine ⟨fun m σ' H' => ∃ N' E', Sub (hide H N) (hide H' N') ∧ Fx fa X.K H0 U N' H' σ' E' ∧ PostS fa ca X.K W H0 U D (hide H N) (whileGo tc fb m E'), ⟨fuel, N, E, Sub.refl _, x, p⟩, ?_⟩
  rintro m σ' H' ⟨N', E', sb, x', p'⟩
  cases m with
  | zero => exact p'.elim
  | succ m =>
    show tT X c σ' H' _
    refine hc W tk N' H' σ' E' _ x'.sr ?_
    have p2 : PostS fa ca X.K W H0 U D (hide H N) ((tc E').to E' fun k => match k with | true => (fb E').bd (whileGo tc fb m) | false => .nx E') := p'
    refine (p2.to x'.fs.sub).imp fun k _ q H1 g => ?_
    cases k with
    | true =>
      simp only [if_true]
      refine ⟨fun σ2 H2 => ∃ N2 E2, Sub (hide H N) (hide H2 N2) ∧ Fx fa X.K H0 U N2 H2 σ2 E2 ∧ PostS fa ca X.K W H0 U D (hide H N) (whileGo tc fb m E2), fun σ2 H2 n => ⟨m, Nat.lt_succ_self m, n⟩, ?_⟩
      refine hb W tk H0 U N' H1 σ' E' _ (x'.grow g) ?_
      exact PostS.base (PostS.bd q fun E2 N2 H2 σ2 sb2 x2 q2 => ⟨N2, E2, sb2, x2, q2⟩) (sb.trans (hide_grow g))
    | false =>
      simp only [Bool.false_eq_true, if_false]
      exact q N' H1 σ' (sb.trans (hide_grow g)) (x'.grow g)
end
end Rt
end
section
set_option linter.all false
set_option autoImplicit false
set_option Elab.async false
set_option maxRecDepth 100000
set_option maxHeartbeats 2000000
namespace Rt
open PySem PySem.Spec PyProof.Rows L2
section
variable {fa ca : Nat → Addr} {X : Cx} {a b c e tg iter elt : Expr} {da db dc : Ex} {ta tb tc : Tst} {pos : Pos} {it : Itr} {st : Stmt} {sts body orelse : List Stmt} {f g fb fo : Sm}
theorem PostS.bd2 {K : PySem.W.Frag} {W : WX} {H0 : Hp} {U : Addr → Prop} {D : Ends} {Z Z2 : Hp} {o : O} {k : Sm} (h : PostS fa ca K W H0 U D Z (o.bd k)) {nx' : L2.St → Hp → Prop}
    (hk : ∀ E' N' H' σ', Sub Z2 (hide H' N') → Fx fa K H0 U N' H' σ' E' → PostS fa ca K W H0 U D Z (k E') → nx' σ' H') {bk' ct' : L2.St → Hp → Prop} : PostS fa ca K W H0 U { D with nx := nx', bk := bk', ct := ct' } Z2 o := by
  cases o with
  | nx E => exact fun N' H' σ' s x => hk E N' H' σ' s x h
  | rt d fr => exact h
  | ex c x E => exact h
  | bad => exact h
def SndJ (fa ca : Nat → Addr) (X : Cx) (tg iter : Expr) (f : Itr) : Prop := ∀ (W : WX), Takes X W → ∀ (N : Addr → Prop) (H : Hp) (σ : L2.St) (E : Env) (R : It → Hp → Prop), SR fa X.K N H σ E →
  Post ca W H σ (fun q => ∀ J H', Sub H H' → Wk fa X.K (hide H' (del N σ q.2)) (hide H' (del N σ q.2)) J q.1 → R J H') (f E) → tI X tg iter σ H R
theorem Wk.more {K : PySem.W.Frag} {Zt Zi Zi' : Hp} {J : It} {items : List D} (w : Wk fa K Zt Zi J items) (h : Sub Zi Zi') : Wk fa K Zt Zi' J items where
  go := fun i H d st si e => by
    obtain ⟨jg, jy⟩ := w.go i H d st (h.trans si) e
    refine ⟨jg, fun x H' y => ?_⟩
    obtain ⟨g, r⟩ := jy x H' y
    refine ⟨g, ?_⟩
    dsimp only at r ⊢
    refine Rep.sub (fun b o e => ?_) _ _ r
    cases z : H b with
    | none => simp only [z] at e ⊢; exact e
    | some u => simp only [z] at e ⊢; exact h _ _ e
  stop := fun i H st si le => w.stop i H st (h.trans si) le
theorem SndI.toJ (h : SndI fa ca X tg iter it) : SndJ fa ca X tg iter it := fun W tk N H σ E R s p => by
  refine h W tk N H σ E R s ?_
  cases q : it E with
  | ok r => rw [q] at p; exact fun J H' g w => p J H' g (w.more (hide_mono (Sub.refl _) fun b o _ n => n.1))
  | ex c x => rw [q] at p; exact p
  | bad => rw [q] at p; exact p
theorem snd_seqF (ha : Snd fa ca X a da) : SndJ fa ca X tg a (iSeqF da) := fun W tk N H σ E R s p => by
  refine of_pi (pi_list (peE (e := a))) ?_
  show tE X a σ H _
  unfold iSeqF at p
  refine ha.bd tk s (Sub.refl _) p fun r x H1 e1 g1 r1 p1 => ?_
  cases hd : r.d <;> simp only [hd] at p1 <;> try exact p1.elim
  rename_i xs
  cases et : r.t <;> simp only [et] at p1 <;> try exact p1.elim
  unfold RR at r1
  rw [et] at r1
  dsimp only at r1
  obtain ⟨ap, rfl, np, tp⟩ := r1
  rw [hd] at tp
  obtain ⟨vs, h1, h2⟩ := tp
  have nN : ¬ del N σ r.p ap := fun n => by
    obtain ⟨o, z, _⟩ := s.sub ap n.1
    rw [np] at z; cases z
  exact ⟨ap, rfl, ⟨vs, SqL.of h1⟩, p1 _ H1 g1 (wk_list (by rw [hide_at nN]; exact h1) (RepL.sub (hide_mono (Sub.refl _) fun b o _ n => .inl n) _ _ h2))⟩
theorem sndS_for {is : List Nat} {gg : Tg} (hp : PassesOwn (model X.prog X.w) X.A X.env X.xe) (hc : X.calm = true) (hi : SndJ fa ca X tg iter it) (hg : SndG fa X tg is gg) (hb : SndSs fa ca X body fb)
    (hs : ∀ x, foldedSetIterable iter X.env x = pure x) : SndS fa ca X (.For tg iter body [] pos) (sFor gg it fb) := fun W tk H0 U N H σ E D x p => by
  refine of_ps (ps_for hp hc piI pgG pssS hs) ?_
  show tI X tg iter σ H _
  refine hi W tk N H σ E _ x.sr ?_
  have p' : PostS fa ca X.K W H0 U D (hide H N) ((it E).to E fun q => Rt.frzO q.2 E fun σ' => forGo gg fb q.1 σ') := p
  refine (p'.to x.fs.sub).imp fun q _ pq J H1 g1 wk => ?_
  obtain ⟨fine, pq⟩ := pq.frzO
  have x1 := (x.frz fine).grow g1
  have s1 : Sub (hide H N) (hide H1 (del N σ q.2)) := hide_mono g1 fun b o _ n => n.1
  have s2 : Sub (hide H1 N) (hide H1 (del N σ q.2)) := hide_mono (Sub.refl _) fun b o _ n => n.1
  refine ⟨fun i m σ' H' => m = q.1.length - i ∧ i ≤ q.1.length ∧ ∃ N' E', Sub (hide H1 (del N σ q.2)) (hide H' N') ∧ Fx fa X.K H0 U N' H' σ' E' ∧ PostS fa ca X.K W H0 U D (hide H N) (forGo gg fb (q.1.drop i) E'),
    ⟨_, rfl, Nat.zero_le _, _, _, Sub.refl _, x1, pq⟩, ?_⟩
  rintro i m σ' H' ⟨rfl, hil, N', E', sb, x', p3⟩
  have zt : Sub (hide H1 (del N σ q.2)) H' := sb.trans hide_sub
  by_cases hlt : i < q.1.length
  · have hdr : q.1.drop i = q.1[i] :: q.1.drop (i + 1) := (List.getElem_cons_drop hlt).symm
    rw [hdr] at p3
    obtain ⟨jg, jy⟩ := wk.go i H' q.1[i] zt zt (List.getElem?_eq_getElem hlt)
    refine .inr ⟨jg, fun σ2 H2 => ∃ N2 E2, Sub (hide H1 (del N σ q.2)) (hide H2 N2) ∧ Fx fa X.K H0 U N2 H2 σ2 E2 ∧ PostS fa ca X.K W H0 U D (hide H N) (forGo gg fb (q.1.drop (i + 1)) E2), fun σ2 H2 n => ⟨q.1.length - (i + 1), by omega, rfl, hlt, n⟩, fun v H3 y3 => ?_⟩
    obtain ⟨g3, rv⟩ := jy v H3 y3
    have x3 := x'.grow g3
    have rv' : Rep fa X.K (hide H3 N') q.1[i] v := Rep.sub (fun b o e => by
      cases z : H' b with
      | none =>
        simp only [z] at e
        rw [hide_at fun n => ?_]
        · exact e
        · obtain ⟨u, q1, _⟩ := x'.sr.sub b n
          rw [q1] at z; cases z
      | some u =>
        simp only [z] at e
        exact hide_grow g3 _ _ (sb _ _ e)) _ _ rv
    have p4 : PostS fa ca X.K W H0 U D (hide H N) (match gg q.1[i] E' with | none => .bad | some σ' => (fb σ').bd (forGo gg fb (q.1.drop (i + 1)))) := p3
    cases qg : gg q.1[i] E' with
    | none => rw [qg] at p4; exact p4.elim
    | some E2 =>
      rw [qg] at p4
      refine hg.run N' H3 σ' E' _ v E2 _ x3.sr rv' qg fun σ2 s2' m2 => ?_
      have x4 := x3.mv s2' m2
      refine hb W tk H0 U N' H3 σ2 E2 _ x4 ?_
      exact p4.bd2 fun E5 N5 H5 σ5 sb5 x5 q5 => ⟨N5, E5, (sb.trans (hide_grow g3)).trans sb5, x5, q5⟩
  · have ei : i = q.1.length := by omega
    subst ei
    rw [List.drop_length] at p3
    exact .inl ⟨wk.stop _ H' zt zt (Nat.le_refl _), p3 N' H' σ' (s1.trans sb) x'⟩
/-! ### lists that are written -/
/-- what stands in a slot that owns it -/
theorem own_at {H0 H H1 : Hp} {U N : Addr → Prop} {σ : L2.St} {E : Env} {i : Nat} {xs : List D} {l : List Nat} (x : Fx fa X.K H0 U (del N σ l) H1 σ (frz l E)) (e : (frz l E)[i]? = some (some (.lst xs, true))) :
    ∃ p vs, σ[i]? = some (some (.ref p)) ∧ H1 p = some (.lst vs) ∧ RepL fa X.K (hide H1 (del N σ l)) xs vs ∧ del N σ l p := by
  obtain ⟨p, q1, q2, vs, q3, q4⟩ := x.sr.ow i _ e
  exact ⟨p, vs, q1, q3, q4, q2⟩
theorem hide_upd {H : Hp} {N : Addr → Prop} {p : Addr} {o : HO} (n : N p) : hide (upd H p o) N = hide H N := by
  funext b
  unfold hide
  split
  · rfl
  · rename_i nb
    exact upd_ne fun z => nb (z ▸ n)
theorem sndS_app {i : Nat} {y : Str} {p1 p2 p3 : Pos} (hN : X.N[i]? = some y) (hv : Vis X.env.scope y) (hd : (y == ("__debug__" : Str)) = false) (hcd : (y == ("__classdict__" : Str)) = false) (hst : notStar e = true) (hline : (p2.endLine == p3.line) = true) (he : Snd fa ca X e da) :
    SndS fa ca X (.Expr (.Call (.Attribute (.Name y p1) "append" p2) [e] [] p3) pos) (sApp i da) := fun W tk H0 U N H σ E D x p => by
  refine of_ps (ps_expr (pe_bm PySem.F.plainAttrs_list PySem.F.slot_list_append PySem.F.type_list_append mt_append (pe_var (i := i) hN hv hd hcd) (pa_cons (peE (e := e)) pa_nil (star_cons hst)) rfl (by rw [star_cons hst]; rfl) hline (star_cons hst) rfl) rfl) ?_
  unfold sApp at p
  split at p
  case h_2 => exact p.elim
  · rename_i xs0 hsl
    have p' : PostS fa ca X.K W H0 U D (hide H N) ((da E).to E fun r => Rt.frzO r.kp E fun σ' => match σ'[i]? with
      | some (some (.lst xs, true)) => if xs.length < line then .nx (σ'.set i (some (.lst (xs ++ [r.d]), true))) else .bad
      | _ => .bad) := p
    obtain ⟨ap, z1, z2, vs0, z3, z4⟩ := x.sr.ow i _ hsl
    refine ⟨_, z1, .inl ⟨rfl, _, SqL.of z3⟩, ?_⟩
    show tE X e σ H _
    refine he W tk N H σ E _ x.sr ?_
    refine (p'.to x.fs.sub).imp fun r _ q v H1 g rr => ?_
    obtain ⟨fine, q⟩ := q.frzO
    have x1 := (x.frz fine).grow g
    cases qe : (frz r.kp E)[i]? with
    | none => simp only [qe] at q; exact q.elim
    | some o =>
      cases o with
      | none => simp only [qe] at q; exact q.elim
      | some dk =>
        obtain ⟨d, k⟩ := dk
        cases d <;> cases k <;> simp only [qe] at q <;> try exact q.elim
        rename_i xs
        split at q
        case isFalse => exact q.elim
        rename_i hl
        obtain ⟨p, vs, w1, w2, w3, w4⟩ := own_at (H := H) x1 qe
        have e1 : p = ap := by rw [z1] at w1; cases w1; rfl
        subst e1
        obtain ⟨x2, sb⟩ := x1.write (o := .lst (vs ++ [v])) (d' := .lst (xs ++ [r.d])) qe w1 ⟨_, upd_same, w3.append (.one (rr.all x.sr g))⟩
        exact ⟨p, vs, v, rfl, rfl, w2, by rw [← line_eq, ← w3.length]; exact hl, q _ _ _ ((hide_mono g fun b o _ n => n.1).trans sb) x2⟩
theorem place_ix {n : Nat} {i : Int} {k : Nat} (h : place n i = some k) : ixN n i = some k := by
  unfold place at h
  unfold ixN
  by_cases h0 : 0 ≤ i
  · rw [if_pos h0] at h ⊢
    by_cases h1 : i < (n : Int)
    · rw [if_pos h1] at h ⊢; exact h
    · rw [if_neg h1] at h; cases h
  · rw [if_neg h0] at h ⊢
    by_cases h1 : 0 ≤ i + (n : Int)
    · rw [if_pos h1] at h
      first
        | (rw [if_pos h1]; exact h)
        | (rw [if_pos (by omega)]; exact h)
    · rw [if_neg h1] at h; cases h
theorem sub_assign {y : Str} {p1 p2 : Pos} {env : PySem.Env} (hb : notSlice b = true) : ∀ v, assign (.Subscript (.Name y p1) b p2) env v = (do
      let ov ← holding [v] (eval (.Name y p1) env)
      let iv ← holding [v, ov] (eval b env)
      standAt p2
      holding [v, ov, iv] (setItem ov iv v)
      release [v, ov, iv] []) := fun v => by
  cases b <;> first | rfl | exact absurd hb (by simp [notSlice])
theorem sole_plain {tg : Expr} {l : Nat} {env : PySem.Env} (hp : plainV e = true) : swapsWithSole [tg] e l env = pure false := by
  show swapsWith e (some tg) l env = pure false
  exact swaps_plain hp
theorem swst_sub {o i : Expr} {p2 : Pos} {env : PySem.Env} : swappedStores [.Subscript o i p2] e env = pure none := by cases e <;> rfl
theorem own_atD {H0 H H1 : Hp} {U N : Addr → Prop} {σ : L2.St} {E : Env} {i : Nat} {ks vs : List D} {l : List Nat} (x : Fx fa X.K H0 U (del N σ l) H1 σ (frz l E)) (e : (frz l E)[i]? = some (some (.dct ks vs, true))) :
    ∃ p kvs, σ[i]? = some (some (.ref p)) ∧ H1 p = some (.dK kvs) ∧ ks = kvs.map (fun p => keyD p.1) ∧ RepL fa X.K (hide H1 (del N σ l)) vs (kvs.map (·.2)) ∧ del N σ l p := by
  obtain ⟨p, q1, q2, vs, q3, q4, q5⟩ := x.sr.ow i _ e
  exact ⟨p, vs, q1, q3, q4, q5, q2⟩
theorem set_dict (hu : X.A.units + 1 < cLine) : PSet X (fun o i v H Q => ∃ a H', o = .ref a ∧ DPut H a i v H' ∧ Q H') := by
  intro pins s σ H o i v ov iv u Q I ro ri rv h
  obtain ⟨a, H', rfl, g, q⟩ := h
  cases ro
  exact d_setItem hu I g ri rv fun s' I' => ⟨H', I', q⟩
theorem any_key {k : Key} : ∀ kvs : List (Key × V), ((kvs.map fun p => keyD p.1).any fun z => sameKey z (keyD k)) = kvs.any fun kv => decide (kv.1 = k)
  | [] => rfl
  | p :: kvs => by
    rw [List.map_cons, List.any_cons, List.any_cons, any_key kvs]
    congr 1
    by_cases c : p.1 = k
    · rw [decide_eq_true c]; exact keyD_same.mpr (by rw [c])
    · rw [decide_eq_false c]
      cases q : sameKey (keyD p.1) (keyD k) with
      | false => rfl
      | true => exact absurd (keyD_inj (keyD_same.mp q)).symm c
theorem dkSet_val {K : PySem.W.Frag} {Z : Hp} {k : Key} {x : D} {w : V} (hw : Rep fa K Z x w) : ∀ {kvs : List (Key × V)} {vs : List D}, RepL fa K Z vs (kvs.map (·.2)) →
    RepL fa K Z (dkSet (kvs.map fun p => keyD p.1) vs (keyD k) x) ((kvs.map fun kv => if kv.1 = k then (kv.1, w) else kv).map (·.2))
  | [], vs, h => by cases vs <;> simp [dkSet, RepL]
  | p :: kvs, [], h => by simp [RepL] at h
  | p :: kvs, d :: vs, h => by
    simp only [List.map_cons, RepL] at h
    obtain ⟨v, r, e1, h1, h2⟩ := h
    cases e1
    simp only [List.map_cons, dkSet]
    by_cases c : p.1 = k
    · rw [if_pos (keyD_same.mpr (by rw [c])), if_pos c]
      exact .cons_ hw (dkSet_val hw h2)
    · rw [if_neg fun z => c (keyD_inj (keyD_same.mp z)).symm, if_neg c]
      exact .cons_ h1 (dkSet_val hw h2)
theorem dkPut_val {K : PySem.W.Frag} {Z : Hp} {k : Key} {x : D} {w : V} (hw : Rep fa K Z x w) {kvs : List (Key × V)} {vs : List D} (h : RepL fa K Z vs (kvs.map (·.2))) :
    (dkPut (kvs.map fun p => keyD p.1) vs (keyD k) x).1 = (putK kvs k w).map (fun p => keyD p.1) ∧ RepL fa K Z (dkPut (kvs.map fun p => keyD p.1) vs (keyD k) x).2 ((putK kvs k w).map (·.2)) := by
  unfold dkPut putK
  rw [any_key]
  cases q : (kvs.any fun kv => decide (kv.1 = k)) with
  | true =>
    simp only [if_true]
    refine ⟨?_, dkSet_val hw h⟩
    rw [List.map_map]
    apply List.map_congr_left
    intro p _
    show keyD p.1 = keyD (if p.1 = k then (p.1, w) else p).1
    split <;> rfl
  | false =>
    refine ⟨by simp, ?_⟩
    simp only [Bool.false_eq_true, if_false, List.map_append, List.map_cons, List.map_nil]
    exact h.append (.one hw)
theorem sndS_put {kk : Nat} (hr : Room kk X.A) {i : Nat} {y : Str} {p1 p2 : Pos} (hN : X.N[i]? = some y) (hv : Vis X.env.scope y) (hd : (y == ("__debug__" : Str)) = false) (hcd : (y == ("__classdict__" : Str)) = false) (hk : Snd fa ca X b db) (he : Snd fa ca X e da) (hb : notSlice b = true) (hp : plainV e = true) :
    SndS fa ca X (.Assign [.Subscript (.Name y p1) b p2] e pos) (sPut i db da) := fun W tk H0 U N H σ E D x p => by
  refine of_ps (ps_asg (peE (e := e)) (pg_sub (t := fun o i v H Q => rSetL o i v H Q ∨ ∃ a H', o = .ref a ∧ DPut H a i v H' ∧ Q H') (pe_var (i := i) hN hv hd hcd) (peE (e := b)) (fun pins s σ H o i v ov iv u Q I ro ri rv h => h.elim (set_list pins s σ H o i v ov iv u Q I ro ri rv) (set_dict (by have := hr.units; omega) pins s σ H o i v ov iv u Q I ro ri rv)) (sub_assign hb)) (sole_plain hp) swst_sub rfl) ?_
  show tE X e σ H _
  unfold sPut at p
  split at p
  case h_3 => exact p.elim
  case h_1 =>
    rename_i xs0 hsl
    obtain ⟨ap, z1, z2, vs0, z3, z4⟩ := x.sr.ow i _ hsl
    have p' : PostS fa ca X.K W H0 U D (hide H N) ((da E).to E fun r => (db E).to E fun s => Rt.frzO r.kp E fun σ' => match s.d, σ'[i]? with
      | .int j, some (some (.lst xs, true)) => (match place xs.length j with
        | some n => .nx (σ'.set i (some (.lst (xs.set n r.d), true)))
        | none => .bad)
      | _, _ => .bad) := p
    refine he W tk N H σ E _ x.sr ?_
    refine (p'.to x.fs.sub).imp fun r _ q v H1 g1 rr => ?_
    have x1 := x.grow g1
    refine ⟨_, z1, ?_⟩
    show tE X b σ H1 _
    refine hk W tk N H1 σ E _ x1.sr ?_
    refine (q.to x1.fs.sub).imp fun s _ q u H2 g2 rr2 => ?_
    have g12 := g1.trans g2
    have k2 := rr2.kid x1.sr g2
    obtain ⟨fine, q⟩ := q.frzO
    have x2 := (x1.frz fine).grow g2
    cases hd : s.d <;> simp only [hd] at q k2 <;> try exact q.elim
    rename_i j
    cases qe : (frz r.kp E)[i]? with
    | none => simp only [qe] at q; exact q.elim
    | some o =>
      cases o with
      | none => simp only [qe] at q; exact q.elim
      | some dk =>
        obtain ⟨d, k⟩ := dk
        cases d <;> cases k <;> simp only [qe] at q <;> try exact q.elim
        rename_i xs
        obtain ⟨p, vs, w1, w2, w3, w4⟩ := own_at (H := H1) x2 qe
        have e1 : p = ap := by rw [z1] at w1; cases w1; rfl
        subst e1
        cases qp : place xs.length j with
        | none => simp only [qp] at q; exact q.elim
        | some n =>
          simp only [qp] at q
          have rv : Rep fa X.K (hide H2 (del N σ r.kp)) r.d v := Rep.sub (hide_grow g2) _ _ (rr.all x.sr g1)
          obtain ⟨x3, sb⟩ := x2.write (o := .lst (vs.set n v)) (d' := .lst (xs.set n r.d)) qe w1 ⟨_, upd_same, w3.set n rv⟩
          have ei := k2.int
          exact .inl ⟨p, vs, j, n, rfl, ei, w2, place_ix (by rw [← w3.length]; exact qp), q _ _ _ ((hide_mono g12 fun b o _ n => n.1).trans sb) x3⟩
  case h_2 =>
    rename_i ks0 ds0 hsl
    obtain ⟨ap, z1, z2, vs0, z3, z4⟩ := x.sr.ow i _ hsl
    have p' : PostS fa ca X.K W H0 U D (hide H N) ((da E).to E fun r => (db E).to E fun s => Rt.frzO r.kp E fun σ' => match σ'[i]? with
      | some (some (.dct ks vs, true)) => if isKey s.d && decide (ks.length < line) then .nx (σ'.set i (some (.dct (dkPut ks vs s.d r.d).1 (dkPut ks vs s.d r.d).2, true))) else .bad
      | _ => .bad) := p
    refine he W tk N H σ E _ x.sr ?_
    refine (p'.to x.fs.sub).imp fun r _ q v H1 g1 rr => ?_
    have x1 := x.grow g1
    refine ⟨_, z1, ?_⟩
    show tE X b σ H1 _
    refine hk W tk N H1 σ E _ x1.sr ?_
    refine (q.to x1.fs.sub).imp fun s _ q u H2 g2 rr2 => ?_
    have g12 := g1.trans g2
    have k2 := rr2.kid x1.sr g2
    obtain ⟨fine, q⟩ := q.frzO
    have x2 := (x1.frz fine).grow g2
    cases qe : (frz r.kp E)[i]? with
    | none => simp only [qe] at q; exact q.elim
    | some o =>
      cases o with
      | none => simp only [qe] at q; exact q.elim
      | some dk =>
        obtain ⟨d, k⟩ := dk
        cases d <;> cases k <;> simp only [qe] at q <;> try exact q.elim
        rename_i ks ds
        split at q
        case isFalse => exact q.elim
        rename_i hc
        simp only [Bool.and_eq_true, decide_eq_true_eq] at hc
        obtain ⟨key, ek⟩ := isKey_is hc.1
        rw [ek] at q k2
        obtain ⟨p, kvs, w1, w2, w5, w3, w4⟩ := own_atD (H := H1) x2 qe
        subst w5
        have e1 : p = ap := by rw [z1] at w1; cases w1; rfl
        subst e1
        have rv : Rep fa X.K (hide H2 (del N σ r.kp)) r.d v := Rep.sub (hide_grow g2) _ _ (rr.all x.sr g1)
        have dv := dkPut_val (k := key) rv w3
        obtain ⟨x3, sb⟩ := x2.write (o := .dK (putK kvs key v)) (d' := .dct (dkPut (kvs.map fun p => keyD p.1) ds (keyD key) r.d).1 (dkPut (kvs.map fun p => keyD p.1) ds (keyD key) r.d).2) qe w1 ⟨_, upd_same, dv.1, dv.2⟩
        have ey := k2.key
        subst ey
        exact .inr ⟨p, _, rfl, DPut.k w2 (by rw [← line_eq]; have := hc.2; simpa using this), q _ _ _ ((hide_mono g12 fun b o _ n => n.1).trans sb) x3⟩
end
end Rt
end
section
set_option linter.all false
set_option autoImplicit false
set_option Elab.async false
set_option maxRecDepth 100000
set_option maxHeartbeats 2000000
namespace Rt
open PySem PySem.Spec PyProof.Rows L2
section
variable {fa ca : Nat → Addr} {X : Cx} {a b c e tg : Expr} {da db dc : Ex} {pos : Pos}
/-! ### list(x), tuple(x), sorted(x) -/
theorem Kid.tupK {K : PySem.W.Frag} {Z H : Hp} {v : V} {xs : List D} (sz : Sub Z H) (k : Kid fa K Z H v (.tup xs)) : ∃ a vs, v = .ref a ∧ SqT K H a vs ∧ RepL fa K Z xs vs := by
  have k2 : Rep fa K Z (.tup xs) v := k
  simp only [Rep] at k2
  obtain ⟨a, vs, rfl, h1, h2⟩ := k2
  exact ⟨a, vs, rfl, SqT.sub h1 sz, h2⟩
theorem bi_list : BiS fa X (.type "list") bList := fun Z H vs ds r fr Q sz kd q k pins s σ us I rv => by
  unfold bList at q
  split at q <;> cases q
  · obtain ⟨v, rfl, a, xs, rfl, h1, h2⟩ := kid1 kd
    exact call_list_of pins s σ H _ us Q I rv ⟨a, xs, rfl, .inl (SqL.of h1), fun l hl => k _ _ (NewR.list hl sz h2)⟩
  · obtain ⟨v, rfl, k1⟩ := kid1 kd
    obtain ⟨a, xs, rfl, h1, h2⟩ := k1.tupK sz
    exact call_list_of pins s σ H _ us Q I rv ⟨a, xs, rfl, .inr h1, fun l hl => k _ _ (NewR.list hl sz h2)⟩
theorem bi_tuple : BiS fa X (.type "tuple") bTuple := fun Z H vs ds r fr Q sz kd q k pins s σ us I rv => by
  unfold bTuple at q
  split at q <;> cases q
  · obtain ⟨v, rfl, a, xs, rfl, h1, h2⟩ := kid1 kd
    exact call_tuple_of pins s σ H _ us Q I rv ⟨a, xs, rfl, .inl ⟨SqL.of h1, fun l hl => k _ _ (NewR.tuple hl sz h2)⟩⟩
  · obtain ⟨v, rfl, k1⟩ := kid1 kd
    have k2 : Rep fa X.K Z (.tup _) v := k1
    obtain ⟨a, xs, rfl, h1, h2⟩ := k1.tupK sz
    exact call_tuple_of pins s σ H _ us Q I rv ⟨a, xs, rfl, .inr ⟨h1, k _ _ (NewR.old k2 sz)⟩⟩
theorem insI_perm (i : Int) : ∀ l : List Int, (insI i l).Perm (i :: l)
  | [] => .refl _
  | j :: js => by
    unfold insI
    split
    · exact .refl _
    · exact ((insI_perm i js).cons j).trans (List.Perm.swap i j js)
theorem isort_perm : ∀ l : List Int, (isort l).Perm l
  | [] => .refl _
  | i :: is => (insI_perm i (isort is)).trans ((isort_perm is).cons i)
theorem insI_srt (i : Int) : ∀ l : List Int, l.Pairwise (· ≤ ·) → (insI i l).Pairwise (· ≤ ·)
  | [], _ => List.pairwise_singleton _ _
  | j :: js, h => by
    have h1 := List.pairwise_cons.mp h
    unfold insI
    split
    · rename_i le
      refine List.pairwise_cons.mpr ⟨fun x hx => ?_, h⟩
      rcases List.mem_cons.mp hx with rfl | hx
      · exact le
      · have := h1.1 x hx; omega
    · rename_i le
      refine List.pairwise_cons.mpr ⟨fun x hx => ?_, insI_srt i js h1.2⟩
      rcases List.mem_cons.mp ((insI_perm i js).mem_iff.mp hx) with rfl | hx
      · omega
      · exact h1.1 x hx
theorem isort_srt : ∀ l : List Int, (isort l).Pairwise (· ≤ ·)
  | [] => .nil
  | i :: is => insI_srt i _ (isort_srt is)
theorem srt_uniq {l m : List Int} (p : l.Perm m) (hl : l.Pairwise (· ≤ ·)) (hm : m.Pairwise (· ≤ ·)) : l = m :=
  p.eq_of_pairwise (fun a b _ _ h1 h2 => Int.le_antisymm h1 h2) hl hm
theorem pyL_map : ∀ xs : List D, D.pyL xs = xs.map D.py
  | [] => rfl
  | x :: xs => by simp [D.pyL, pyL_map xs]
theorem each_vals : ∀ {ws : List V} {us : List Value} {xs : List D}, Vals ws us → ws.length = xs.length → PySem.W.EachIs (fun u (b : V × D) => RelV b.1 u) us (ws.zip xs)
  | [], _, xs, .nil, _ => .nil
  | w :: ws, _, [], _, h => by simp at h
  | w :: ws, _, x :: xs, .cons r t, h => .cons r (each_vals t (by simpa using h))
theorem vals_each : ∀ {bs : List (V × D)} {us : List Value}, PySem.W.EachIs (fun u (b : V × D) => RelV b.1 u) us bs → Vals (bs.map (·.1)) us
  | [], _, .nil => .nil
  | b :: bs, _, .cons r t => .cons r (vals_each t)
theorem zip_snd : ∀ {ws : List V} {xs : List D}, ws.length = xs.length → (ws.zip xs).map (·.2) = xs
  | [], [], _ => rfl
  | w :: ws, x :: xs, h => by simp [zip_snd (ws := ws) (xs := xs) (by simpa using h)]
  | [], _ :: _, h => by simp at h
  | _ :: _, [], h => by simp at h
theorem zip_rep {K : PySem.W.Frag} {Z : Hp} : ∀ {ws : List V} {xs : List D}, RepL fa K Z xs ws → ∀ b ∈ ws.zip xs, Rep fa K Z b.2 b.1
  | ws, [], h, b, hb => by simp at hb
  | ws, x :: xs, h, b, hb => by
    simp only [RepL] at h
    obtain ⟨v, r, rfl, h1, h2⟩ := h
    rcases List.mem_cons.mp (by simpa using hb) with rfl | hb
    · exact h1
    · exact zip_rep h2 b hb
theorem rep_list {K : PySem.W.Frag} {Z : Hp} : ∀ (bs : List (V × D)), (∀ b ∈ bs, Rep fa K Z b.2 b.1) → RepL fa K Z (bs.map (·.2)) (bs.map (·.1))
  | [], _ => by simp [RepL]
  | b :: bs, h => .cons_ (h b List.mem_cons_self) (rep_list bs fun c hc => h c (List.mem_cons_of_mem _ hc))
theorem bi_sorted {kk : Nat} (hr : Room kk X.A) : BiS fa X (.builtin "sorted") bSorted := fun Z H vs ds r fr Q sz kd q k pins s σ us I rv => by
  unfold bSorted at q
  split at q
  case h_2 => cases q
  rename_i xs
  obtain ⟨v, rfl, a, ws, rfl, h1, h2⟩ := kid1 kd
  cases e1 : asInts xs with
  | some is =>
    simp only [e1] at q
    cases q
    obtain ⟨_, e3⟩ := h2.asInts e1
    subst e3
    refine cr_sortedI pins s σ H _ us Q I rv ⟨a, is, rfl, SqL.of h1, fun ns' p hp hs hn => ?_⟩
    have e : ns' = isort is := srt_uniq (hp.trans (isort_perm is).symm) hs (isort_srt is)
    subst e
    exact k _ _ (NewR.list hn sz (RepL.of_ints _))
  | none =>
    simp only [e1] at q
    split at q
    case isFalse => cases q
    rename_i ok
    cases q
    simp only [okSort, Bool.and_eq_true, Bool.or_eq_true, decide_eq_true_eq] at ok
    obtain ⟨o1, o2, o3, o4⟩ := ok
    have hH : RepL fa X.K H xs ws := RepL.sub sz _ _ h2
    have dp := RepL.dp xs ws hH o1
    obtain ⟨its, vv, hl, hz⟩ := I.list (SqL.of h1)
    have lw : ws.length = xs.length := (h2.length).symm
    obtain ⟨u, rfl, ru⟩ := rv.one
    obtain rfl : u = Value.ref a := ru
    obtain ⟨as, ra⟩ := Dp.readsAll I _ _ _ dp vv
    have e0 : (ws.zip xs).map (fun b => b.2.py) = D.pyL xs := by
      rw [pyL_map, ← zip_snd lw, List.map_map, zip_snd lw]
      rfl
    have er := PySem.W.readsAll_each (h := s.heap) (fun b : V × D => b.2.py) (vs := its) (bs := ws.zip xs) (by rw [e0]; exact ra)
    have hu := hr.units
    have dpt : ∀ b ∈ ws.zip xs, b.2.py.depth ≤ 50 := fun b hb => by
      have m : b.2.py ∈ D.pyL xs := by rw [← e0]; exact List.mem_map.mpr ⟨b, hb, rfl⟩
      have : ∀ (l : List PyData) (d : PyData), d ∈ l → d.depth ≤ PyData.depthAll l := by
        intro l
        induction l with
        | nil => intro d h; cases h
        | cons y l ih =>
          intro d h
          simp only [PyData.depthAll]
          rcases List.mem_cons.mp h with rfl | h
          · omega
          · have := ih d h; omega
      have := this _ _ m
      omega
    have mem_x : ∀ b ∈ ws.zip xs, b.2 ∈ xs := fun b hb => by
      rw [← zip_snd lw]
      exact List.mem_map.mpr ⟨b, hb, rfl⟩
    refine PySem.W.sorted_data (R := fun u (b : V × D) => RelV b.1 u) (enc := fun b : V × D => b.2.py) (bs := ws.zip xs) hl.isList (each_vals vv lw) er (fun d hd d' hd' => ?_) ?_ ?_ (fun b hb => ?_) fun out lo eo => ?_
    · obtain ⟨b, hb, rfl⟩ := List.mem_map.mp hd
      obtain ⟨b', hb', rfl⟩ := List.mem_map.mp hd'
      exact List.all_eq_true.mp (List.all_eq_true.mp o3 _ (mem_x b hb)) _ (mem_x b' hb')
    · rcases o4 with o4 | o4
      · refine .inl fun d hd => ?_
        obtain ⟨b, hb, rfl⟩ := List.mem_map.mp hd
        have t := List.all_eq_true.mp o4 _ (mem_x b hb)
        revert t
        unfold tupC
        split
        · rename_i y ys e; intro _; exact ⟨y, ys, e⟩
        · intro t; cases t
      · refine .inr fun d hd => ?_
        obtain ⟨b, hb, rfl⟩ := List.mem_map.mp hd
        have t := List.all_eq_true.mp o4 _ (mem_x b hb)
        revert t
        unfold noTN
        split
        · intro t; cases t
        · intro t; cases t
        · rename_i n1 n2
          intro _
          exact ⟨fun e => n1 e, fun ys e => n2 ys e⟩
    · rw [List.length_zip, lw]
      have := hz
      omega
    · have := dpt b hb
      show X.A.units + 2 + b.2.py.depth < cLine
      omega
    · have ev := vals_each eo
      have pm : ((ws.zip xs).mergeSort (PySem.W.dataLe false fun b : V × D => b.2.py)).Perm (ws.zip xs) := List.mergeSort_perm _ _
      have rl : RepL fa X.K Z (((ws.zip xs).mergeSort (PySem.W.dataLe false fun b : V × D => b.2.py)).map (·.2)) (((ws.zip xs).mergeSort (PySem.W.dataLe false fun b : V × D => b.2.py)).map (·.1)) := rep_list _ fun b hb => zip_rep h2 b (pm.mem_iff.mp hb)
      have em : ((ws.zip xs).mergeSort (PySem.W.dataLe false fun b : V × D => b.2.py)).map (·.2) = xs.mergeSort leD := by
        refine (List.map_mergeSort (r := PySem.W.dataLe false fun b : V × D => b.2.py) (s := leD) (f := fun b : V × D => b.2) (l := ws.zip xs) (fun a _ b _ => rfl)).trans ?_
        rw [zip_snd lw]
      rw [em] at rl
      have hl2 : (((ws.zip xs).mergeSort (PySem.W.dataLe false fun b : V × D => b.2.py)).map (·.1)).length ≤ sizeLine := by
        rw [List.length_map, pm.length_eq, List.length_zip, lw]
        omega
      have fr1 : H (s.heap.objs.size + 1) = none := I.hok.fresh (Nat.le_succ _)
      obtain ⟨c, hc⟩ := PyProof.Rows.sortedAll_at s.heap its out.toArray
      exact ⟨.ref (s.heap.objs.size + 1), _, I.laid (t' := s.toks) (fun b o e => PyProof.Rows.sortedAll_old e) (Nat.le_succ _) (show ObjOk X.prog X.w _ _ _ (.lst (((ws.zip xs).mergeSort (PySem.W.dataLe false fun b : V × D => b.2.py)).map (·.1))) from ⟨hl2, out, c, ev, hc⟩), rfl, k _ _ (NewR.list fr1 sz rl)⟩
/-! ### x.index(k), x.count(k) -/
def MtS (fa : Nat → Addr) (X : Cx) (id : String) (f : List D → List D → Option (D × Bool)) : Prop :=
  ∀ (Z H : Hp) (a : Addr) (ws : List V) (xs : List D) (vs : List V) (ds : List D) (r : D) (fr : Bool) (Q : VK), Sub Z H → H a = some (.lst ws) → RepL fa X.K Z xs ws → KidL fa X.K Z H vs ds → f xs ds = some (r, fr) → (∀ z H2, NewR fa X.K Z H H2 fr r z → Q z H2) →
    ∀ (pins : List (Addr × Obj)) (s : Shared) (σ : L2.St) (u : Value) (us : List Value), Inv X pins σ H s → RelV (.ref a) u → Vals vs us → wpAny (model X.prog X.w) X.A (call (.builtin id) (u :: us)) (EP X pins σ Q) X.xe s
theorem snd_mt {id : String} {f : List D → List D → Option (D × Bool)} {o e : Expr} {es : List Expr} {fs : List Ex} {name : Str} {apos cpos : Pos} {dO : Ex} (hm : MtS fa X id f) (slot : PySem.Slot "list" name id) (hty : typeOf (.builtin id) = pure (.type "method_descriptor"))
    (ho : Snd fa ca X o dO) (ha : SndA fa ca X (e :: es) fs) (hst : (e :: es).all notStar = true) (hfew : decide ((e :: es).length + 0 + 0 < 30) = true) (hline : (apos.endLine == cpos.line) = true) (hbase : attributeBase o name X.env (eval o X.env) = eval o X.env) :
    Snd fa ca X (.Call (.Attribute o name apos) (e :: es) [] cpos) (xMt f dO fs) := fun W tk N H σ E Q s p => by
  simp only [List.all_cons, Bool.and_eq_true] at hst
  have hs := star_cons (env := X.env) (es := es) hst.1
  have hpl : (backTo cpos (starEach es X.env)).any (·.1) = false := noStar_any hst.2
  refine of_pe (pe_bm (r := fun x xs H' Q' => ∀ (pins : List (Addr × Obj)) (s : Shared) (σ : L2.St) (u : Value) (us : List Value), Inv X pins σ H' s → RelV x u → Vals xs us → wpAny (model X.prog X.w) X.A (call (.builtin id) (u :: us)) (EP X pins σ Q') X.xe s)
    PySem.F.plainAttrs_list slot hty (fun pins s σ H x xs v us Q I rx rxs h => h pins s σ v us I rx rxs) (peE (e := o)) (paA (es := e :: es)) hbase ?_ hline hs hpl) ?_
  · rw [hs]
    show ((!false && (backTo cpos (starEach es X.env)).all (fun x => !x.1)) && true && _) = true
    have h2 : (backTo cpos (starEach es X.env)).all (fun x => !x.1) = true := by
      rw [List.any_eq_false] at hpl
      exact List.all_eq_true.mpr fun x hx => by
        have := hpl x hx
        simpa using this
    rw [h2]
    simpa using hfew
  · show tE X o σ H _
    unfold xMt at p
    refine ho.bd tk s (Sub.refl _) p fun r x H1 e1 g1 r1 p1 => ?_
    have k1 := r1.kid s g1
    cases hd : r.d <;> simp only [hd] at p1 k1 <;> try exact p1.elim
    rename_i xs
    obtain ⟨ap, ws, rfl, h1, h2⟩ := k1
    refine ⟨.inl ⟨rfl, ws, SqL.of h1⟩, ?_⟩
    refine ha.bd tk (s.grow g1) g1 p1 fun rs vs H2 e2 g2 r2 p2 => ?_
    have g12 := g1.trans g2
    cases q : f xs (dL rs) with
    | none => simp only [q] at p2; exact p2.elim
    | some z =>
      obtain ⟨d, fr⟩ := z
      simp only [q] at p2
      refine hm (hide H2 (del N σ (r.kc ++ kcL rs))) H2 ap ws xs vs (dL rs) d fr _ hide_sub (g2 _ _ h1) (RepL.sub (Sub.trans (hide_mono g2 fun b o _ n => n) (hide_dep mem_app_l)) _ _ h2) (rrl_kid (s.grow g1) g2 _ r2 fun i h => mem_app_r i h) q fun z H3 nr => p2 z H3 (g12.trans nr.1) (nr.rr s g12)
theorem firstAt_spec {k : Int} : ∀ {l : List Int} {j : Nat}, firstAt k l = some j → l[j]? = some k ∧ ∀ m, m < j → ∀ z, l[m]? = some z → z ≠ k
  | [], j, h => by cases h
  | x :: l, j, h => by
    unfold firstAt at h
    by_cases c : x = k
    · rw [if_pos c] at h
      cases h
      exact ⟨by simp [c], fun m hm => absurd hm (Nat.not_lt_zero _)⟩
    · rw [if_neg c] at h
      obtain ⟨i, h1, rfl⟩ := Option.map_eq_some_iff.mp h
      obtain ⟨q1, q2⟩ := firstAt_spec h1
      refine ⟨by simpa using q1, fun m hm z hz => ?_⟩
      cases m with
      | zero => simp at hz; rw [← hz]; exact c
      | succ m => exact q2 m (by omega) z (by simpa using hz)
theorem kidInt {K : PySem.W.Frag} {Z H : Hp} {vs : List V} {i : Int} (h : KidL fa K Z H vs [.int i]) : vs = [.int i] := by
  obtain ⟨v, rfl, k1⟩ := kid1 h
  rw [k1.int]
theorem mt_idx : MtS fa X "list.index" mIndex := fun Z H a ws xs vs ds r fr Q sz ha rl kd q k pins s σ u us I ru rv => by
  unfold mIndex at q
  split at q
  · obtain ⟨is, e1, q⟩ := Option.bind_eq_some_iff.mp q
    obtain ⟨j, e2, q⟩ := Option.map_eq_some_iff.mp q
    cases q
    obtain ⟨_, e3⟩ := rl.asInts e1
    subst e3
    have ev := kidInt kd
    subst ev
    obtain ⟨f1, f2⟩ := firstAt_spec e2
    refine mt_index pins s σ H _ _ u us Q I ru rv ⟨a, is.map V.int, .int _, j, .int _, rfl, rfl, SqL.of ha, rfl, ?_, by rw [List.getElem?_map, f1]; rfl, ?_, fun m z' hm hz => ?_, k _ _ newR_int⟩
    · simp [List.all_eq_true, flatV]
    · simp [eqV]
    · rw [List.getElem?_map] at hz
      obtain ⟨w, hw, rfl⟩ := Option.map_eq_some_iff.mp hz
      have := f2 m hm w hw
      simp [eqV, this]
  · cases q
theorem mt_cnt : MtS fa X "list.count" mCount := fun Z H a ws xs vs ds r fr Q sz ha rl kd q k pins s σ u us I ru rv => by
  unfold mCount at q
  split at q
  · obtain ⟨is, e1, q⟩ := Option.map_eq_some_iff.mp q
    cases q
    obtain ⟨_, e3⟩ := rl.asInts e1
    subst e3
    have ev := kidInt kd
    subst ev
    exact mt_lcount pins s σ H _ _ u us Q I ru rv ⟨a, is, _, rfl, rfl, SqL.of ha, k _ _ newR_int⟩
  · cases q
/-! ### xs.extend(ys) -/
theorem sndS_ext {i : Nat} {y : Str} {p1 p2 p3 : Pos} (hN : X.N[i]? = some y) (hv : Vis X.env.scope y) (hd : (y == ("__debug__" : Str)) = false) (hcd : (y == ("__classdict__" : Str)) = false) (hst : notStar e = true) (hline : (p2.endLine == p3.line) = true) (he : Snd fa ca X e da) :
    SndS fa ca X (.Expr (.Call (.Attribute (.Name y p1) "extend" p2) [e] [] p3) pos) (sExt i da) := fun W tk H0 U N H σ E D x p => by
  refine of_ps (ps_expr (pe_bm PySem.F.plainAttrs_list PySem.F.slot_list_extend PySem.F.type_list_extend mt_extend (pe_var (i := i) hN hv hd hcd) (pa_cons (peE (e := e)) pa_nil (star_cons hst)) rfl (by rw [star_cons hst]; rfl) hline (star_cons hst) rfl) rfl) ?_
  unfold sExt at p
  split at p
  case h_2 => exact p.elim
  · rename_i xs0 hsl
    have p' : PostS fa ca X.K W H0 U D (hide H N) ((da E).to E fun r => (match r.d with
      | .lst ys => Rt.frzO r.kc E fun σ' => (match σ'[i]? with
        | some (some (.lst xs, true)) => if xs.length + ys.length ≤ line then .nx (σ'.set i (some (.lst (xs ++ ys), true))) else .bad
        | _ => .bad)
      | _ => .bad)) := p
    obtain ⟨ap, z1, z2, vs0, z3, z4⟩ := x.sr.ow i _ hsl
    refine ⟨_, z1, .inl ⟨rfl, _, SqL.of z3⟩, ?_⟩
    show tE X e σ H _
    refine he W tk N H σ E _ x.sr ?_
    refine (p'.to x.fs.sub).imp fun r _ q v H1 g rr => ?_
    have kd := rr.kid x.sr g
    cases hrd : r.d <;> simp only [hrd] at q kd <;> try exact q.elim
    rename_i ys
    obtain ⟨bp, ws, rfl, k1, k2⟩ := kd
    obtain ⟨fine, q⟩ := q.frzO
    have x1 := (x.frz fine).grow g
    cases qe : (frz r.kc E)[i]? with
    | none => simp only [qe] at q; exact q.elim
    | some o =>
      cases o with
      | none => simp only [qe] at q; exact q.elim
      | some dk =>
        obtain ⟨d, k⟩ := dk
        cases d <;> cases k <;> simp only [qe] at q <;> try exact q.elim
        rename_i xs
        split at q
        case isFalse => exact q.elim
        rename_i hl
        obtain ⟨p, vs, w1, w2, w3, w4⟩ := own_at (H := H) x1 qe
        have e1 : p = ap := by rw [z1] at w1; cases w1; rfl
        subst e1
        obtain ⟨x2, sb⟩ := x1.write (o := .lst (vs ++ ws)) (d' := .lst (xs ++ ys)) qe w1 ⟨_, upd_same, w3.append k2⟩
        exact ⟨p, bp, vs, ws, rfl, rfl, w2, k1, by rw [← line_eq, ← w3.length, ← k2.length]; exact hl, q _ _ _ ((hide_mono g fun b o _ n => n.1).trans sb) x2⟩
/-! ### range(i, j, k) -/
theorem wk_rangeC {K : PySem.W.Frag} {Zt Zi : Hp} {lo c : Int} {n : Nat} : Wk fa K Zt Zi (L2.Itc lo c n) (((List.range n).map fun (k : Nat) => lo + (k : Int) * c).map .int) where
  go := fun i H d st si e => by
    simp only [List.map_map, List.getElem?_map, Option.map_eq_some_iff] at e
    obtain ⟨k, e1, e2⟩ := e
    have lt : i < n := by
      have := (List.getElem?_eq_some_iff.mp e1).1
      simpa using this
    rw [List.getElem?_range lt] at e1
    cases e1
    refine ⟨lt, fun x H' y => ?_⟩
    obtain ⟨rfl, rfl⟩ := y
    rw [← e2]
    exact newR_int
  stop := fun i H st si le => by
    have : n ≤ i := by simpa using le
    exact this
theorem snd_range3 {p0 : Pos} (hg : Gl X "range") (hm : X.mg "range" = none) (hs : notStar a = true) (hs2 : notStar b = true) (hs3 : notStar c = true) (ha : Snd fa ca X a da) (hb : Snd fa ca X b db) (hc : Snd fa ca X c dc) : SndI fa ca X tg (.Call (.Name "range" p0) [a, b, c] [] pos) (Rt.iRng3 da db dc) := fun W tk N H σ E R s p => by
  refine of_pi (pi_range3 hg hm (pa_cons (peE (e := a)) (pa_cons (peE (e := b)) (pa_cons (peE (e := c)) pa_nil (star_cons hs3)) (star_cons hs2)) (star_cons hs)) (by rw [star_cons hs, star_cons hs2, star_cons hs3]) (noStar_any (by simp [hs2, hs3]))) ?_
  unfold Rt.iRng3 at p
  show tE X a σ H _
  refine ha.bd tk s (Sub.refl _) p fun r x H1 e1 g1 r1 p1 => ?_
  refine hb.bd tk (s.grow g1) g1 p1 fun r' y H2 e2 g2 r2 p2 => ?_
  refine hc.bd tk (s.grow (g1.trans g2)) (g1.trans g2) p2 fun r'' z H3 e3 g3 r3 p3 => ?_
  have g23 := g2.trans g3
  have g13 := g1.trans g23
  have k1 := (r1.grow g23).kid s g13
  have k2 := (r2.grow g3).kid (s.grow g1) g23
  have k3 := r3.kid (s.grow (g1.trans g2)) g3
  cases hd : r.d <;> simp only [hd] at p3 k1 <;> try exact p3.elim
  cases hd2 : r'.d <;> simp only [hd2] at p3 k2 <;> try exact p3.elim
  cases hd3 : r''.d <;> simp only [hd3] at p3 k3 <;> try exact p3.elim
  rename_i i j kk
  cases q : stepI i j kk with
  | none => simp only [q] at p3; exact p3.elim
  | some l =>
    simp only [q] at p3
    unfold stepI at q
    split at q
    case isFalse => cases q
    rename_i ok
    simp only [Bool.and_eq_true, decide_eq_true_eq] at ok
    cases q
    have e := k1.int; subst e
    have e := k2.int; subst e
    have e := k3.int; subst e
    exact ⟨i, j, kk, _, rfl, ⟨ok.1.1, ok.1.2, ok.2, rangeSize_toNat i j kk⟩, p3 _ H3 g13 wk_rangeC⟩
/-! ### {} -/
theorem snd_dct0 : Snd fa ca X (.Dict [] [] pos) xDct0 := fun W tk N H σ E Q s p => by
  refine of_pe pe_dnewK ?_
  intro ap hn
  exact p _ _ (sub_upd hn) (NewR.rr (fr := true) (p := []) s (Sub.refl _) ⟨sub_upd hn, ap, rfl, hn, [], upd_same, rfl, by simp [RepL]⟩)
/-! ### list(range(..)) -/
theorem snd_lrg1 {p0 p1 p2 : Pos} (hcalm : X.calm = true) (hg : Gl X "range") (hm : X.mg "range" = none) (hg' : Gl X "list") (hm' : X.mg "list" = none) (hs : notStar a = true) (ha : Snd fa ca X a da) :
    Snd fa ca X (.Call (.Name "list" p1) [.Call (.Name "range" p0) [a] [] p2] [] pos) (xLRg1 da) := fun W tk N H σ E Q s p => by
  refine of_pe (pe_listRg hcalm hg' hm' (prg_1 hg hm (peE (e := a)) (star_cons hs)) rfl) ?_
  unfold xLRg1 at p
  show tE X a σ H _
  refine ha.bd tk s (Sub.refl _) p fun r x H1 e1 g1 r1 p1 => ?_
  have k1 := r1.kid s g1
  cases hd : r.d <;> simp only [hd] at p1 k1 <;> try exact p1.elim
  rename_i n
  split at p1
  case isFalse => exact p1.elim
  rename_i ok
  simp only [okRl, Bool.and_eq_true, decide_eq_true_eq, below_iff] at ok
  have e := k1.int; subst e
  refine ⟨n, rfl, RgOk.of_le (by decide) (by omega) (by decide) (by omega), fun q hq => p1 _ _ (g1.trans (sub_upd hq)) ?_⟩
  have en : rgV 0 n = ((upto 0 n.toNat).map V.int) := by
    unfold rgV upto
    rw [List.map_map]
    rw [show n - 0 = n by omega]
    rfl
  rw [en]
  exact NewR.rr (fr := true) (p := []) s g1 (NewR.list hq hide_sub (RepL.of_ints _))
end
end Rt
end
section
set_option linter.all false
set_option autoImplicit false
set_option Elab.async false
set_option maxRecDepth 100000
set_option maxHeartbeats 3200000
namespace Rt
open PySem PySem.Spec PyProof.Rows L2
/-! ## sorted(set(x)), x a list of few ints -/
section
variable {P : Program} {w : World} {A : Around} {E : Value → Shared → Prop} {s : Shared}
abbrev SO_ (w : World) : Obj := { cls := .type "set", dict := none, data := .set #[] 0 (.fresh 0 0 (!w.params.followText "set-order")) }
/-- a set made of a list: its members are the list's, its walk is known -/
theorem call_set_lst {l : Addr} {its : Array Value} (ns : List Int) {Q : Value → Shared → Prop} (nh : A.handled = none) (il : s.heap.IsList l its) (ia : IntsAre its.toList ns) (fw : ns.length + 1 < scanBound)
    (k : ∀ (g : Heap) (tk c : Nat), SetR w g s.heap.objs.size (fun j => decide (j ∈ ns)) c → c ≤ ns.length → (∀ b o, s.heap.get? b = some o → g.get? b = some o) → Q (.ref s.heap.objs.size) { s with heap := g, toks := tk }) :
    wpAny (model P w) A (call (.type "set") [.ref l]) Q E s := by
  have zs : its.size = ns.length := by rw [← IntsAre.length ia, Array.length_toList]
  obtain ⟨_, _, mro_⟩ := F.called_set.mro
  have made_ := F.called_set.made
  have sub_ := F.called_set.sub
  refine wpAny_call (codeAny_of_tree (wpAny_pure ⟨Code.quiet_builtin _ (by decide +kernel), codeAny_builtin F.entry_type_call ?_⟩))
  rw [Around.under_plain (weight_type_call_type "set" [.ref l] []) rfl]
  have t1_ := F.called_set.notType
  have t2_ := F.called_set.canCreate
  have t3_ := F.typeCall_set_1 (.ref l)
  repeat (any_goals (first | assumption | wp_step))
  refine codeAny_mono (code_set_led1 (.ref l) (E := E) (Q₁ := fun v z => v = .ref s.heap.objs.size ∧ z = { s with heap := s.heap.push (SO_ w) }) ⟨rfl, rfl⟩) fun r z hr => ?_
  cases r with
  | error e => exact hr
  | ok fl =>
    cases fl with
    | ret v =>
      obtain ⟨rfl, rfl⟩ := hr
      have at0 : (s.heap.push (SO_ w)).get? s.heap.objs.size = some (SO_ w) := Heap.get?_push_size _ rfl
      have ty0 : Shared.TypeIs { s with heap := s.heap.push (SO_ w) } (.ref s.heap.objs.size) "set" := ⟨_, at0, rfl⟩
      have li_ := F.called_set.init.lookup
      have bi_ := F.called_set.init.bind (.ref s.heap.objs.size)
      repeat (any_goals (first | assumption | wp_step))
      refine codeAny_mono (codeAny_call_builtin (R := wants (fun r z => r = .none ∧ ∃ g tk c, z = { s with heap := g, toks := tk } ∧ SetR w g s.heap.objs.size (fun j => decide (j ∈ ns)) c ∧ c ≤ ns.length ∧
        ∀ b o, s.heap.get? b = some o → g.get? b = some o) E) F.called_set.init.plain F.entry_set_init (check_set_init_1 ty0 ?_)) fun r2 z2 hr2 => ?_
      · obtain ⟨⟨oc, od, odt, osl⟩, ho, hc, n0, hd⟩ := il
        simp only at hc hd
        subst hc
        subst hd
        have ho1 : (s.heap.push (SO_ w)).get? l = some { cls := .type "list", dict := od, data := .seq its n0, slots := osl } := Heap.get?_push_of_some _ ho
        have il1 : (s.heap.push (SO_ w)).IsList l its := ⟨_, ho1, rfl, n0, rfl⟩
        have b1_ := F.sub_list_set
        have b2_ := F.sub_list_frozenset
        have b3_ : (Value.type "list" == Value.type "dict") = false := by decide
        unfold Builtin.«set.__init__» noKeywords Builtin.Frozenset.updateFrom
        generalize hPI : pyIter = PI
        wp_walk
        subst hPI
        refine wpAny_pyIter_list il1 (wpAny_bind (wpAny_runValue ?_))
        have lt0 : l < s.heap.objs.size := Heap.lt_size ho
        have zp : (s.heap.push (SO_ w)).objs.size = s.heap.objs.size + 1 := Heap.size_push ..
        have ne1 : l ≠ (s.heap.push (SO_ w)).objs.size := by rw [zp]; exact Nat.ne_of_lt (Nat.lt_succ_of_lt lt0)
        have nin : s.heap.objs.size ∉ [(s.heap.push (SO_ w)).objs.size, l] := by
          rw [zp]
          simp only [List.mem_cons, List.not_mem_nil, or_false]
          exact not_or.mpr ⟨Nat.ne_of_lt (Nat.lt_succ_self _), Nat.ne_of_gt lt0⟩
        have vals : ∀ (i : Nat) (v : Value), its[i]? = some v → ∃ k t, ns[i]? = some k ∧ v = .int k t := fun i v hv => by
          have lt : i < ns.length := by rw [← zs]; exact (Array.getElem?_eq_some_iff.mp hv).1
          obtain ⟨t, e⟩ := IntsAre.int_at ia i v (by rw [Array.getElem?_toList]; exact hv)
          refine ⟨ns[i], t, List.getElem?_eq_getElem lt, ?_⟩
          rw [e, List.getD_eq_getElem?_getD, List.getElem?_eq_getElem lt]; rfl
        have nh3 : A.in1.in1.in1.handled = none := by simp [nh]
        refine set_update_ints ((Walks.list nh3 _ l ne1 its).toS) s.heap.objs.size nin ns zs fw vals (its.size - 0) 0 _ (by omega) (Nat.zero_le _) ⟨⟨_, Heap.get?_push_size _ rfl, rfl, rfl⟩, (il1.push _)⟩ ?S0 ?S1
        case S0 => exact ⟨0, Nat.le_refl 0, setR_new_at (Heap.get?_push_of_some _ at0)⟩
        case S1 =>
          intro z c mv hc hS
          obtain ⟨g, gs, dr, tk, os⟩ := z
          obtain rfl : gs = s.gens := mv.gens
          obtain rfl : dr = s.drawn := mv.drawn
          obtain rfl : os = s.os := mv.os
          rw [zs] at hc
          refine wpAny_pure (wpAny_pure ⟨rfl, g, tk, c, rfl, hS, hc, fun b o e => ?_⟩)
          have lb : b < s.heap.objs.size := Heap.lt_size e
          refine mv.heap b o ?_ (Heap.get?_push_of_some _ (Heap.get?_push_of_some _ e))
          rw [zp]
          simp only [List.mem_cons, List.not_mem_nil, or_false]
          exact not_or.mpr ⟨Nat.ne_of_lt lb, Nat.ne_of_lt (Nat.lt_succ_of_lt lb)⟩
      · cases r2 with
        | error e => exact hr2
        | ok fl2 =>
          cases fl2 with
          | ret u =>
            obtain ⟨rfl, g, tk, c, rfl, a1, a2, a3⟩ := hr2
            repeat (any_goals (first | assumption | wp_step))
            exact k _ _ _ a1 a2 a3
          | _ => exact hr2.elim
    | _ => exact hr.elim
end
end Rt
end
section
set_option linter.all false
set_option autoImplicit false
set_option Elab.async false
set_option maxRecDepth 100000
set_option maxHeartbeats 2000000
namespace Rt
open PySem PySem.Spec PyProof.Rows L2
/-- put into a list of ints that rises, unless it is there -/
def insU (i : Int) : List Int → List Int
  | [] => [i]
  | j :: js => if i < j then i :: j :: js else if i = j then j :: js else j :: insU i js
def usetI : List Int → List Int
  | [] => []
  | i :: is => insU i (usetI is)
theorem insU_mem (i k : Int) : ∀ l : List Int, k ∈ insU i l ↔ k = i ∨ k ∈ l
  | [] => by simp [insU]
  | j :: js => by
    unfold insU
    split
    · simp
    · split
      · rename_i e; subst e; simp
      · rw [List.mem_cons, List.mem_cons, insU_mem i k js]
        constructor
        · rintro (h | h | h)
          · exact .inr (.inl h)
          · exact .inl h
          · exact .inr (.inr h)
        · rintro (h | h | h)
          · exact .inr (.inl h)
          · exact .inl h
          · exact .inr (.inr h)
theorem insU_rise (i : Int) : ∀ l : List Int, l.Pairwise (· < ·) → (insU i l).Pairwise (· < ·)
  | [], _ => List.pairwise_singleton _ _
  | j :: js, h => by
    obtain ⟨h1, h2⟩ := List.pairwise_cons.mp h
    unfold insU
    split
    · rename_i lt
      refine List.pairwise_cons.mpr ⟨fun x hx => ?_, h⟩
      rcases List.mem_cons.mp hx with rfl | hx
      · exact lt
      · have := h1 x hx; omega
    · split
      · exact h
      · rename_i a b
        refine List.pairwise_cons.mpr ⟨fun x hx => ?_, insU_rise i js h2⟩
        rcases (insU_mem i x js).mp hx with rfl | hx
        · omega
        · exact h1 x hx
theorem uset_mem (k : Int) : ∀ l : List Int, k ∈ usetI l ↔ k ∈ l
  | [] => by simp [usetI]
  | i :: is => by rw [usetI, insU_mem, uset_mem k is, List.mem_cons]
theorem uset_rise : ∀ l : List Int, (usetI l).Pairwise (· < ·)
  | [] => .nil
  | i :: is => insU_rise i _ (uset_rise is)
theorem rise_uniq : ∀ {l m : List Int}, l.Pairwise (· < ·) → m.Pairwise (· < ·) → (∀ k, k ∈ l ↔ k ∈ m) → l = m
  | [], [], _, _, _ => rfl
  | [], y :: m, _, _, h => by have := (h y).mpr List.mem_cons_self; cases this
  | x :: l, [], _, _, h => by have := (h x).mp List.mem_cons_self; cases this
  | x :: l, y :: m, hl, hm, h => by
    obtain ⟨a1, a2⟩ := List.pairwise_cons.mp hl
    obtain ⟨b1, b2⟩ := List.pairwise_cons.mp hm
    have e : x = y := by
      rcases List.mem_cons.mp ((h x).mp List.mem_cons_self) with e | e
      · exact e
      · rcases List.mem_cons.mp ((h y).mpr List.mem_cons_self) with f | f
        · exact f.symm
        · have := b1 x e; have := a1 y f; omega
    subst e
    congr 1
    refine rise_uniq a2 b2 fun k => ⟨fun z => ?_, fun z => ?_⟩
    · rcases List.mem_cons.mp ((h k).mp (List.mem_cons_of_mem _ z)) with e | e
      · have := a1 k z; omega
      · exact e
    · rcases List.mem_cons.mp ((h k).mpr (List.mem_cons_of_mem _ z)) with e | e
      · have := b1 k z; omega
      · exact e
/-- sorted(set(x)) -/
def bSSet : List D → Option (D × Bool)
  | [.lst xs] => (match asInts xs with
    | some is => if is.length < 64 then some (.lst ((usetI is).map .int), true) else none
    | none => none)
  | _ => none
section
variable {fa ca : Nat → Addr} {X : Cx} {e : Expr} {da : Ex}
def isSet (w : World) (p : Addr) (ns : List Int) : Heap → Prop := fun h => ∃ c, c ≤ ns.length ∧ SetR w h p (fun j => decide (j ∈ ns)) c
def rMadeS (X : Cx) : List V → Hp → VK → Prop := fun vs H Q => ∃ (l : Addr) (ns : List Int), vs = [.ref l] ∧ SqL X.K H l (ns.map V.int) ∧ ns.length < 64 ∧ ∀ p, H p = none → Q (.ref p) (upd H p (.ext (isSet X.w p ns)))
theorem cr_made (hc : X.calm = true) : CallR X (.type "set") (rMadeS X) := by
  intro pins s σ H vs us Q I r h
  obtain ⟨l, ns, rfl, hs, few, q⟩ := h
  obtain ⟨its, rv, hl, _⟩ := I.list hs
  rw [Vals.ref1 r]
  refine call_set_lst ns (I.ok.hd hc) hl.isList rv.ints (by unfold scanBound; omega) fun g tk c R hcn kk => ?_
  have ob : ∃ o, g.get? s.heap.objs.size = some o := by
    obtain ⟨o, es, ep, t, ho, _⟩ := R
    exact ⟨o, ho⟩
  refine ⟨.ref _, upd H s.heap.objs.size (.ext (isSet X.w s.heap.objs.size ns)), I.laid (t' := tk) kk (Nat.le_refl _) ⟨⟨c, hcn, R⟩, ob, fun h1 h2 ⟨c, hc, R⟩ k => ⟨c, hc, R.at k⟩⟩, rfl, q _ (I.hok.fresh (Nat.le_refl _))⟩
def rSortS (X : Cx) : List V → Hp → VK → Prop := fun vs H Q => ∃ (p : Addr) (ns : List Int), vs = [.ref p] ∧ H p = some (.ext (isSet X.w p ns)) ∧ ns.length < 64 ∧ ∀ q, H q = none → Q (.ref q) (upd H q (.lst ((usetI ns).map V.int)))
theorem cr_sortS (hc : X.calm = true) : CallR X (.builtin "sorted") (rSortS X) := by
  intro pins s σ H vs us Q I r h
  obtain ⟨p, ns, rfl, hp, few, q⟩ := h
  rw [Vals.ref1 r]
  obtain ⟨⟨c, hcn, R⟩, _, _⟩ := I.hok p _ hp
  refine sorted_set R (I.ok.hd hc) (by omega) fun z b out n ms kk g1 o1 hz hb hi hr hm hn => ?_
  have em : ms = usetI ns := rise_uniq hr (uset_rise ns) fun k => by rw [hm k, uset_mem, decide_eq_true_eq]
  subst em
  have ll : ((usetI ns).map V.int).length ≤ sizeLine := by rw [List.length_map, hn, sizeLine_eq]; omega
  exact ⟨.ref b, upd H b (.lst ((usetI ns).map V.int)), I.call' (ch := []) o1 (Un.laid kk hz (I.hok.fresh hz)) (I.hok.laid kk hz ⟨ll, out.toList, n, vals_of_ints hi, hb⟩) (by rw [g1]; exact I.bare) (fun _ z => nomatch z), rfl, q b (I.hok.fresh hz)⟩
theorem snd_sset {p0 p1 p2 pos : Pos} (hc : X.calm = true) (g1 : Gl X "sorted") (m1 : X.mg "sorted" = none) (g2 : Gl X "set") (m2 : X.mg "set" = none) (hst : notStar e = true) (ha : Snd fa ca X e da) :
    Snd fa ca X (.Call (.Name "sorted" p0) [.Call (.Name "set" p1) [e] [] p2] [] pos) (xBi bSSet [da]) := fun W tk N H σ E Q s p => by
  have s1 : notStar (.Call (.Name "set" p1) [e] [] p2) = true := rfl
  refine of_pe (pe_callB (cr_sortS hc) g1 m1 (by first | boot_by_name | decide +kernel) (pa_cons (pe_callTy (cr_made hc) g2 m2 PyProof.Rows.boot_set (paA (es := [e])) (by decide) (by decide) (star_cons hst) (noStar_any (es := []) rfl)) pa_nil (star_cons s1)) (by decide) (by decide) (star_cons s1) (noStar_any (es := []) rfl)) ?_
  unfold xBi at p
  refine (sndA_cons hst ha sndA_nil).bd tk s (Sub.refl _) p fun rs vs H1 e1 g1 r1 p1 => ?_
  cases q : bSSet (dL rs) with
  | none => simp only [q] at p1; exact p1.elim
  | some z =>
    obtain ⟨d, fr⟩ := z
    simp only [q] at p1
    have kd := rrl_kid s g1 _ r1 fun i h => h
    generalize dL rs = ds at *
    unfold bSSet at q
    split at q
    case h_2 => cases q
    rename_i xs
    split at q
    case h_2 => cases q
    rename_i is ei
    split at q
    case isFalse => cases q
    rename_i few
    cases q
    obtain ⟨v, rfl, a, ws, rfl, h1, h2⟩ := kid1 kd
    obtain ⟨_, e3⟩ := h2.asInts ei
    subst e3
    refine ⟨a, is, rfl, SqL.of h1, few, fun b hb => ?_⟩
    show rSortS X [.ref b] _ _
    refine ⟨b, is, rfl, upd_same, few, fun c hcn => ?_⟩
    have ne : c ≠ b := fun z => by rw [z, upd_same] at hcn; cases hcn
    have h1c : H1 c = none := by rw [upd_ne ne] at hcn; exact hcn
    refine p1 _ _ (g1.trans ((sub_upd hb).trans (sub_upd hcn))) (NewR.rr s g1 ⟨(sub_upd hb).trans (sub_upd hcn), c, rfl, h1c, _, upd_same, RepL.of_ints _⟩)
end
end Rt
end
section
set_option linter.all false
set_option autoImplicit false
set_option Elab.async false
set_option maxRecDepth 100000
set_option maxHeartbeats 3200000
namespace Rt
open PySem PySem.Spec PyProof.Rows L2
/-! ## min(x), max(x), x a list of data that are alike -/
/-- what was there stays -/
def Kept (h0 h : Heap) : Prop := ∀ b o, h0.get? b = some o → h.get? b = some o
/-- two items compared, in any heap that keeps the first one -/
def CmpK (pg : Program) (w : World) (A : Around) (h0 : Heap) (op : CmpOp) (Fi : Nat → Value → Prop) (bt : Nat → Nat → Bool) : Prop :=
  ∀ i j u v (st : Shared) (Q : Value → Shared → Prop) (E : Value → Shared → Prop), Kept h0 st.heap → Fi i u → Fi j v → Q (.bool (bt i j)) st → wpAny (model pg w) A (richCompare op u v) Q E st
section
variable {pg : Program} {w : World} {A : Around} {h0 : Heap} {R : Result → Shared → Prop} {it : Addr} {fp wr : List Addr} {n : Nat} {Fi : Nat → Value → Prop} {St : Nat → Heap → Prop}
theorem min_go (V : Walks pg w A.in1 it fp wr n Fi St) (bt : Nat → Nat → Bool) (cmp : CmpK pg w A.in1 h0 .Lt Fi bt) (best : Addr) (nf : best ∉ fp) (nb : h0.get? best = none) (nw : ∀ b ∈ wr, h0.get? b = none) :
    ∀ (k j : Nat) (st : Shared) (u : Value) (c : Nat), n - (j + 1) = k → j + 1 ≤ n → St (j + 1) st.heap → Kept h0 st.heap → Fi (argBest bt j) u →
    st.heap.get? best = some { cls := .type "list", dict := none, data := .seq #[u, u] c, slots := #[] } →
    (∀ v g tk, Fi (argBest bt (n - 1)) v → (∀ b o, b ∉ wr → b ≠ best → st.heap.get? b = some o → g.get? b = some o) → R (.ok (.ret v)) { st with heap := g, toks := tk }) →
    codeAny (model pg w) A (.builtin "min.loop" ⟨[.ref it, .none, .ref best], []⟩) R st := by
  have nbw : best ∉ wr := fun q => nf (V.sub _ q)
  have nm : (toString "min" ++ toString ".loop" : String) = "min.loop" := by decide
  have grow : ∀ {g g' : Heap}, Kept h0 g → (∀ b o, b ∉ wr → b ≠ best → g.get? b = some o → g'.get? b = some o) → Kept h0 g' := fun kg k b o e =>
    k b o (fun m => by rw [nw b m] at e; cases e) (fun z => by rw [z, nb] at e; cases e) (kg b o e)
  intro k
  induction k with
  | zero =>
    intro j st u c hk hj at_ kp fu hb fin
    have en : j + 1 = n := by omega
    refine codeAny_builtin F.entry_min_loop ?_
    rw [Around.under_plainId F.plain_min_loop _]
    show wpAny _ A.in1 (seqItems? (.ref best) >>= _) _ _ st
    refine wpAny_bind (wpAny_seqItems hb rfl ?_)
    show wpAny _ A.in1 (tryCatch (pyNext (.ref it)) _ >>= _) _ _ st
    refine wpAny_bind (wpAny_tryCatch (V.done st _ _ (en ▸ at_) fun g tk kg => ?_))
    have hb' := kg best _ nbw hb
    show wpAny _ A.in1 (updateSeq best (fun _ => #[]) >>= _) _ _ _
    refine wpAny_bind (wpAny_updateSeq hb' rfl (wpAny_bind (wpAny_letGo (wpAny_pure (fin u _ tk (by rw [← en]; exact fu) fun b o b1 b2 e => ?_)))))
    exact (Heap.get?_update_other _ _ (Ne.symm b2)).trans (kg b o b1 e)
  | succ k ih =>
    intro j st u c hk hj at_ kp fu hb fin
    have lt : j + 1 < n := by omega
    refine codeAny_builtin F.entry_min_loop ?_
    rw [Around.under_plainId F.plain_min_loop _]
    show wpAny _ A.in1 (seqItems? (.ref best) >>= _) _ _ st
    refine wpAny_bind (wpAny_seqItems hb rfl ?_)
    show wpAny _ A.in1 (tryCatch (pyNext (.ref it)) _ >>= _) _ _ st
    refine wpAny_bind (wpAny_tryCatch (V.item (j + 1) st _ _ lt at_ fun v g tk fv at2 kg => ?_))
    have hb' := kg best _ nbw hb
    have kp2 : Kept h0 g := grow kp fun b o b1 _ e => kg b o b1 e
    show wpAny _ A.in1 (tryCatch (holding [v, v] (richCompare .Lt v u >>= _)) _ >>= _) _ _ _
    refine wpAny_bind (wpAny_tryCatch (wpAny_holding (wpAny_bind (cmp (j + 1) (argBest bt j) v u _ _ _ kp2 fv fu ?_))))
    refine wpAny_bind (wpAny_holding (wpAny_truthy_bool (wpAny_bind (wpAny_letGo (wpAny_pure ?_)))))
    cases cb : bt (j + 1) (argBest bt j) with
    | true =>
      simp only [if_true]
      refine wpAny_bind (wpAny_updateSeq hb' rfl (wpAny_bind (wpAny_letGo ?_)))
      rw [nm]
      refine wpAny_pure ⟨plainId_quiet F.plain_min_loop _, ih (j + 1) _ v _ (by omega) lt (V.frame _ _ _ at2 fun b bf o e => ?_) (grow kp2 fun b o _ b2 e => (Heap.get?_update_other _ _ (Ne.symm b2)).trans e) (by simp only [argBest, cb, if_true]; exact fv) (Heap.get?_update_self _ hb' rfl) fun v' g' tk' fv' kg' => ?_⟩
      · exact (Heap.get?_update_other _ _ (fun z : best = b => nf (by rw [z]; exact bf))).trans e
      · exact fin v' g' tk' fv' fun b o b1 b2 e => kg' b o b1 b2 ((Heap.get?_update_other _ _ (Ne.symm b2)).trans (kg b o b1 e))
    | false =>
      simp only [Bool.false_eq_true, if_false]
      refine wpAny_bind (wpAny_letGo ?_)
      rw [nm]
      refine wpAny_pure ⟨plainId_quiet F.plain_min_loop _, ih (j + 1) _ u c (by omega) lt at2 kp2 (by simp only [argBest, cb, Bool.false_eq_true, if_false]; exact fu) hb' fun v' g' tk' fv' kg' => ?_⟩
      exact fin v' g' tk' fv' fun b o b1 b2 e => kg' b o b1 b2 (kg b o b1 e)
theorem min_first (V : Walks pg w A.in1 it fp wr n Fi St) (bt : Nat → Nat → Bool) (cmp : CmpK pg w A.in1 h0 .Lt Fi bt) (best : Addr) (nf : best ∉ fp) (nb : h0.get? best = none) (nw : ∀ b ∈ wr, h0.get? b = none) (n0 : 0 < n) {st : Shared} {c : Nat} (at_ : St 0 st.heap) (kp : Kept h0 st.heap)
    (hb : st.heap.get? best = some { cls := .type "list", dict := none, data := .seq #[] c, slots := #[] })
    (fin : ∀ v g tk, Fi (argBest bt (n - 1)) v → (∀ b o, b ∉ wr → b ≠ best → st.heap.get? b = some o → g.get? b = some o) → R (.ok (.ret v)) { st with heap := g, toks := tk }) :
    codeAny (model pg w) A (.builtin "min.loop" ⟨[.ref it, .none, .ref best], []⟩) R st := by
  have nbw : best ∉ wr := fun q => nf (V.sub _ q)
  have nm : (toString "min" ++ toString ".loop" : String) = "min.loop" := by decide
  refine codeAny_builtin F.entry_min_loop ?_
  rw [Around.under_plainId F.plain_min_loop _]
  show wpAny _ A.in1 (seqItems? (.ref best) >>= _) _ _ st
  refine wpAny_bind (wpAny_seqItems hb rfl ?_)
  show wpAny _ A.in1 (tryCatch (pyNext (.ref it)) _ >>= _) _ _ st
  refine wpAny_bind (wpAny_tryCatch (V.item 0 st _ _ n0 at_ fun v g tk fv at2 kg => ?_))
  have hb' := kg best _ nbw hb
  show wpAny _ A.in1 (updateSeq best (fun _ => #[v, v]) >>= _) _ _ _
  refine wpAny_bind (wpAny_updateSeq hb' rfl ?_)
  rw [nm]
  refine wpAny_pure ⟨plainId_quiet F.plain_min_loop _, min_go V bt cmp best nf nb nw _ 0 _ v _ rfl n0 (V.frame _ _ _ at2 fun b bf o e => ?_) (fun b o e => (Heap.get?_update_other _ _ (fun z : best = b => by rw [← z, nb] at e; cases e)).trans (kg b o (fun m => by rw [nw b m] at e; cases e) (kp b o e))) fv (Heap.get?_update_self _ hb' rfl) fun v' g' tk' fv' kg' => ?_⟩
  · exact (Heap.get?_update_other _ _ (fun z : best = b => nf (by rw [z]; exact bf))).trans e
  · exact fin v' g' tk' fv' fun b o b1 b2 e => kg' b o b1 b2 ((Heap.get?_update_other _ _ (Ne.symm b2)).trans (kg b o b1 e))
end
section
variable {pg : Program} {w : World} {A : Around} {E : Value → Shared → Prop} {st : Shared}
theorem call_min_data {l : Addr} {its : Array Value} {bt : Nat → Nat → Bool} {Q : Value → Shared → Prop} (nh : A.handled = none) (il : st.heap.IsList l its) (n0 : 0 < its.size) (cmp : CmpK pg w A.in1 st.heap .Lt (fun i v => its[i]? = some v) bt)
    (fin : ∀ v g tk, its[argBest bt (its.size - 1)]? = some v → Kept st.heap g → Q v { st with heap := g, toks := tk }) : wpAny (model pg w) A (call (.builtin "min") [.ref l]) Q E st := by
  have nm : (toString "min" ++ toString ".loop" : String) = "min.loop" := by decide
  refine call_function_tree F.kind_min F.plain_min F.entry_min (F.args_min1 _) ?_
  show wpAny _ A.in1 (Builtin.Builtins.bindParams "min" ["key", "default"] 0 ⟨[], []⟩ >>= _) _ _ st
  refine wpAny_bind (wpAny_of_eq (show Builtin.Builtins.bindParams "min" ["key", "default"] 0 ⟨[], []⟩ = pure [none, none] from rfl) (wpAny_bind (wpAny_pure ?_)))
  have lt0 : l < st.heap.objs.size := by
    obtain ⟨o, ho, _⟩ := il
    exact Heap.lt_size ho
  refine wpAny_bind (wpAny_pyIter_list il ?_)
  refine wpAny_bind (wpAny_newObj_type ?_)
  rw [nm]
  have zp : ∀ o : Obj, (st.heap.push o).objs.size = st.heap.objs.size + 1 := fun o => Heap.size_push ..
  have newer : ∀ b, st.heap.objs.size ≤ b → st.heap.get? b = none := fun b le => by
    cases q : st.heap.get? b with
    | none => rfl
    | some o => exact absurd (Heap.lt_size q) (Nat.not_lt.mpr le)
  have nl : l ≠ st.heap.objs.size := Nat.ne_of_lt lt0
  refine wpAny_pure ⟨plainId_quiet F.plain_min_loop _, min_first (h0 := st.heap) (Walks.list (A := A.in1) nh st.heap.objs.size l nl its) bt cmp _ (fun m => ?_) (newer _ (by rw [zp]; exact Nat.le_succ _)) (fun b m => newer b (by rw [List.mem_singleton.mp m]; exact Nat.le_refl _)) n0 ⟨⟨_, Heap.get?_push_of_some _ (Heap.get?_push_size _ rfl), rfl, rfl⟩, (il.push _).push _⟩ (fun b o e => Heap.get?_push_of_some _ (Heap.get?_push_of_some _ e)) (Heap.get?_push_size _ rfl) fun v g tk fv kg => ?_⟩
  · rw [zp] at m
    rcases List.mem_cons.mp m with z | m
    · exact absurd z (Nat.succ_ne_self _)
    · rw [← List.mem_singleton.mp m] at lt0
      exact absurd lt0 (Nat.not_lt.mpr (Nat.le_succ _))
  · refine fin v g tk fv fun b o e => kg b o (fun m => ?_) (fun z => ?_) (Heap.get?_push_of_some _ (Heap.get?_push_of_some _ e))
    · rw [List.mem_singleton.mp m] at e
      rw [newer _ (Nat.le_refl _)] at e; cases e
    · rw [z, newer _ (by rw [zp]; exact Nat.le_succ _)] at e; cases e
end
section
variable {pg : Program} {w : World} {A : Around} {h0 : Heap} {R : Result → Shared → Prop} {it : Addr} {fp wr : List Addr} {n : Nat} {Fi : Nat → Value → Prop} {St : Nat → Heap → Prop}
theorem max_go (V : Walks pg w A.in1 it fp wr n Fi St) (bt : Nat → Nat → Bool) (cmp : CmpK pg w A.in1 h0 .Gt Fi bt) (best : Addr) (nf : best ∉ fp) (nb : h0.get? best = none) (nw : ∀ b ∈ wr, h0.get? b = none) :
    ∀ (k j : Nat) (st : Shared) (u : Value) (c : Nat), n - (j + 1) = k → j + 1 ≤ n → St (j + 1) st.heap → Kept h0 st.heap → Fi (argBest bt j) u →
    st.heap.get? best = some { cls := .type "list", dict := none, data := .seq #[u, u] c, slots := #[] } →
    (∀ v g tk, Fi (argBest bt (n - 1)) v → (∀ b o, b ∉ wr → b ≠ best → st.heap.get? b = some o → g.get? b = some o) → R (.ok (.ret v)) { st with heap := g, toks := tk }) →
    codeAny (model pg w) A (.builtin "max.loop" ⟨[.ref it, .none, .ref best], []⟩) R st := by
  have nbw : best ∉ wr := fun q => nf (V.sub _ q)
  have nm : (toString "max" ++ toString ".loop" : String) = "max.loop" := by decide
  have grow : ∀ {g g' : Heap}, Kept h0 g → (∀ b o, b ∉ wr → b ≠ best → g.get? b = some o → g'.get? b = some o) → Kept h0 g' := fun kg k b o e =>
    k b o (fun m => by rw [nw b m] at e; cases e) (fun z => by rw [z, nb] at e; cases e) (kg b o e)
  intro k
  induction k with
  | zero =>
    intro j st u c hk hj at_ kp fu hb fin
    have en : j + 1 = n := by omega
    refine codeAny_builtin F.entry_max_loop ?_
    rw [Around.under_plainId F.plain_max_loop _]
    show wpAny _ A.in1 (seqItems? (.ref best) >>= _) _ _ st
    refine wpAny_bind (wpAny_seqItems hb rfl ?_)
    show wpAny _ A.in1 (tryCatch (pyNext (.ref it)) _ >>= _) _ _ st
    refine wpAny_bind (wpAny_tryCatch (V.done st _ _ (en ▸ at_) fun g tk kg => ?_))
    have hb' := kg best _ nbw hb
    show wpAny _ A.in1 (updateSeq best (fun _ => #[]) >>= _) _ _ _
    refine wpAny_bind (wpAny_updateSeq hb' rfl (wpAny_bind (wpAny_letGo (wpAny_pure (fin u _ tk (by rw [← en]; exact fu) fun b o b1 b2 e => ?_)))))
    exact (Heap.get?_update_other _ _ (Ne.symm b2)).trans (kg b o b1 e)
  | succ k ih =>
    intro j st u c hk hj at_ kp fu hb fin
    have lt : j + 1 < n := by omega
    refine codeAny_builtin F.entry_max_loop ?_
    rw [Around.under_plainId F.plain_max_loop _]
    show wpAny _ A.in1 (seqItems? (.ref best) >>= _) _ _ st
    refine wpAny_bind (wpAny_seqItems hb rfl ?_)
    show wpAny _ A.in1 (tryCatch (pyNext (.ref it)) _ >>= _) _ _ st
    refine wpAny_bind (wpAny_tryCatch (V.item (j + 1) st _ _ lt at_ fun v g tk fv at2 kg => ?_))
    have hb' := kg best _ nbw hb
    have kp2 : Kept h0 g := grow kp fun b o b1 _ e => kg b o b1 e
    show wpAny _ A.in1 (tryCatch (holding [v, v] (richCompare .Gt v u >>= _)) _ >>= _) _ _ _
    refine wpAny_bind (wpAny_tryCatch (wpAny_holding (wpAny_bind (cmp (j + 1) (argBest bt j) v u _ _ _ kp2 fv fu ?_))))
    refine wpAny_bind (wpAny_holding (wpAny_truthy_bool (wpAny_bind (wpAny_letGo (wpAny_pure ?_)))))
    cases cb : bt (j + 1) (argBest bt j) with
    | true =>
      simp only [if_true]
      refine wpAny_bind (wpAny_updateSeq hb' rfl (wpAny_bind (wpAny_letGo ?_)))
      rw [nm]
      refine wpAny_pure ⟨plainId_quiet F.plain_max_loop _, ih (j + 1) _ v _ (by omega) lt (V.frame _ _ _ at2 fun b bf o e => ?_) (grow kp2 fun b o _ b2 e => (Heap.get?_update_other _ _ (Ne.symm b2)).trans e) (by simp only [argBest, cb, if_true]; exact fv) (Heap.get?_update_self _ hb' rfl) fun v' g' tk' fv' kg' => ?_⟩
      · exact (Heap.get?_update_other _ _ (fun z : best = b => nf (by rw [z]; exact bf))).trans e
      · exact fin v' g' tk' fv' fun b o b1 b2 e => kg' b o b1 b2 ((Heap.get?_update_other _ _ (Ne.symm b2)).trans (kg b o b1 e))
    | false =>
      simp only [Bool.false_eq_true, if_false]
      refine wpAny_bind (wpAny_letGo ?_)
      rw [nm]
      refine wpAny_pure ⟨plainId_quiet F.plain_max_loop _, ih (j + 1) _ u c (by omega) lt at2 kp2 (by simp only [argBest, cb, Bool.false_eq_true, if_false]; exact fu) hb' fun v' g' tk' fv' kg' => ?_⟩
      exact fin v' g' tk' fv' fun b o b1 b2 e => kg' b o b1 b2 (kg b o b1 e)
theorem max_first (V : Walks pg w A.in1 it fp wr n Fi St) (bt : Nat → Nat → Bool) (cmp : CmpK pg w A.in1 h0 .Gt Fi bt) (best : Addr) (nf : best ∉ fp) (nb : h0.get? best = none) (nw : ∀ b ∈ wr, h0.get? b = none) (n0 : 0 < n) {st : Shared} {c : Nat} (at_ : St 0 st.heap) (kp : Kept h0 st.heap)
    (hb : st.heap.get? best = some { cls := .type "list", dict := none, data := .seq #[] c, slots := #[] })
    (fin : ∀ v g tk, Fi (argBest bt (n - 1)) v → (∀ b o, b ∉ wr → b ≠ best → st.heap.get? b = some o → g.get? b = some o) → R (.ok (.ret v)) { st with heap := g, toks := tk }) :
    codeAny (model pg w) A (.builtin "max.loop" ⟨[.ref it, .none, .ref best], []⟩) R st := by
  have nbw : best ∉ wr := fun q => nf (V.sub _ q)
  have nm : (toString "max" ++ toString ".loop" : String) = "max.loop" := by decide
  refine codeAny_builtin F.entry_max_loop ?_
  rw [Around.under_plainId F.plain_max_loop _]
  show wpAny _ A.in1 (seqItems? (.ref best) >>= _) _ _ st
  refine wpAny_bind (wpAny_seqItems hb rfl ?_)
  show wpAny _ A.in1 (tryCatch (pyNext (.ref it)) _ >>= _) _ _ st
  refine wpAny_bind (wpAny_tryCatch (V.item 0 st _ _ n0 at_ fun v g tk fv at2 kg => ?_))
  have hb' := kg best _ nbw hb
  show wpAny _ A.in1 (updateSeq best (fun _ => #[v, v]) >>= _) _ _ _
  refine wpAny_bind (wpAny_updateSeq hb' rfl ?_)
  rw [nm]
  refine wpAny_pure ⟨plainId_quiet F.plain_max_loop _, max_go V bt cmp best nf nb nw _ 0 _ v _ rfl n0 (V.frame _ _ _ at2 fun b bf o e => ?_) (fun b o e => (Heap.get?_update_other _ _ (fun z : best = b => by rw [← z, nb] at e; cases e)).trans (kg b o (fun m => by rw [nw b m] at e; cases e) (kp b o e))) fv (Heap.get?_update_self _ hb' rfl) fun v' g' tk' fv' kg' => ?_⟩
  · exact (Heap.get?_update_other _ _ (fun z : best = b => nf (by rw [z]; exact bf))).trans e
  · exact fin v' g' tk' fv' fun b o b1 b2 e => kg' b o b1 b2 ((Heap.get?_update_other _ _ (Ne.symm b2)).trans (kg b o b1 e))
end
section
variable {pg : Program} {w : World} {A : Around} {E : Value → Shared → Prop} {st : Shared}
theorem call_max_data {l : Addr} {its : Array Value} {bt : Nat → Nat → Bool} {Q : Value → Shared → Prop} (nh : A.handled = none) (il : st.heap.IsList l its) (n0 : 0 < its.size) (cmp : CmpK pg w A.in1 st.heap .Gt (fun i v => its[i]? = some v) bt)
    (fin : ∀ v g tk, its[argBest bt (its.size - 1)]? = some v → Kept st.heap g → Q v { st with heap := g, toks := tk }) : wpAny (model pg w) A (call (.builtin "max") [.ref l]) Q E st := by
  have nm : (toString "max" ++ toString ".loop" : String) = "max.loop" := by decide
  refine call_function_tree F.kind_max F.plain_max F.entry_max (F.args_max1 _) ?_
  show wpAny _ A.in1 (Builtin.Builtins.bindParams "max" ["key", "default"] 0 ⟨[], []⟩ >>= _) _ _ st
  refine wpAny_bind (wpAny_of_eq (show Builtin.Builtins.bindParams "max" ["key", "default"] 0 ⟨[], []⟩ = pure [none, none] from rfl) (wpAny_bind (wpAny_pure ?_)))
  have lt0 : l < st.heap.objs.size := by
    obtain ⟨o, ho, _⟩ := il
    exact Heap.lt_size ho
  refine wpAny_bind (wpAny_pyIter_list il ?_)
  refine wpAny_bind (wpAny_newObj_type ?_)
  rw [nm]
  have zp : ∀ o : Obj, (st.heap.push o).objs.size = st.heap.objs.size + 1 := fun o => Heap.size_push ..
  have newer : ∀ b, st.heap.objs.size ≤ b → st.heap.get? b = none := fun b le => by
    cases q : st.heap.get? b with
    | none => rfl
    | some o => exact absurd (Heap.lt_size q) (Nat.not_lt.mpr le)
  have nl : l ≠ st.heap.objs.size := Nat.ne_of_lt lt0
  refine wpAny_pure ⟨plainId_quiet F.plain_max_loop _, max_first (h0 := st.heap) (Walks.list (A := A.in1) nh st.heap.objs.size l nl its) bt cmp _ (fun m => ?_) (newer _ (by rw [zp]; exact Nat.le_succ _)) (fun b m => newer b (by rw [List.mem_singleton.mp m]; exact Nat.le_refl _)) n0 ⟨⟨_, Heap.get?_push_of_some _ (Heap.get?_push_size _ rfl), rfl, rfl⟩, (il.push _).push _⟩ (fun b o e => Heap.get?_push_of_some _ (Heap.get?_push_of_some _ e)) (Heap.get?_push_size _ rfl) fun v g tk fv kg => ?_⟩
  · rw [zp] at m
    rcases List.mem_cons.mp m with z | m
    · exact absurd z (Nat.succ_ne_self _)
    · rw [← List.mem_singleton.mp m] at lt0
      exact absurd lt0 (Nat.not_lt.mpr (Nat.le_succ _))
  · refine fin v g tk fv fun b o e => kg b o (fun m => ?_) (fun z => ?_) (Heap.get?_push_of_some _ (Heap.get?_push_of_some _ e))
    · rw [List.mem_singleton.mp m] at e
      rw [newer _ (Nat.le_refl _)] at e; cases e
    · rw [z, newer _ (by rw [zp]; exact Nat.le_succ _)] at e; cases e
end
section
variable {fa : Nat → Addr} {X : Cx}
theorem each_at {β : Type} {R : Value → β → Prop} : ∀ {vs : List Value} {bs : List β}, PySem.W.EachIs R vs bs → ∀ {i : Nat} {v : Value}, vs[i]? = some v → ∃ b, bs[i]? = some b ∧ R v b
  | _, _, .nil, _, _, h => by simp at h
  | _, _, .cons h1 t, 0, v, h => by
    simp only [List.getElem?_cons_zero, Option.some.injEq] at h
    subst h
    exact ⟨_, rfl, h1⟩
  | _, _, .cons h1 t, i + 1, v, h => each_at t (by simpa using h)
theorem vals_back : ∀ {ws : List V} {us : List Value}, Vals ws us → ∀ {i : Nat} {u : Value}, us[i]? = some u → ∃ w, ws[i]? = some w ∧ RelV w u
  | _, _, .nil, _, _, h => by simp at h
  | _, _, .cons h1 t, 0, v, h => by
    simp only [List.getElem?_cons_zero, Option.some.injEq] at h
    subst h
    exact ⟨_, rfl, h1⟩
  | _, _, .cons h1 t, i + 1, v, h => vals_back t (by simpa using h)
theorem RepL.back {K : PySem.W.Frag} {Z : Hp} {xs : List D} {ws : List V} (h : RepL fa K Z xs ws) {i : Nat} {w : V} (e : ws[i]? = some w) : ∃ d, xs[i]? = some d ∧ Rep fa K Z d w := by
  have lt : i < xs.length := by rw [h.length]; exact (List.getElem?_eq_some_iff.mp e).1
  obtain ⟨v, q1, q2⟩ := h.get (List.getElem?_eq_getElem lt)
  rw [e] at q1
  cases q1
  exact ⟨_, List.getElem?_eq_getElem lt, q2⟩
theorem depth_le : ∀ (l : List PyData) (d : PyData), d ∈ l → d.depth ≤ PyData.depthAll l
  | [], _, h => by cases h
  | y :: l, d, h => by
    simp only [PyData.depthAll]
    rcases List.mem_cons.mp h with rfl | h
    · omega
    · have := depth_le l d h; omega
theorem data_reads {Z H : Hp} {a : Addr} {xs : List D} {ws : List V} {its : List Value} {pins : List (Addr × Obj)} {σ : L2.St} {s : Shared} (I : Inv X pins σ H s) (sz : Sub Z H) (h1 : H a = some (.lst ws)) (h2 : RepL fa X.K Z xs ws) (ok : okSort xs = true) (vv : Vals ws its) :
    (∀ i v, its[i]? = some v → ∃ as, Reads s.heap v (xs.getD i .non).py as) ∧ (∀ i j, i < xs.length → j < xs.length → PySem.W.alike (xs.getD i .non).py (xs.getD j .non).py = true) ∧ (∀ i, i < xs.length → (xs.getD i .non).py ≠ .none) ∧ ∀ i, i < xs.length → (xs.getD i .non).py.depth ≤ 50 := by
  simp only [okSort, Bool.and_eq_true, Bool.or_eq_true, decide_eq_true_eq] at ok
  obtain ⟨o1, o2, o3, o4⟩ := ok
  have hH : RepL fa X.K H xs ws := RepL.sub sz _ _ h2
  have dp := RepL.dp xs ws hH o1
  have lw : ws.length = xs.length := (h2.length).symm
  obtain ⟨as, ra⟩ := Dp.readsAll I _ _ _ dp vv
  have e0 : (ws.zip xs).map (fun b => b.2.py) = D.pyL xs := by
    rw [pyL_map, ← zip_snd lw, List.map_map, zip_snd lw]
    rfl
  have er := PySem.W.readsAll_each (h := s.heap) (fun b : V × D => b.2.py) (vs := its) (bs := ws.zip xs) (by rw [e0]; exact ra)
  have gd : ∀ i (h : i < xs.length), xs.getD i .non = xs[i] := fun i h => by rw [List.getD_eq_getElem?_getD, List.getElem?_eq_getElem h]; rfl
  refine ⟨fun i v e => ?_, fun i j hi hj => ?_, fun i hi => ?_, fun i hi => ?_⟩
  · obtain ⟨b, hb, as, r⟩ := each_at er e
    have e2 : ((ws.zip xs).map (·.2))[i]? = some b.2 := by rw [List.getElem?_map, hb]; rfl
    rw [zip_snd lw] at e2
    rw [List.getD_eq_getElem?_getD, e2]
    exact ⟨as, r⟩
  · rw [gd i hi, gd j hj]
    exact List.all_eq_true.mp (List.all_eq_true.mp o3 _ (List.getElem_mem hi)) _ (List.getElem_mem hj)
  · rw [gd i hi]
    rcases o4 with o4 | o4
    · have t := List.all_eq_true.mp o4 _ (List.getElem_mem hi)
      intro e
      rw [e] at t
      cases t
    · have t := List.all_eq_true.mp o4 _ (List.getElem_mem hi)
      intro e
      rw [e] at t
      cases t
  · rw [gd i hi]
    have m : (xs[i]).py ∈ D.pyL xs := by rw [pyL_map]; exact List.mem_map.mpr ⟨_, List.getElem_mem hi, rfl⟩
    have := depth_le _ _ m
    omega
theorem bi_min {kk : Nat} (hr : Room kk X.A) (hc : X.calm = true) : BiS fa X (.builtin "min") bMin := fun Z H vs ds r fr Q sz kd q k pins s σ us I rv => by
  unfold bMin at q
  split at q
  · cases q
    obtain ⟨v, v', rfl, k1, k2⟩ := kid2 kd
    have e := k1.int; subst e
    have e := k2.int; subst e
    refine call_min2 hc pins s σ H _ us Q I rv ⟨_, _, rfl, ?_⟩
    rename_i i j
    have e : (if j < i then j else i) = min i j := by split <;> omega
    rw [e]; exact k _ _ newR_int
  · rename_i xs
    obtain ⟨v, rfl, a, ws, rfl, h1, h2⟩ := kid1 kd
    cases e1 : asInts xs with
    | some is =>
      simp only [e1] at q
      obtain ⟨i, e2, q⟩ := Option.map_eq_some_iff.mp q
      cases q
      obtain ⟨_, e3⟩ := h2.asInts e1
      subst e3
      obtain ⟨m1, m2⟩ := least_spec e2
      refine cr_min hc pins s σ H _ us Q I rv ⟨a, is, rfl, SqL.of h1, List.length_pos_of_mem m1, fun m hm hle => ?_⟩
      have e : m = i := by
        have := m2 m hm
        have := hle i m1
        omega
      rw [e]; exact k _ _ newR_int
    | none =>
      simp only [e1] at q
      split at q
      case isFalse => cases q
      rename_i ok
      obtain ⟨d, e2, q⟩ := Option.map_eq_some_iff.mp q
      cases q
      obtain ⟨its, vv, hl, hz⟩ := I.list (SqL.of h1)
      have lw : ws.length = xs.length := (h2.length).symm
      have lv := vv.length
      obtain ⟨u, rfl, ru⟩ := rv.one
      obtain rfl : u = Value.ref a := ru
      obtain ⟨rd, al, nn, dp⟩ := data_reads I sz h1 h2 ok vv
      have n0 : 0 < xs.length := by
        unfold bestAt at e2
        have := (List.getElem?_eq_some_iff.mp e2).1
        omega
      have hu := hr.units
      refine call_min_data (I.ok.hd hc) hl.isList (by simp; omega) (bt := fun i j => ltD (xs.getD i .non) (xs.getD j .non)) (fun i j u v st Q E kp fu fv hq => ?_) fun v g tk hv kp => ?_
      · have fu' : its[i]? = some u := by simpa using fu
        have fv' : its[j]? = some v := by simpa using fv
        obtain ⟨as, r1⟩ := rd i u fu'
        obtain ⟨bs, r2⟩ := rd j v fv'
        have li : i < xs.length := by have := (List.getElem?_eq_some_iff.mp fu').1; omega
        have lj : j < xs.length := by have := (List.getElem?_eq_some_iff.mp fv').1; omega
        exact PySem.W.rcLt_alike _ _ _ _ _ _ _ _ (PyProof.Rows.Reads.keeps kp r1) (PyProof.Rows.Reads.keeps kp r2) (al i j li lj) (nn i li) (by
          have := dp i li
          show X.A.units + 1 + _ < cLine
          omega) _ _ _ _ hq
      · have hv' : its[argBest (fun i j => ltD (xs.getD i .non) (xs.getD j .non)) (xs.length - 1)]? = some v := by
          have e : its.toArray.size = xs.length := by simp; omega
          rw [e] at hv
          simpa using hv
        obtain ⟨w, hw, rw_⟩ := vals_back vv hv'
        obtain ⟨d', e3, rp⟩ := h2.back hw
        have ed : d' = r := by
          have e4 : xs[argBest (fun i j => ltD (xs.getD i .non) (xs.getD j .non)) (xs.length - 1)]? = some r := e2
          rw [e3] at e4
          exact Option.some.inj e4
        subst ed
        exact ⟨w, H, I.kept kp, rw_, k _ _ (NewR.old rp sz)⟩
  · cases q
theorem bi_max {kk : Nat} (hr : Room kk X.A) (hc : X.calm = true) : BiS fa X (.builtin "max") bMax := fun Z H vs ds r fr Q sz kd q k pins s σ us I rv => by
  unfold bMax at q
  split at q
  · cases q
    obtain ⟨v, v', rfl, k1, k2⟩ := kid2 kd
    have e := k1.int; subst e
    have e := k2.int; subst e
    refine call_max2 hc pins s σ H _ us Q I rv ⟨_, _, rfl, ?_⟩
    rename_i i j
    have e : (if j > i then j else i) = max i j := by split <;> omega
    rw [e]; exact k _ _ newR_int
  · rename_i xs
    obtain ⟨v, rfl, a, ws, rfl, h1, h2⟩ := kid1 kd
    cases e1 : asInts xs with
    | some is =>
      simp only [e1] at q
      obtain ⟨i, e2, q⟩ := Option.map_eq_some_iff.mp q
      cases q
      obtain ⟨_, e3⟩ := h2.asInts e1
      subst e3
      obtain ⟨m1, m2⟩ := great_spec e2
      refine cr_max hc pins s σ H _ us Q I rv ⟨a, is, rfl, SqL.of h1, List.length_pos_of_mem m1, fun m hm hle => ?_⟩
      have e : m = i := by
        have := m2 m hm
        have := hle i m1
        omega
      rw [e]; exact k _ _ newR_int
    | none =>
      simp only [e1] at q
      split at q
      case isFalse => cases q
      rename_i ok
      obtain ⟨d, e2, q⟩ := Option.map_eq_some_iff.mp q
      cases q
      obtain ⟨its, vv, hl, hz⟩ := I.list (SqL.of h1)
      have lw : ws.length = xs.length := (h2.length).symm
      have lv := vv.length
      obtain ⟨u, rfl, ru⟩ := rv.one
      obtain rfl : u = Value.ref a := ru
      obtain ⟨rd, al, nn, dp⟩ := data_reads I sz h1 h2 ok vv
      have n0 : 0 < xs.length := by
        unfold bestAt at e2
        have := (List.getElem?_eq_some_iff.mp e2).1
        omega
      have hu := hr.units
      refine call_max_data (I.ok.hd hc) hl.isList (by simp; omega) (bt := fun i j => ltD (xs.getD j .non) (xs.getD i .non)) (fun i j u v st Q E kp fu fv hq => ?_) fun v g tk hv kp => ?_
      · have fu' : its[i]? = some u := by simpa using fu
        have fv' : its[j]? = some v := by simpa using fv
        obtain ⟨as, r1⟩ := rd i u fu'
        obtain ⟨bs, r2⟩ := rd j v fv'
        have li : i < xs.length := by have := (List.getElem?_eq_some_iff.mp fu').1; omega
        have lj : j < xs.length := by have := (List.getElem?_eq_some_iff.mp fv').1; omega
        exact PySem.W.rcGt_alike _ _ _ _ _ _ _ _ (PyProof.Rows.Reads.keeps kp r1) (PyProof.Rows.Reads.keeps kp r2) (al i j li lj) (nn i li) (by
          have := dp i li
          show X.A.units + 1 + _ < cLine
          omega) _ _ _ _ hq
      · have hv' : its[argBest (fun i j => ltD (xs.getD j .non) (xs.getD i .non)) (xs.length - 1)]? = some v := by
          have e : its.toArray.size = xs.length := by simp; omega
          rw [e] at hv
          simpa using hv
        obtain ⟨w, hw, rw_⟩ := vals_back vv hv'
        obtain ⟨d', e3, rp⟩ := h2.back hw
        have ed : d' = r := by
          have e4 : xs[argBest (fun i j => ltD (xs.getD j .non) (xs.getD i .non)) (xs.length - 1)]? = some r := e2
          rw [e3] at e4
          exact Option.some.inj e4
        subst ed
        exact ⟨w, H, I.kept kp, rw_, k _ _ (NewR.old rp sz)⟩
  · cases q
end
end Rt
end
section
set_option linter.all false
set_option autoImplicit false
set_option Elab.async false
set_option maxRecDepth 100000
set_option maxHeartbeats 3200000
namespace Rt
open PySem PySem.Spec PyProof.Rows L2
section
variable {fa ca : Nat → Addr} {X : Cx} {e a b c : Expr} {da db dc : Ex} {pos : Pos}
/-! ## xs.remove(k) -/
theorem asInts_reps {K : PySem.W.Frag} {Z : Hp} {xs : List D} {vs : List V} {is : List Int} (h : RepL fa K Z xs vs) (e : asInts xs = some is) : vs = is.map V.int := (h.asInts e).2
theorem sndS_rem {i : Nat} {y : Str} {p1 p2 p3 : Pos} (hN : X.N[i]? = some y) (hv : Vis X.env.scope y) (hd : (y == ("__debug__" : Str)) = false) (hcd : (y == ("__classdict__" : Str)) = false) (hst : notStar e = true) (hline : (p2.endLine == p3.line) = true) (he : Snd fa ca X e da) :
    SndS fa ca X (.Expr (.Call (.Attribute (.Name y p1) "remove" p2) [e] [] p3) pos) (sRem i da) := fun W tk H0 U N H σ E D x p => by
  refine of_ps (ps_expr (pe_bm PySem.F.plainAttrs_list PySem.F.slot_list_remove PySem.F.type_list_remove mt_remove (pe_var (i := i) hN hv hd hcd) (pa_cons (peE (e := e)) pa_nil (star_cons hst)) rfl (by rw [star_cons hst]; rfl) hline (star_cons hst) rfl) rfl) ?_
  unfold sRem at p
  split at p
  case h_2 => exact p.elim
  · rename_i xs0 hsl
    have p' : PostS fa ca X.K W H0 U D (hide H N) ((da E).to E fun r => (match r.d with
      | .int k => Rt.frzO r.kp E fun σ' => (match σ'[i]? with
        | some (some (.lst xs, true)) => (match asInts xs with
          | some is => (match firstAt k is with
            | some j => .nx (σ'.set i (some (.lst ((is.eraseIdx j).map .int), true)))
            | none => .bad)
          | none => .bad)
        | _ => .bad)
      | _ => .bad)) := p
    obtain ⟨ap, z1, z2, vs0, z3, z4⟩ := x.sr.ow i _ hsl
    refine ⟨_, z1, .inl ⟨rfl, _, SqL.of z3⟩, ?_⟩
    show tE X e σ H _
    refine he W tk N H σ E _ x.sr ?_
    refine (p'.to x.fs.sub).imp fun r _ q v H1 g rr => ?_
    have kd := rr.kid x.sr g
    cases hrd : r.d <;> simp only [hrd] at q kd <;> try exact q.elim
    rename_i k
    have ek := kd.int
    subst ek
    obtain ⟨fine, q⟩ := q.frzO
    have x1 := (x.frz fine).grow g
    cases qe : (frz r.kp E)[i]? with
    | none => simp only [qe] at q; exact q.elim
    | some o =>
      cases o with
      | none => simp only [qe] at q; exact q.elim
      | some dk =>
        obtain ⟨d, fl⟩ := dk
        cases d <;> cases fl <;> simp only [qe] at q <;> try exact q.elim
        rename_i xs
        cases ei : asInts xs with
        | none => simp only [ei] at q; exact q.elim
        | some is =>
          simp only [ei] at q
          cases ef : firstAt k is with
          | none => simp only [ef] at q; exact q.elim
          | some j =>
            simp only [ef] at q
            obtain ⟨p, vs, w1, w2, w3, w4⟩ := own_at (H := H) x1 qe
            have e1 : p = ap := by rw [z1] at w1; cases w1; rfl
            subst e1
            have ev := asInts_reps w3 ei
            subst ev
            obtain ⟨f1, f2⟩ := firstAt_spec ef
            obtain ⟨x2, sb⟩ := x1.write (o := .lst ((is.eraseIdx j).map V.int)) (d' := .lst ((is.eraseIdx j).map .int)) qe w1 ⟨_, upd_same, RepL.of_ints _⟩
            exact ⟨p, is, k, j, rfl, rfl, w2, f1, fun m hm em => f2 m hm k em rfl, q _ _ _ ((hide_mono g fun b o _ n => n.1).trans sb) x2⟩
/-! ## a, b, c = d, e, f, plain local names: stored from the right -/
def tPar3 (i j k : Nat) (ta : TA) : TS := fun D σ H => ta σ H fun vs H1 => ∃ v w u, vs = [v, w, u] ∧ D.nx (((σ.set i (some v)).set j (some w)).set k (some u)) H1
theorem ps_par3 {i j k : Nat} {x y z : Str} {ta : TA} {px py pz pt : Pos} {kt k2 : Nat} {pt2 : Pos} (calm : X.calm = true) (nd : X.N.Nodup) (hi : X.N[i]? = some x) (hj : X.N[j]? = some y) (hk : X.N[k]? = some z) (ij : i ≠ j) (ik : i ≠ k) (jk : j ≠ k)
    (lx : X.env.scope.names.lookup x = some .local) (ly : X.env.scope.names.lookup y = some .local) (lz : X.env.scope.names.lookup z = some .local) (va : PA X [a, b, c] ta)
    (sw : swappedStores [.Tuple [.Name x px, .Name y py, .Name z pz] kt pt] (.Tuple [a, b, c] k2 pt2) X.env = pure (some [x, y, z]))
    (so : swapsWithSole [.Tuple [.Name x px, .Name y py, .Name z pz] kt pt] (.Tuple [a, b, c] k2 pt2) pos.line X.env = pure false := by rfl) :
    PS X (.Assign [.Tuple [.Name x px, .Name y py, .Name z pz] kt pt] (.Tuple [a, b, c] k2 pt2) pos) (tPar3 i j k ta) := by
  refine ⟨fun pins st σ H D I h => ?_⟩
  rw [exec_Assign_arm]; refine wpAny_bind (wpAny_standAt ?_)
  rw [so]; refine wpAny_bind (wpAny_pure ?_)
  rw [if_neg (by decide)]
  refine wpAny_bind (Tuple_ (thn (va.run _ pins st σ H _ I h) fun us s1 ⟨vs, H1, I1, r1, q1⟩ => ?_))
  obtain ⟨v, w, u, e1, q1⟩ := q1
  subst e1
  obtain ⟨u1, u2, u3, rfl, rv, rw', ru⟩ : ∃ u1 u2 u3, us = [u1, u2, u3] ∧ RelV v u1 ∧ RelV w u2 ∧ RelV u u3 := by
    cases r1 with
    | cons p q =>
      cases q with
      | cons p' q' =>
        cases q' with
        | cons p'' q'' =>
          cases q''
          exact ⟨_, _, _, rfl, p, p', p''⟩
  refine wpAny_newObj_type ?_ (by show 3 ≤ sizeLine; decide)
  have I2 : Inv X pins σ H1 { s1 with heap := s1.heap.push { cls := .type "tuple", data := .seq [u1, u2, u3].toArray } } := I1.kept (t' := s1.toks) fun b o e => Heap.get?_push_of_some _ e
  rw [sw]; refine wpAny_bind (wpAny_pure ?_)
  show wpAny (model X.prog X.w) X.A (do rule "assign.swapped-stores"; let items ← unpackItems (.ref s1.heap.objs.size) 3 none; assignInOrder [fun v => bindName X.env z v, fun v => bindName X.env y v, fun v => bindName X.env x v] items.reverse; pure Flow.next) _ _ _
  refine wpAny_bind (wpAny_rule (wpAny_bind (unpackItems_tuple (items := #[u1, u2, u3]) (I.ok.hd calm) (IsTup.new s1.heap _) fun h' hx' => ?_)))
  have I3 := I2.kept (h' := h') (t' := s1.toks) fun b o e => hx' b o (Nat.ne_of_lt (Heap.lt_size e)) e
  show wpAny _ _ (assignInOrder [fun v => bindName X.env z v, fun v => bindName X.env y v, fun v => bindName X.env x v] [u3, u2, u1] >>= fun _ => pure Flow.next) _ _ _
  refine wpAny_bind (assignInOrder_cons (wpAny_bindName (store_ok I3 nd hk (.inl lz) ru (fun s2 I4 => ?_) (.inr lz))))
  refine assignInOrder_cons (wpAny_bindName (store_ok I4 nd hj (.inl ly) rw' (fun s3 I5 => ?_) (.inr ly)))
  refine assignInOrder_cons (wpAny_bindName (store_ok I5 nd hi (.inl lx) rv (fun s4 I6 => assignInOrder_nil (wpAny_pure ?_)) (.inr lx)))
  have es : ((σ.set k (some u)).set j (some w)).set i (some v) = ((σ.set i (some v)).set j (some w)).set k (some u) := by
    rw [List.set_comm _ _ (Ne.symm jk), List.set_comm _ _ (Ne.symm ik), List.set_comm _ _ (Ne.symm ij)]
  rw [es] at I6
  exact ⟨_, H1, I6, q1⟩
/-- a value that is plain goes into a slot -/
theorem Fx.take {H0 H H1 H' : Hp} {U N N' : Addr → Prop} {σ σ' : L2.St} {E E' : Env} {i : Nat} {r : Rv} {v : V} (x : Fx fa X.K H0 U N H σ E) (g : Sub H H1) (lt : i < E.length) (rr : RR fa X.K N' H H1 σ' E' v r) (pl : plainR r = true) :
    ∃ N2, Fx fa X.K H0 U N2 H1 (σ.set i (some v)) (E.set i (some (r.d, r.isNw))) ∧ ∀ b o, H b = some o → N2 b → N b := by
  obtain ⟨d, t, p⟩ := r
  unfold plainR at pl
  dsimp only at pl
  split at pl
  · rename_i n _ _
    unfold RR at rr
    dsimp only at rr
    simp only [Rep] at rr
    subst rr
    exact ⟨N, (x.grow g).put lt (by simp [Rep]), fun b o _ n => n⟩
  · rename_i xs _ _
    unfold RR at rr
    dsimp only at rr
    obtain ⟨ad, rfl, np, tp⟩ := rr
    refine ⟨fun b => N b ∨ b = ad, x.own g lt np ?_, fun b o eb n => n.elim id fun z => by rw [z, np] at eb; cases eb⟩
    refine Top.unhide (fun b n => ?_) pl tp
    rcases n with n | n
    · obtain ⟨o, ho, mb⟩ := x.sr.sub b n
      exact ⟨o, g _ _ ho, mb⟩
    · subst n
      exact tp.mb
  · cases pl
theorem sndS_par3 {i j k : Nat} {x y z : Str} {px py pz pt : Pos} {kt k2 : Nat} {pt2 : Pos} (calm : X.calm = true) (nd : X.N.Nodup) (hi : X.N[i]? = some x) (hj : X.N[j]? = some y) (hk : X.N[k]? = some z) (ij : i ≠ j) (ik : i ≠ k) (jk : j ≠ k)
    (lx : X.env.scope.names.lookup x = some .local) (ly : X.env.scope.names.lookup y = some .local) (lz : X.env.scope.names.lookup z = some .local) (s1 : notStar a = true) (s2 : notStar b = true) (s3 : notStar c = true)
    (sw : swappedStores [.Tuple [.Name x px, .Name y py, .Name z pz] kt pt] (.Tuple [a, b, c] k2 pt2) X.env = pure (some [x, y, z])) (ha : Snd fa ca X a da) (hb : Snd fa ca X b db) (hc : Snd fa ca X c dc) :
    SndS fa ca X (.Assign [.Tuple [.Name x px, .Name y py, .Name z pz] kt pt] (.Tuple [a, b, c] k2 pt2) pos) (sPar3 i j k da db dc) := fun W tk H0 U N H σ E D f p => by
  refine of_ps (ps_par3 calm nd hi hj hk ij ik jk lx ly lz (pa_cons (peE (e := a)) (pa_cons (peE (e := b)) (pa_cons (peE (e := c)) pa_nil (star_cons s3)) (star_cons s2)) (star_cons s1)) sw rfl) ?_
  show tE X a σ H _
  refine ha W tk N H σ E _ f.sr ?_
  have p' : PostS fa ca X.K W H0 U D (hide H N) ((da E).to E fun r => (db E).to E fun s => (dc E).to E fun t => if (plainR r && (plainR s && plainR t)) && decide (i < E.length ∧ j < E.length ∧ k < E.length) then .nx (((E.set i (some (r.d, r.isNw))).set j (some (s.d, s.isNw))).set k (some (t.d, t.isNw))) else .bad) := p
  refine (p'.to f.fs.sub).imp fun r _ q v H1 g1 r1 => ?_
  show tE X b σ H1 _
  have f1 := f.grow g1
  refine hb W tk N H1 σ E _ f1.sr ?_
  refine (q.to f1.fs.sub).imp fun r' _ q' w H2 g2 r2 => ?_
  show tE X c σ H2 _
  have f2 := f1.grow g2
  refine hc W tk N H2 σ E _ f2.sr ?_
  refine (q'.to f2.fs.sub).imp fun r'' _ q'' u H3 g3 r3 => ?_
  refine ⟨v, w, u, rfl, ?_⟩
  split at q''
  case isFalse => exact q''.elim
  rename_i ok
  simp only [Bool.and_eq_true, decide_eq_true_eq] at ok
  obtain ⟨⟨o1, o2, o3⟩, l1, l2, l3⟩ := ok
  obtain ⟨N1, x1, n1⟩ := f.take (H' := H1) g1 l1 r1 o1
  obtain ⟨N2, x2, n2⟩ := x1.take (H' := H2) g2 (by rw [List.length_set]; exact l2) r2 o2
  obtain ⟨N3, x3, n3⟩ := x2.take (H' := H3) g3 (by rw [List.length_set, List.length_set]; exact l3) r3 o3
  refine q'' _ H3 _ (hide_mono ((g1.trans g2).trans g3) fun b o eb m => ?_) x3
  exact n1 b o eb (n2 b o (g1 _ _ eb) (n3 b o (g2 _ _ (g1 _ _ eb)) m))
/-! ## a, b = c, d of plain local names, both values plain: both are owned if new -/
def sPar2 (i j : Nat) (a b : Ex) : Sm := fun σ => (a σ).to σ fun r => (b σ).to σ fun s =>
  if (plainR r && plainR s) && decide (i < σ.length ∧ j < σ.length) then .nx ((σ.set i (some (r.d, r.isNw))).set j (some (s.d, s.isNw))) else .bad
def sParU (i j : Nat) (a b : Ex) : Sm := fun σ => match sPar2 i j a b σ with
  | .bad => sPar i j a b σ
  | o => o
theorem sndS_par2 {i j : Nat} {y z : Str} {py pz pt : Pos} {kt k2 : Nat} {pt2 : Pos} (hc : X.calm = true) (hN : X.N.Nodup) (hi : X.N[i]? = some y) (hj : X.N[j]? = some z) (hij : i ≠ j) (hy : X.env.scope.names.lookup y = some .local) (hz : X.env.scope.names.lookup z = some .local)
    (hs1 : notStar a = true) (hs2 : notStar b = true) (hw : swappedStores [.Tuple [.Name y py, .Name z pz] kt pt] (.Tuple [a, b] k2 pt2) X.env = pure (some [y, z])) (ha : Snd fa ca X a da) (hb : Snd fa ca X b db) :
    SndS fa ca X (.Assign [.Tuple [.Name y py, .Name z pz] kt pt] (.Tuple [a, b] k2 pt2) pos) (sPar2 i j da db) := fun W tk H0 U N H σ E D f p => by
  refine of_ps (ps_par hc hN hi hj hij hy hz (pa_cons (peE (e := a)) (pa_cons (peE (e := b)) pa_nil (star_cons hs2)) (star_cons hs1)) hw rfl) ?_
  show tE X a σ H _
  refine ha W tk N H σ E _ f.sr ?_
  have p' : PostS fa ca X.K W H0 U D (hide H N) ((da E).to E fun r => (db E).to E fun s => if (plainR r && plainR s) && decide (i < E.length ∧ j < E.length) then .nx ((E.set i (some (r.d, r.isNw))).set j (some (s.d, s.isNw))) else .bad) := p
  refine (p'.to f.fs.sub).imp fun r _ q v H1 g1 r1 => ?_
  show tE X b σ H1 _
  have f1 := f.grow g1
  refine hb W tk N H1 σ E _ f1.sr ?_
  refine (q.to f1.fs.sub).imp fun r' _ q'' w H2 g2 r2 => ?_
  refine ⟨v, w, rfl, ?_⟩
  split at q''
  case isFalse => exact q''.elim
  rename_i ok
  simp only [Bool.and_eq_true, decide_eq_true_eq] at ok
  obtain ⟨⟨o1, o2⟩, l1, l2⟩ := ok
  obtain ⟨N1, x1, n1⟩ := f.take (H' := H1) g1 l1 r1 o1
  obtain ⟨N2, x2, n2⟩ := x1.take (H' := H2) g2 (by rw [List.length_set]; exact l2) r2 o2
  refine q'' _ H2 _ (hide_mono (g1.trans g2) fun b o eb m => ?_) x2
  exact n1 b o eb (n2 b o (g1 _ _ eb) m)
theorem sndS_parU {i j : Nat} {y z : Str} {py pz pt : Pos} {kt k2 : Nat} {pt2 : Pos} (hc : X.calm = true) (hN : X.N.Nodup) (hi : X.N[i]? = some y) (hj : X.N[j]? = some z) (hij : i ≠ j) (hy : X.env.scope.names.lookup y = some .local) (hz : X.env.scope.names.lookup z = some .local)
    (hs1 : notStar a = true) (hs2 : notStar b = true) (hw : swappedStores [.Tuple [.Name y py, .Name z pz] kt pt] (.Tuple [a, b] k2 pt2) X.env = pure (some [y, z])) (ha : Snd fa ca X a da) (hb : Snd fa ca X b db) :
    SndS fa ca X (.Assign [.Tuple [.Name y py, .Name z pz] kt pt] (.Tuple [a, b] k2 pt2) pos) (sParU i j da db) := fun W tk H0 U N H σ E D f p => by
  unfold sParU at p
  split at p
  · exact sndS_par hc hN hi hj hij hy hz hs1 hs2 hw ha hb W tk H0 U N H σ E D f p
  · exact sndS_par2 hc hN hi hj hij hy hz hs1 hs2 hw ha hb W tk H0 U N H σ E D f p
end
end Rt
end
section
set_option linter.all false
set_option autoImplicit false
set_option Elab.async false
set_option maxRecDepth 100000
set_option maxHeartbeats 3200000
namespace Rt
open PySem PySem.Spec PyProof.Rows L2
/-! ## dict(x), x a list of pairs -/
def asPairs : List D → Option (List (D × D))
  | [] => some []
  | .tup [k, v] :: xs => if isKey k then (asPairs xs).map fun r => (k, v) :: r else none
  | _ :: _ => none
def putAll : List D → List D → List (D × D) → List D × List D
  | ks, vs, [] => (ks, vs)
  | ks, vs, (k, v) :: r => putAll (dkPut ks vs k v).1 (dkPut ks vs k v).2 r
/-- dict(x) -/
def bDict : List D → Option (D × Bool)
  | [.lst xs] => (asPairs xs).map fun ps => (.dct (putAll [] [] ps).1 (putAll [] [] ps).2, true)
  | _ => none
section
variable {fa ca : Nat → Addr} {X : Cx}
theorem Rep.key {K : PySem.W.Frag} {Z : Hp} {x : V} {k : Key} (h : Rep fa K Z (keyD k) x) : x = kV k := by
  cases k with
  | inl i => exact Kid.key (k := .inl i) (Z := Z) (H := Z) (K := K) (fa := fa) h
  | inr s => exact Kid.key (k := .inr s) (Z := Z) (H := Z) (K := K) (fa := fa) h
theorem pairs_rep {K : PySem.W.Frag} {Z H : Hp} (sz : Sub Z H) : ∀ {xs : List D} {ws : List V} {ps : List (D × D)}, RepL fa K Z xs ws → asPairs xs = some ps →
    ∃ (as : List Addr) (kvs : List (Key × V)), ws = as.map V.ref ∧ Paired (fun p kv => SqT K H p [kV kv.1, kv.2]) as kvs ∧ ps.map (·.1) = kvs.map (fun p => keyD p.1) ∧ RepL fa K Z (ps.map (·.2)) (kvs.map (·.2))
  | [], ws, ps, h, q => by
    cases q
    have : ws = [] := h
    subst this
    exact ⟨[], [], rfl, .nil, rfl, rfl⟩
  | x :: xs, ws, ps, h, q => by
    unfold asPairs at q
    split at q
    · rename_i e; cases e
    · rename_i k v xs' e
      cases e
      split at q
      case isFalse => cases q
      rename_i hk
      obtain ⟨r, q1, rfl⟩ := Option.map_eq_some_iff.mp q
      obtain ⟨key, rfl⟩ := isKey_is hk
      obtain ⟨w, us, rfl, h1, h2⟩ := h
      obtain ⟨as, kvs, rfl, p1, p2, p3⟩ := pairs_rep sz h2 q1
      have h1' := h1
      simp only [Rep] at h1'
      obtain ⟨a, vs, rfl, s1, s2⟩ := h1'
      obtain ⟨w1, u1, rfl, r1, t1⟩ := s2
      obtain ⟨w2, u2, rfl, r2, t2⟩ := t1
      have : u2 = [] := t2
      subst this
      have ek := r1.key
      subst ek
      refine ⟨a :: as, (key, w2) :: kvs, rfl, .cons (SqT.sub s1 sz) p1, by simp [p2], ?_⟩
      exact ⟨w2, _, rfl, r2, p3⟩
    · cases q
theorem putAll_rep {K : PySem.W.Frag} {Z : Hp} : ∀ {ps : List (D × D)} {kvs kvs0 : List (Key × V)} {vs : List D}, ps.map (·.1) = kvs.map (fun p => keyD p.1) → RepL fa K Z (ps.map (·.2)) (kvs.map (·.2)) → RepL fa K Z vs (kvs0.map (·.2)) →
    (putAll (kvs0.map fun p => keyD p.1) vs ps).1 = (mergeK kvs0 kvs).map (fun p => keyD p.1) ∧ RepL fa K Z (putAll (kvs0.map fun p => keyD p.1) vs ps).2 ((mergeK kvs0 kvs).map (·.2))
  | [], [], kvs0, vs, _, _, h => ⟨rfl, h⟩
  | [], kv :: kvs, kvs0, vs, e, _, _ => by cases e
  | p :: ps, [], kvs0, vs, e, _, _ => by cases e
  | (k, d) :: ps, (key, v) :: kvs, kvs0, vs, e, h1, h => by
    simp only [List.map_cons, List.cons.injEq] at e
    obtain ⟨rfl, e2⟩ := e
    obtain ⟨w, us, ee, r1, r2⟩ := h1
    cases ee
    obtain ⟨a, b⟩ := dkPut_val (k := key) r1 h
    unfold putAll
    rw [a]
    exact putAll_rep e2 r2 b
theorem NewR.dict {K : PySem.W.Frag} {Z H : Hp} {a : Addr} {ks vs : List D} {kvs : List (Key × V)} (n : H a = none) (sz : Sub Z H) (e : ks = kvs.map fun p => keyD p.1) (h : RepL fa K Z vs (kvs.map (·.2))) : NewR fa K Z H (upd H a (.dK kvs)) true (.dct ks vs) (.ref a) := by
  refine ⟨sub_upd n, a, rfl, n, kvs, upd_same, e, RepL.sub (fun b o e => ?_) _ _ h⟩
  have q := sz b o e
  have ne : b ≠ a := ne_of_none q n
  simp only [if_neg ne, q]
  exact e
theorem bi_dict (hc : X.calm = true) : BiS fa X (.type "dict") bDict := fun Z H vs ds r fr Q sz kd q k pins s σ us I rv => by
  unfold bDict at q
  split at q
  case h_2 => cases q
  obtain ⟨ps, q1, e⟩ := Option.map_eq_some_iff.mp q
  cases e
  obtain ⟨v, rfl, a, ws, rfl, h1, h2⟩ := kid1 kd
  obtain ⟨as, kvs, rfl, p1, p2, p3⟩ := pairs_rep sz h2 q1
  have pr := putAll_rep (kvs0 := []) (vs := []) p2 p3 rfl
  exact call_dictP hc pins s σ H _ us Q I rv ⟨a, as, kvs, rfl, SqL.of h1, p1, fun p hp => k _ _ (NewR.dict hp sz pr.1 pr.2)⟩
end
end Rt
end
section
set_option linter.all false
set_option autoImplicit false
set_option Elab.async false
set_option maxRecDepth 100000
set_option maxHeartbeats 3200000
namespace Rt
open PySem PySem.Spec PyProof.Rows L2
section
variable {fa ca : Nat → Addr} {X : Cx} {a b c e o tg iter tg1 iter1 elt kx : Expr} {da db dc dO dk : Ex} {pos : Pos} {it it1 : Itr}
/-! ## d.get -/
theorem dkGet_none {k : Key} : ∀ {kvs : List (Key × V)} {vs : List D}, vs.length = kvs.length → dkGet (kvs.map fun p => keyD p.1) vs (keyD k) = none → valV kvs k = none
  | [], vs, _, q => rfl
  | p :: kvs, [], h, q => by simp at h
  | p :: kvs, d :: vs, h, q => by
    simp only [List.map_cons, dkGet] at q
    by_cases c : p.1 = k
    · rw [if_pos (keyD_same.mpr (by rw [c]))] at q
      cases q
    · rw [if_neg fun z => c (keyD_inj (keyD_same.mp z)).symm] at q
      rw [valV_neg c]
      exact dkGet_none (by simpa using h) q
theorem kv_get {K : PySem.W.Frag} {Z : Hp} {k : Key} {kvs : List (Key × V)} {vs : List D} {x : D} {w : V} (h : RepL fa K Z vs (kvs.map (·.2))) (hx : Rep fa K Z x w) :
    Rep fa K Z ((dkGet (kvs.map fun p => keyD p.1) vs (keyD k)).getD x) ((valV kvs k).getD w) := by
  cases q : dkGet (kvs.map fun p => keyD p.1) vs (keyD k) with
  | none =>
    rw [dkGet_none (by rw [h.length, List.length_map]) q]
    exact hx
  | some d =>
    obtain ⟨v, q1, q2⟩ := dkGet_val h q
    rw [q1]
    exact q2
theorem m1_of {m : Str} {apos cpos : Pos} (hb : attributeBase o m X.env (eval o X.env) = eval o X.env) (hst : notStar e = true) (hline : (apos.endLine == cpos.line) = true) : M1 X o m apos e cpos :=
  ⟨hb, by rw [star_cons hst]; rfl, hline, by rw [star_cons hst]; rfl⟩
theorem m2_of {m : Str} {apos cpos : Pos} (hb : attributeBase o m X.env (eval o X.env) = eval o X.env) (hst : notStar e = true) (hs2 : notStar b = true) (hline : (apos.endLine == cpos.line) = true) : M2 X o m apos e b cpos :=
  ⟨hb, by rw [star_cons hst, star_cons hs2]; rfl, hline, by rw [star_cons hst, star_cons hs2]; rfl⟩
theorem dct_top {K : PySem.W.Frag} {N : Addr → Prop} {H H' : Hp} {σ : L2.St} {E : Env} {v : V} {r : Rv} {ks vs : List D} (h : RR fa K N H H' σ E v r) (s : SR fa K N H σ E) (g : Sub H H') (e : r.d = .dct ks vs) :
    ∃ ap kvs, v = .ref ap ∧ H' ap = some (.dK kvs) ∧ ks = kvs.map (fun p => keyD p.1) ∧ RepL fa K (hide H' (del N σ r.kp)) vs (kvs.map (·.2)) := by
  have al := h.all s g
  rw [e] at al
  simp only [Rep] at al
  obtain ⟨ap, kvs, h1, h2, h3, h4⟩ := al
  exact ⟨ap, kvs, h1, hide_sub _ _ h2, h3, h4⟩
theorem snd_get1 {kk : Nat} {apos cpos : Pos} {f : Ex} (hr : Room kk X.A) (ho : Snd fa ca X o dO) (he : Snd fa ca X e f) (m : M1 X o "get" apos e cpos) : Snd fa ca X (.Call (.Attribute o "get" apos) [e] [] cpos) (xGet dO [f]) := fun W tk N H σ E Q s p => by
  refine of_pe (pe_dget1 (by have := hr.units; omega) (peE (e := o)) (peE (e := e)) m) ?_
  show tE X o σ H _
  unfold xGet at p
  refine ho.bd tk s (Sub.refl _) p fun r x H1 e1 g1 r1 p1 => ?_
  cases hd : r.d <;> simp only [hd] at p1 <;> try exact p1.elim
  rename_i ks vs
  have p1' : Post ca W H σ (fun r => ∀ v H', Sub H H' → RR fa X.K N H H' σ E v r → Q v H') ((f E).bd fun r' => match dGet ks vs [r'.d] with | some d => .ok (mkF d (r.kp ++ kpL [r'])) | none => .bad) := by
    have z := p1
    unfold evs evs at z
    rw [R.bd_assoc] at z
    exact z
  obtain ⟨ap, kvs, rfl, h1, rfl, h2⟩ := dct_top r1 s g1 hd
  refine ⟨ap, rfl, .inl ⟨kvs, .of h1⟩, ?_⟩
  show tE X e σ H1 _
  refine he.bd tk (s.grow g1) g1 p1' fun r' y H2 e2 g2 r2 p2 => ?_
  have g12 := g1.trans g2
  have k2 := r2.kid (s.grow g1) g2
  cases q : dGet (kvs.map fun p => keyD p.1) vs [r'.d] with
  | none => simp only [q] at p2; exact p2.elim
  | some d =>
    simp only [q] at p2
    simp only [dGet] at q
    split at q
    · rename_i hk
      cases q
      obtain ⟨key, ek⟩ := isKey_is hk
      rw [ek] at p2 k2
      have ey := k2.key
      subst ey
      have z := RepL.sub (hide_mono g2 fun b o _ n => n) _ _ h2
      refine ⟨_, DGet.k (g2 _ _ h1), p2 _ H2 g12 (rr_mkF s g12 (Rep.sub (hide_dep mem_app_l) _ _ (kv_get z (by simp [Rep]))))⟩
    · cases q
theorem snd_get2 {kk : Nat} {apos cpos : Pos} {f g : Ex} (hr : Room kk X.A) (ho : Snd fa ca X o dO) (he : Snd fa ca X e f) (hb : Snd fa ca X b g) (m : M2 X o "get" apos e b cpos) : Snd fa ca X (.Call (.Attribute o "get" apos) [e, b] [] cpos) (xGet dO [f, g]) := fun W tk N H σ E Q s p => by
  refine of_pe (pe_dget2 (by have := hr.units; omega) (peE (e := o)) (peE (e := e)) (peE (e := b)) m) ?_
  show tE X o σ H _
  unfold xGet at p
  refine ho.bd tk s (Sub.refl _) p fun r x H1 e1 g1 r1 p1 => ?_
  cases hd : r.d <;> simp only [hd] at p1 <;> try exact p1.elim
  rename_i ks vs
  have p1' : Post ca W H σ (fun r => ∀ v H', Sub H H' → RR fa X.K N H H' σ E v r → Q v H') ((f E).bd fun r' => (g E).bd fun r'' => match dGet ks vs [r'.d, r''.d] with | some d => .ok (mkF d (r.kp ++ kpL [r', r''])) | none => .bad) := by
    have z := p1
    unfold evs evs evs at z
    simp only [R.bd_assoc] at z
    exact z
  obtain ⟨ap, kvs, rfl, h1, rfl, h2⟩ := dct_top r1 s g1 hd
  refine ⟨ap, rfl, .inl ⟨kvs, .of h1⟩, ?_⟩
  show tE X e σ H1 _
  refine he.bd tk (s.grow g1) g1 p1' fun r' y H2 e2 g2 r2 p2 => ?_
  have g12 := g1.trans g2
  show tE X b σ H2 _
  refine hb.bd tk (s.grow g12) g12 p2 fun r'' w H3 e3 g3 r3 p3 => ?_
  have g23 := g2.trans g3
  have g13 := g1.trans g23
  have k2 := (r2.kid (s.grow g1) g2).sub (hide_mono g3 fun b o _ n => n) g3
  cases q : dGet (kvs.map fun p => keyD p.1) vs [r'.d, r''.d] with
  | none => simp only [q] at p3; exact p3.elim
  | some d =>
    simp only [q] at p3
    simp only [dGet] at q
    split at q
    · rename_i hk
      cases q
      obtain ⟨key, ek⟩ := isKey_is hk
      rw [ek] at p3 k2
      have ey := k2.key
      subst ey
      have z := RepL.sub (hide_mono g23 fun b o _ n => n) _ _ h2
      have al := r3.all (s.grow g12) g3
      refine ⟨_, DGet.k (g23 _ _ h1), p3 _ H3 g13 (rr_mkF s g13 (kv_get (RepL.sub (hide_dep mem_app_l) _ _ z) (Rep.sub (hide_dep fun i h => ?_) _ _ al)))⟩
      simp only [kpL, List.map_cons, List.map_nil, List.flatten_cons, List.flatten_nil, List.append_nil, List.mem_append]
      exact .inr (.inr h)
    · cases q
/-! ## x[::-1] -/
theorem rev_range (n : Nat) : sliceRange ((n : Int) - 1) (-1) (-1) = (List.range n).map fun (k : Nat) => n - 1 - k := by
  unfold sliceRange
  rw [if_neg (by decide)]
  cases n with
  | zero => rfl
  | succ m =>
    rw [if_pos (by omega)]
    dsimp only
    have e : ((((m + 1 : Nat) : Int) - 1 - -1 - -1 - 1) / - -1).toNat = m + 1 := by
      have : (((m + 1 : Nat) : Int) - 1 - -1 - -1 - 1) / - -1 = ((m + 1 : Nat) : Int) := by
        rw [show (- -1 : Int) = 1 by decide, Int.ediv_one]; omega
      rw [this]; rfl
    rw [e]
    apply List.map_congr_left
    intro k hk
    have := List.mem_range.mp hk
    omega
theorem rev_pick {α : Type} (l : List α) : ∀ n, n = l.length → ((List.range n).map fun (k : Nat) => n - 1 - k).filterMap (l[·]?) = l.reverse := by
  intro n hn
  subst hn
  apply List.ext_getElem?
  intro i
  rw [List.filterMap_map]
  have e : ∀ (m : Nat), m ≤ l.length → (List.range m).filterMap ((fun x => l[x]?) ∘ fun k => l.length - 1 - k) = (l.reverse).take m := by
    intro m
    induction m with
    | zero => intro _; rfl
    | succ m ih =>
      intro h
      rw [List.range_succ, List.filterMap_append, ih (by omega), List.take_add_one]
      congr 1
      simp only [List.filterMap_cons, List.filterMap_nil, Function.comp]
      rw [List.getElem?_reverse (by omega)]
      cases q : l[l.length - 1 - m]? with
      | none => rfl
      | some x => rfl
  rw [e _ (Nat.le_refl _), List.take_of_length_le (by simp)]
theorem slicePick_rev (items : Array Value) : slicePick items none none (some (-1)) = items.toList.reverse.toArray := by
  have e : sliceBounds none none (some (-1)) items.size = ((items.size : Int) - 1, -1, -1) := by
    simp [sliceBounds]
  unfold slicePick
  rw [e]
  simp only [rev_range]
  have h := rev_pick items.toList items.size (by simp)
  rw [← h]
  congr 1
  simp
theorem Vals.rev {xs : List V} {us : List Value} (h : Vals xs us) : Vals xs.reverse us.reverse := L2.Vals.reverse h
theorem RepL.rev {K : PySem.W.Frag} {Z : Hp} : ∀ {ds : List D} {vs : List V}, RepL fa K Z ds vs → RepL fa K Z ds.reverse vs.reverse
  | [], vs, h => by
    have : vs = [] := h
    subst this
    exact RepL.nil_
  | d :: ds, vs, h => by
    obtain ⟨v, r, rfl, h1, h2⟩ := h
    rw [List.reverse_cons, List.reverse_cons]
    exact (RepL.rev h2).append (.one h1)
theorem pe_rev {te : TE} {p2 : Pos} {st : Expr} (he : PE X e te) (hst : PE X st (fun σ H Q => Q (.int (-1)) H)) : PE X (.Subscript e (.Slice none none (some st) p2) pos) (fun σ H Q => te σ H fun x H1 => ∃ a xs, x = .ref a ∧ H1 a = some (.lst xs) ∧ ∀ p, H1 p = none → Q (.ref p) (upd H1 p (.lst xs.reverse))) := by
  refine ⟨fun pins s σ H Q I h => ?_⟩
  refine Subscript_ (thn (he.run pins s σ H _ I h) fun v s1 ⟨x, H1, I1, r1, a, xs, ex, ha, q1⟩ => ?_)
  subst ex
  cases r1
  refine wpAny_Slice ?_
  rw [evalPart_none]
  refine wpAny_pure ?_
  refine wpAny_pure ?_
  rw [evalPart_some]
  refine thn (hst.run pins s1 σ H1 (fun x H2 => x = .int (-1) ∧ H2 = H1) I1 ⟨rfl, rfl⟩) fun u s2 ⟨x2, H2, I2, r2, e2, e3⟩ => ?_
  subst e2 e3
  obtain ⟨t, rfl⟩ := r2
  have I3 : Inv X pins σ H2 { s2 with heap := s2.heap.push { cls := .type "slice", data := .fields #[.none, .none, .int (-1) t] } } := I2.kept (t' := s2.toks) fun b ob q => Heap.get?_push_of_some _ q
  obtain ⟨its, r, ht, hz⟩ := I3.list (SqL.of ha)
  show wpAny (model X.prog X.w) X.A (subscriptTail e (.Slice none none (some st) p2) (.ref a) (.ref s2.heap.objs.size)) (EP X pins σ Q) X.xe { s2 with heap := s2.heap.push { cls := .type "slice", data := .fields #[.none, .none, .int (-1) t] } }
  refine tail_any (ops := [.ref a, .ref s2.heap.objs.size]) ht.isList.typeIs list_getitem_lookup ?_ (by with_unfolding_all rfl)
  refine wpAny_getItem_list_slice ht.isList (Heap.IsSliceOf.new ..) .none .none (.int (-1) t) (by decide) ?_ (by have := r.length; rw [List.size_toArray]; omega)
  rw [slicePick_rev]
  refine ⟨.ref _, _, I3.laid (t' := s2.toks) (o := .lst xs.reverse) (fun b ob q => Heap.get?_push_of_some _ q) (Nat.le_refl _) ?_, rfl, q1 _ (I3.hok.fresh (Nat.le_refl _))⟩
  exact ⟨by rw [List.length_reverse]; exact hz, _, 0, (L2.Vals.reverse r), Heap.get?_push_size _ rfl⟩
theorem snd_rev {p2 : Pos} {st : Expr} (hst : PE X st (fun σ H Q => Q (.int (-1)) H)) (ha : Snd fa ca X a da) : Snd fa ca X (.Subscript a (.Slice none none (some st) p2) pos) (xBi bRev [da]) := fun W tk N H σ E Q s p => by
  refine of_pe (pe_rev (peE (e := a)) hst) ?_
  show tE X a σ H _
  have p' : Post ca W H σ (fun r => ∀ v H', Sub H H' → RR fa X.K N H H' σ E v r → Q v H') ((da E).bd fun r => match bRev [r.d] with | some (d, fr) => .ok (mk fr d (kcL [r])) | none => .bad) := by
    have z := p
    unfold xBi evs evs at z
    simp only [R.bd_assoc] at z
    exact z
  refine ha.bd tk s (Sub.refl _) p' fun r x H1 e1 g1 r1 p1 => ?_
  have k1 := r1.kid s g1
  cases hd : r.d <;> simp only [hd, bRev] at p1 k1 <;> try exact p1.elim
  obtain ⟨ap, vs, rfl, h1, h2⟩ := k1
  refine ⟨ap, vs, rfl, h1, fun p np => p1 _ _ (g1.trans (sub_upd np)) ?_⟩
  refine (NewR.rr (fr := true) (p := kcL [r]) s g1 (NewR.list np hide_sub ?_))
  refine RepL.sub (hide_dep fun i h => ?_) _ _ h2.rev
  simpa [kcL] using h
end
end Rt
end
section
set_option linter.all false
set_option autoImplicit false
set_option Elab.async false
set_option maxRecDepth 100000
set_option maxHeartbeats 3200000
namespace Rt
open PySem PySem.Spec PyProof.Rows L2
section
variable {fa ca : Nat → Addr} {X : Cx} {a b c e o tg iter tg1 iter1 elt kx : Expr} {da db dc dO dk : Ex} {pos : Pos} {it it1 : Itr}
/-- a new object L of the block's own is written -/
theorem SR.wrL {K : PySem.W.Frag} {N : Addr → Prop} {H : Hp} {σ : L2.St} {E : Env} {L : Addr} {o' : HO} (s : SR fa K (fun b => N b ∨ b = L) H σ E) (ne : ∀ (i : Nat) (d : D), E[i]? = some (some (d, true)) → σ[i]? ≠ some (some (V.ref L))) (hm : Mb o') : SR fa K (fun b => N b ∨ b = L) (upd H L o') σ E := by
  have eh : hide (upd H L o') (fun b => N b ∨ b = L) = hide H (fun b => N b ∨ b = L) := hide_upd (.inr rfl)
  exact {
    len := s.len
    sub := fun b n => by
      by_cases e : b = L
      · subst e; exact ⟨o', upd_same, hm⟩
      · obtain ⟨o, q, m⟩ := s.sub b n
        exact ⟨o, by rw [upd_ne e]; exact q, m⟩
    fz := fun i d e => by rw [eh]; exact s.fz i d e
    ow := fun i d e => by
      obtain ⟨ad, q1, q2, q3⟩ := s.ow i d e
      refine ⟨ad, q1, q2, ?_⟩
      rw [eh]
      have hne : ad ≠ L := fun z => ne i d e (z ▸ q1)
      cases d <;> simp only [Top] at q3 ⊢ <;> try exact q3
      · rw [upd_ne hne]; exact q3
      · rw [upd_ne hne]; exact q3
    inj := s.inj }
def bI (X : Cx) (scope : Scope) (tg iter : Expr) : TI := fun σ H R => ∀ (s0 : Shared) (H0 : Hp) (C : Addr) (cl : List (Str × Addr)) (fp : List Addr), tI (blkN X scope s0 H0 C cl fp) tg iter σ H R
theorem pi_b {scope : Scope} : ∀ (s : Shared) (H : Hp) (C : Addr) (cl : List (Str × Addr)) (fp : List Addr), PI (blkN X scope s H C cl fp) tg iter (bI X scope tg iter) := fun s0 H0 C cl fp => ⟨fun pins st σ H R I h => h s0 H0 C cl fp pins st I⟩
theorem isEmpty_nil {α : Type} {l : List α} (h : l.isEmpty = true) : l = [] := by cases l <;> simp at h ⊢
/-! ## dict comprehensions -/
theorem dc_read {ifs : List Expr} {scope : Scope} {own is : List Nat} {g : Tg} {t : Tst} {W : WX} {N : Addr → Prop} {H : Hp} {σ : L2.St} {E : Env} {Q : VK} (hi : SndI fa ca X tg iter it) (his : ∀ i ∈ is, i ∈ own)
    (hg : ∀ (s : Shared) (H : Hp) (C : Addr) (cl : List (Str × Addr)) (fp : List Addr), SndG fa (blkN X scope s H C cl fp) tg is g)
    (ht : ∀ (s : Shared) (H : Hp) (C : Addr) (cl : List (Str × Addr)) (fp : List Addr), SndTs fa ca (blkN X scope s H C cl fp) ifs t)
    (hk : ∀ (s : Shared) (H : Hp) (C : Addr) (cl : List (Str × Addr)) (fp : List Addr), Snd fa ca (blkN X scope s H C cl fp) kx dk)
    (he : ∀ (s : Shared) (H : Hp) (C : Addr) (cl : List (Str × Addr)) (fp : List Addr), Snd fa ca (blkN X scope s H C cl fp) elt da)
    (tk : Takes X W) (s : SR fa X.K N H σ E) (p : Post ca W H σ (fun r => ∀ v H', Sub H H' → RR fa X.K N H H' σ E v r → Q v H') (xDC own it g t dk da E)) :
    tDc (tI X tg iter) (bG X scope tg) (bT X scope ifs) (bE X scope kx) (bE X scope elt) own σ H Q := by
  unfold xDC at p
  refine hi.bd tk s (Sub.refl _) p fun q J H1 e1 g1 wk p1 => ?_
  intro L nL
  cases ql : dcGo g t dk da (wipeE own E) q.1 [] [] with
  | ex c x => rw [ql] at p1; exact p1.elim
  | bad => rw [ql] at p1; exact p1.elim
  | ok w =>
    rw [ql] at p1
    dsimp only at p1
    refine ⟨fun i m H2 => m = q.1.length - i ∧ i ≤ q.1.length ∧ Sub H1 H2 ∧ ∃ (kvs : List (Key × V)) (vs : List D), H2 L = some (.dK kvs) ∧ RepL fa X.K (hide H2 fun b => N b ∨ b = L) vs (kvs.map (·.2)) ∧
      dcGo g t dk da (wipeE own E) (q.1.drop i) (kvs.map fun p => keyD p.1) vs = .ok w, ⟨_, rfl, Nat.zero_le _, sub_upd nL, [], [], upd_same, RepL.nil_, by simpa using ql⟩, ?_⟩
    rintro i m H2 ⟨rfl, hil, g2, kvs, vs, hL, hr, hl⟩
    have nL0 : H L = none := g1.none nL
    have zt : Sub (hide H1 (del N σ q.2)) H2 := fun b o e => g2 _ _ (hide_sub _ _ e)
    have zi : Sub (hide H1 N) H2 := fun b o e => g2 _ _ (hide_sub _ _ e)
    by_cases hlt : i < q.1.length
    · have hdr : q.1.drop i = q.1[i] :: q.1.drop (i + 1) := (List.getElem_cons_drop hlt).symm
      rw [hdr] at hl
      unfold dcGo at hl
      obtain ⟨jg, jy⟩ := wk.go i H2 q.1[i] zt zi (List.getElem?_eq_getElem hlt)
      refine .inr ⟨jg, fun H' => Sub H1 H' ∧ ∃ (kvs : List (Key × V)) (vs : List D), H' L = some (.dK kvs) ∧ RepL fa X.K (hide H' fun b => N b ∨ b = L) vs (kvs.map (·.2)) ∧
        dcGo g t dk da (wipeE own E) (q.1.drop (i + 1)) (kvs.map fun p => keyD p.1) vs = .ok w, fun H' ⟨k1, k2⟩ => ⟨q.1.length - (i + 1), by omega, rfl, hlt, k1, k2⟩, fun x H3 y3 => ?_⟩
      obtain ⟨g3, rx⟩ := jy x H3 y3
      have hL3 : H3 L = some (.dK kvs) := g3 _ _ hL
      have sB : SR fa X.K (fun b => N b ∨ b = L) H3 (L2.wipe σ own) (wipeE own E) := (s.wipe own).also ((g1.trans g2).trans g3) nL0 hL3 trivial
      have rx' : Rep fa X.K (hide H3 fun b => N b ∨ b = L) q.1[i] x := Rep.sub (fun b o e => by
        cases z : H2 b with
        | none =>
          simp only [z] at e
          rw [hide_at fun n => ?_]
          · exact e
          · rcases n with n | n
            · obtain ⟨u, q1, _⟩ := s.sub b n
              rw [g2 _ _ (g1 _ _ q1)] at z; cases z
            · rw [n, hL] at z; cases z
        | some u =>
          simp only [z] at e
          refine hide_mono (g2.trans g3) (fun b o e n => ?_) b o e
          rcases n with n | n
          · exact n
          · rw [n, nL] at e; cases e) _ _ rx
      cases qg : g q.1[i] (wipeE own E) with
      | none => rw [qg] at hl; cases hl
      | some E2 =>
        simp only [qg] at hl
        intro s0 H0 C cl fp
        refine (hg s0 H0 C cl fp).run _ H3 _ _ _ x E2 _ sB rx' qg fun σ2 s2 ⟨b2, c2, l2, _⟩ => ?_
        have bo : But own (L2.wipe σ own) σ2 := fun j nj => b2 j fun z => nj (his j z)
        refine ⟨wipe_but bo l2, ?_⟩
        intro s0 H0 C cl fp
        refine ht s0 H0 C cl fp _ takes_none5 _ H3 σ2 E2 _ s2 ?_
        cases qt : t E2 with
        | ex c x => rw [qt] at hl; cases hl
        | bad => rw [qt] at hl; cases hl
        | ok k =>
          intro H4 g4
          cases k with
          | false =>
            simp only [qt] at hl
            simp only [Bool.false_eq_true, if_false]
            exact ⟨(g2.trans g3).trans g4, kvs, vs, g4 _ _ hL3, RepL.sub (hide_mono (g3.trans g4) fun _ _ _ n => n) _ _ hr, hl⟩
          | true =>
            simp only [qt] at hl
            simp only [if_true]
            intro s0 H0 C cl fp
            refine hk s0 H0 C cl fp _ takes_none5 _ H4 σ2 E2 _ (s2.grow g4) ?_
            cases qk : dk E2 with
            | ex c x => rw [qk] at hl; cases hl
            | bad => rw [qk] at hl; cases hl
            | ok r =>
              simp only [qk] at hl
              split at hl
              case isFalse => cases hl
              rename_i ck
              simp only [Bool.and_eq_true, decide_eq_true_eq] at ck
              obtain ⟨key, ek⟩ := isKey_is ck.1
              intro y H5 g5 rr
              intro s0 H0 C cl fp
              refine he s0 H0 C cl fp _ takes_none5 _ H5 σ2 E2 _ (s2.grow (g4.trans g5)) ?_
              cases qe : da E2 with
              | ex c x => rw [qe] at hl; cases hl
              | bad => rw [qe] at hl; cases hl
              | ok r' =>
                simp only [qe] at hl
                split at hl
                case isFalse => cases hl
                rename_i ce
                have ekp := isEmpty_nil ce
                intro v H6 g6 rr'
                have hL6 : H6 L = some (.dK kvs) := g6 _ _ (g5 _ _ (g4 _ _ hL3))
                have al := rr'.all (s2.grow (g4.trans g5)) g6
                rw [ekp] at al
                have g26 : Sub H2 H6 := ((g3.trans g4).trans g5).trans g6
                have k2 := rr.kid (s2.grow g4) g5
                rw [ek] at k2 hl
                have ey := k2.key
                subst ey
                have sh : Sub (hide H6 fun b => N b ∨ b = L) (hide (upd H6 L (.dK (putK kvs key v))) fun b => N b ∨ b = L) := by
                  rw [hide_upd (p := L) (.inr rfl)]; exact Sub.refl _
                have hr6 : RepL fa X.K (hide (upd H6 L (.dK (putK kvs key v))) fun b => N b ∨ b = L) vs (kvs.map (·.2)) := RepL.sub (Sub.trans (hide_mono g26 fun _ _ _ n => n) sh) _ _ hr
                have al6 : Rep fa X.K (hide (upd H6 L (.dK (putK kvs key v))) fun b => N b ∨ b = L) r'.d v := Rep.sub (Sub.trans (hide_mono (Sub.refl _) fun b o _ n => del_nil.mpr n) sh) _ _ al
                have dv := dkPut_val (k := key) al6 hr6
                refine ⟨kvs, key, rfl, hL6, ?_, ?_, putK kvs key v, _, upd_same, dv.2, ?_⟩
                · rw [← line_eq]
                  simpa using ck.2
                · exact fun b o e => by
                    have ne : b ≠ L := ne_of_none e nL
                    rw [upd_ne ne]
                    exact g26 _ _ (g2 _ _ e)
                · rw [← dv.1]; exact hl
    · have ei : i = q.1.length := by omega
      subst ei
      rw [List.drop_length] at hl
      have ew : w = (kvs.map (fun p => keyD p.1), vs) := by
        unfold dcGo at hl
        cases hl; rfl
      subst ew
      exact .inl ⟨wk.stop _ H2 zt zi (Nat.le_refl _), p1 _ H2 (g1.trans g2) (rr_mkN s (g1.trans g2) nL0 ⟨kvs, hL, rfl, RepL.sub (hide_mono (Sub.refl _) fun b o _ n => n.elim (fun n => .inl (del_nil.mp n)) .inr) _ _ hr⟩)⟩
theorem snd_dc {ifs : List Expr} {scope : Scope} {own : List (Str × Nat)} {is : List Nat} {g : Tg} {t : Tst} (hc : X.calm = true) (hN : X.N.Nodup) (hi : SndI fa ca X tg iter it) (ok : BlkOk X.N X.env.scope scope own) (his : ∀ i ∈ is, i ∈ own.map (·.2))
    (hg : ∀ (s : Shared) (H : Hp) (C : Addr) (cl : List (Str × Addr)) (fp : List Addr), SndG fa (blkN X scope s H C cl fp) tg is g)
    (ht : ∀ (s : Shared) (H : Hp) (C : Addr) (cl : List (Str × Addr)) (fp : List Addr), SndTs fa ca (blkN X scope s H C cl fp) ifs t)
    (hk : ∀ (s : Shared) (H : Hp) (C : Addr) (cl : List (Str × Addr)) (fp : List Addr), Snd fa ca (blkN X scope s H C cl fp) kx dk)
    (he : ∀ (s : Shared) (H : Hp) (C : Addr) (cl : List (Str × Addr)) (fp : List Addr), Snd fa ca (blkN X scope s H C cl fp) elt da) (hs : ∀ x, foldedSetIterable iter X.env x = pure x) :
    Snd fa ca X (.DictComp kx elt [⟨tg, iter, ifs, 0⟩] scope pos) (xDC (own.map (·.2)) it g t dk da) := fun W tk N H σ E Q s p =>
  of_pe (pe_dc (own := own) hc hN piI ok pg_b pt_b pe_b pe_b hs) (dc_read hi his hg ht hk he tk s p)
/-! ## list comprehensions of two fors -/
theorem lc2_read {ifs ifs1 : List Expr} {scope : Scope} {own is js : List Nat} {g g1 : Tg} {t t1 : Tst} {W : WX} {N : Addr → Prop} {H : Hp} {σ : L2.St} {E : Env} {Q : VK} (hi : SndI fa ca X tg iter it) (his : ∀ i ∈ is, i ∈ own)
    (hg : ∀ (s : Shared) (H : Hp) (C : Addr) (cl : List (Str × Addr)) (fp : List Addr), SndG fa (blkN X scope s H C cl fp) tg is g)
    (ht : ∀ (s : Shared) (H : Hp) (C : Addr) (cl : List (Str × Addr)) (fp : List Addr), SndTs fa ca (blkN X scope s H C cl fp) ifs t)
    (hi1 : ∀ (s : Shared) (H : Hp) (C : Addr) (cl : List (Str × Addr)) (fp : List Addr), SndI fa ca (blkN X scope s H C cl fp) tg1 iter1 it1)
    (hg1 : ∀ (s : Shared) (H : Hp) (C : Addr) (cl : List (Str × Addr)) (fp : List Addr), SndG fa (blkN X scope s H C cl fp) tg1 js g1)
    (ht1 : ∀ (s : Shared) (H : Hp) (C : Addr) (cl : List (Str × Addr)) (fp : List Addr), SndTs fa ca (blkN X scope s H C cl fp) ifs1 t1)
    (he : ∀ (s : Shared) (H : Hp) (C : Addr) (cl : List (Str × Addr)) (fp : List Addr), Snd fa ca (blkN X scope s H C cl fp) elt da)
    (tk : Takes X W) (s : SR fa X.K N H σ E) (p : Post ca W H σ (fun r => ∀ v H', Sub H H' → RR fa X.K N H H' σ E v r → Q v H') (xLC2 own js it g t it1 g1 t1 da E)) :
    tLc2 (tI X tg iter) (bG X scope tg) (bT X scope ifs) (bI X scope tg1 iter1) (bG X scope tg1) (bT X scope ifs1) (bE X scope elt) own js σ H Q := by
  unfold xLC2 at p
  refine hi.bd tk s (Sub.refl _) p fun q J H1 e1 gg1 wk p1 => ?_
  intro L nL
  cases ql : lc2Go js g t it1 g1 t1 da (wipeE own E) q.1 with
  | ex c x => rw [ql] at p1; exact p1.elim
  | bad => rw [ql] at p1; exact p1.elim
  | ok w =>
    rw [ql] at p1
    dsimp only at p1
    split at p1
    case isFalse => exact p1.elim
    rename_i wl
    refine ⟨fun i m H2 => m = q.1.length - i ∧ i ≤ q.1.length ∧ Sub H1 H2 ∧ ∃ acc ds w', H2 L = some (.lst acc) ∧ RepL fa X.K (hide H2 fun b => N b ∨ b = L) ds acc ∧
      lc2Go js g t it1 g1 t1 da (wipeE own E) (q.1.drop i) = .ok w' ∧ ds ++ w' = w, ⟨_, rfl, Nat.zero_le _, sub_upd nL, [], [], w, upd_same, RepL.nil_, by simpa using ql, rfl⟩, ?_⟩
    rintro i m H2 ⟨rfl, hil, g2, acc, ds, w', hL, hr, hl, hw⟩
    have nL0 : H L = none := gg1.none nL
    have zt : Sub (hide H1 (del N σ q.2)) H2 := fun b o e => g2 _ _ (hide_sub _ _ e)
    have zi : Sub (hide H1 N) H2 := fun b o e => g2 _ _ (hide_sub _ _ e)
    by_cases hlt : i < q.1.length
    · have hdr : q.1.drop i = q.1[i] :: q.1.drop (i + 1) := (List.getElem_cons_drop hlt).symm
      rw [hdr] at hl
      unfold lc2Go at hl
      obtain ⟨jg, jy⟩ := wk.go i H2 q.1[i] zt zi (List.getElem?_eq_getElem hlt)
      refine .inr ⟨jg, fun H' => Sub H1 H' ∧ ∃ acc ds w', H' L = some (.lst acc) ∧ RepL fa X.K (hide H' fun b => N b ∨ b = L) ds acc ∧
        lc2Go js g t it1 g1 t1 da (wipeE own E) (q.1.drop (i + 1)) = .ok w' ∧ ds ++ w' = w, fun H' ⟨k1, k2⟩ => ⟨q.1.length - (i + 1), by omega, rfl, hlt, k1, k2⟩, fun x H3 y3 => ?_⟩
      obtain ⟨g3, rx⟩ := jy x H3 y3
      have hL3 : H3 L = some (.lst acc) := g3 _ _ hL
      have sB : SR fa X.K (fun b => N b ∨ b = L) H3 (L2.wipe σ own) (wipeE own E) := (s.wipe own).also ((gg1.trans g2).trans g3) nL0 hL3 trivial
      have rx' : Rep fa X.K (hide H3 fun b => N b ∨ b = L) q.1[i] x := Rep.sub (fun b o e => by
        cases z : H2 b with
        | none =>
          simp only [z] at e
          rw [hide_at fun n => ?_]
          · exact e
          · rcases n with n | n
            · obtain ⟨u, q1, _⟩ := s.sub b n
              rw [g2 _ _ (gg1 _ _ q1)] at z; cases z
            · rw [n, hL] at z; cases z
        | some u =>
          simp only [z] at e
          refine hide_mono (g2.trans g3) (fun b o e n => ?_) b o e
          rcases n with n | n
          · exact n
          · rw [n, nL] at e; cases e) _ _ rx
      cases qg : g q.1[i] (wipeE own E) with
      | none => rw [qg] at hl; cases hl
      | some E2 =>
        simp only [qg] at hl
        intro s0 H0 C cl fp
        refine (hg s0 H0 C cl fp).run _ H3 _ _ _ x E2 _ sB rx' qg fun σ2 s2 m2 => ?_
        obtain ⟨b2, c2, l2, o2⟩ := m2
        have bo : But own (L2.wipe σ own) σ2 := fun j nj => b2 j fun z => nj (his j z)
        -- what is owned is no new list
        have ne2 : ∀ (i : Nat) (d : D), E2[i]? = some (some (d, true)) → σ2[i]? ≠ some (some (V.ref L)) := fun i d e z => by
          obtain ⟨q1, q2⟩ := o2 i d e
          obtain ⟨q3, q4⟩ := wipeE_some q1
          rw [wipe_get q3] at q2
          obtain ⟨ad, y1, y2, _⟩ := s.ow i d q4
          rw [← q2, z] at y1
          cases y1
          obtain ⟨u, z1, _⟩ := s.sub _ y2
          rw [nL0] at z1; cases z1
        refine ⟨wipe_but bo l2, ?_⟩
        intro s0 H0 C cl fp
        refine ht s0 H0 C cl fp _ takes_none5 _ H3 σ2 E2 _ s2 ?_
        cases qt : t E2 with
        | ex c x => rw [qt] at hl; cases hl
        | bad => rw [qt] at hl; cases hl
        | ok k =>
          intro H4 g4
          cases k with
          | false =>
            simp only [qt] at hl
            simp only [Bool.false_eq_true, if_false]
            exact ⟨(g2.trans g3).trans g4, acc, ds, w', g4 _ _ hL3, RepL.sub (hide_mono (g3.trans g4) fun _ _ _ n => n) _ _ hr, hl, hw⟩
          | true =>
            simp only [qt] at hl
            simp only [if_true]
            intro s0 H0 C cl fp
            refine hi1 s0 H0 C cl fp _ takes_none5 _ H4 σ2 E2 _ (s2.grow g4) ?_
            cases qi : it1 E2 with
            | ex c x => rw [qi] at hl; cases hl
            | bad => rw [qi] at hl; cases hl
            | ok q1 =>
              simp only [qi] at hl
              split at hl
              case isFalse => cases hl
              rename_i ci
              have eq2 := isEmpty_nil ci
              cases qc : lcGo js g1 t1 da (wipeE js E2) q1.1 with
              | ex c x => rw [qc] at hl; cases hl
              | bad => rw [qc] at hl; cases hl
              | ok w1 =>
                simp only [qc] at hl
                split at hl
                case isFalse => cases hl
                rename_i c1
                have ew1 := isEmpty_nil c1
                cases qr : lc2Go js g t it1 g1 t1 da (wipeE own E) (q.1.drop (i + 1)) with
                | ex c x => rw [qr] at hl; cases hl
                | bad => rw [qr] at hl; cases hl
                | ok w2 =>
                  rw [qr] at hl
                  have hl' : w' = w1.1 ++ w2 := by cases hl; rfl
                  subst hl'
                  intro J1 H5 g5 wk1
                  rw [eq2] at wk1
                  have hL5 : H5 L = some (.lst acc) := g5 _ _ (g4 _ _ hL3)
                  have g15 : Sub H1 H5 := ((g2.trans g3).trans g4).trans g5
                  refine ⟨fun j m H6 => m = q1.1.length - j ∧ j ≤ q1.1.length ∧ Sub H1 H6 ∧ Sub (hide H5 fun b => N b ∨ b = L) H6 ∧ SR fa X.K (fun b => N b ∨ b = L) H6 σ2 E2 ∧ ∃ acc ds w3, H6 L = some (.lst acc) ∧ RepL fa X.K (hide H6 fun b => N b ∨ b = L) ds acc ∧
                    lcGo js g1 t1 da (wipeE js E2) (q1.1.drop j) = .ok (w3, []) ∧ ds ++ (w3 ++ w2) = w, ⟨_, rfl, Nat.zero_le _, g15, hide_sub, s2.grow (g4.trans g5), acc, ds, w1.1, hL5, RepL.sub (hide_mono ((g3.trans g4).trans g5) fun _ _ _ n => n) _ _ hr, by
                      rw [List.drop_zero, qc]; obtain ⟨w11, w12⟩ := w1; dsimp only at ew1; rw [ew1], hw⟩, ?_⟩
                  rintro j m H6 ⟨rfl, hjl, g6, z6, s6, acc1, ds1, w3, hL6, hr6, hl6, hw6⟩
                  have zt1 : Sub (hide H5 (del (fun b => N b ∨ b = L) σ2 [])) H6 := Sub.trans (hide_mono (Sub.refl _) fun b o _ n => del_nil.mpr n) z6
                  by_cases hlt1 : j < q1.1.length
                  · have hdr1 : q1.1.drop j = q1.1[j] :: q1.1.drop (j + 1) := (List.getElem_cons_drop hlt1).symm
                    rw [hdr1] at hl6
                    unfold lcGo at hl6
                    obtain ⟨jg1, jy1⟩ := wk1.go j H6 q1.1[j] zt1 z6 (List.getElem?_eq_getElem hlt1)
                    refine .inr ⟨jg1, fun H6 => Sub H1 H6 ∧ Sub (hide H5 fun b => N b ∨ b = L) H6 ∧ SR fa X.K (fun b => N b ∨ b = L) H6 σ2 E2 ∧ ∃ acc ds w3, H6 L = some (.lst acc) ∧ RepL fa X.K (hide H6 fun b => N b ∨ b = L) ds acc ∧
                      lcGo js g1 t1 da (wipeE js E2) (q1.1.drop (j + 1)) = .ok (w3, []) ∧ ds ++ (w3 ++ w2) = w, fun H' k => ⟨q1.1.length - (j + 1), by omega, rfl, hlt1, k⟩, fun x1 H7 y7 => ?_⟩
                    obtain ⟨g7, rx1⟩ := jy1 x1 H7 y7
                    have hL7 := g7 _ _ hL6
                    have rx1' : Rep fa X.K (hide H7 fun b => N b ∨ b = L) q1.1[j] x1 := Rep.sub (fun b o e => by
                      cases z : H6 b with
                      | none =>
                        simp only [z] at e
                        rw [hide_at fun n => ?_]
                        · exact e
                        · obtain ⟨u, y1, _⟩ := s6.sub b n
                          rw [y1] at z; cases z
                      | some u =>
                        simp only [z] at e
                        have nb : ¬ (N b ∨ b = L) := fun n => by rw [hide_in n] at e; cases e
                        rw [hide_at nb]
                        exact g7 _ _ (z6 _ _ e)) _ _ rx1
                    cases qg1 : g1 q1.1[j] (wipeE js E2) with
                    | none => rw [qg1] at hl6; cases hl6
                    | some E3 =>
                      simp only [qg1] at hl6
                      intro s0 H0 C cl fp
                      refine (hg1 s0 H0 C cl fp).run _ H7 _ _ _ x1 E3 _ ((s6.grow g7).wipe js) rx1' qg1 fun σ3 s3 m3 => ?_
                      obtain ⟨b3, c3, l3, o3⟩ := m3
                      refine ⟨wipe_but b3 l3, ?_⟩
                      intro s0 H0 C cl fp
                      refine ht1 s0 H0 C cl fp _ takes_none5 _ H7 σ3 E3 _ s3 ?_
                      cases qt1 : t1 E3 with
                      | ex c x => rw [qt1] at hl6; cases hl6
                      | bad => rw [qt1] at hl6; cases hl6
                      | ok k1 =>
                        intro H8 g8
                        cases k1 with
                        | false =>
                          simp only [qt1] at hl6
                          simp only [Bool.false_eq_true, if_false]
                          exact ⟨(g6.trans g7).trans g8, (z6.trans g7).trans g8, s6.grow (g7.trans g8), acc1, ds1, w3, g8 _ _ hL7, RepL.sub (hide_mono (g7.trans g8) fun _ _ _ n => n) _ _ hr6, hl6, hw6⟩
                        | true =>
                          simp only [qt1] at hl6
                          simp only [if_true]
                          intro s0 H0 C cl fp
                          refine he s0 H0 C cl fp _ takes_none5 _ H8 σ3 E3 _ (s3.grow g8) ?_
                          cases qe : da E3 with
                          | ex c x => rw [qe] at hl6; cases hl6
                          | bad => rw [qe] at hl6; cases hl6
                          | ok r =>
                            simp only [qe] at hl6
                            split at hl6
                            case isFalse => cases hl6
                            cases qd : lcGo js g1 t1 da (wipeE js E2) (q1.1.drop (j + 1)) with
                            | ex c x => rw [qd] at hl6; cases hl6
                            | bad => rw [qd] at hl6; cases hl6
                            | ok w4 =>
                              rw [qd] at hl6
                              obtain ⟨w41, w42⟩ := w4
                              have hl7 : r.d :: w41 = w3 ∧ r.kp ++ w42 = [] := by
                                have z : (R.ok (r.d :: w41, r.kp ++ w42) : R (List D × List Nat)) = .ok (w3, []) := hl6
                                cases z' : r.kp ++ w42 with
                                | nil => rw [z'] at z; cases z; exact ⟨rfl, rfl⟩
                                | cons a b => rw [z'] at z; cases z
                              obtain ⟨rfl, hkk⟩ := hl7
                              obtain ⟨hk1, hk2⟩ := List.append_eq_nil_iff.mp hkk
                              subst hk2
                              intro v H9 g9 rr
                              have hL9 := g9 _ _ (g8 _ _ hL7)
                              have al := rr.all (s3.grow g8) g9
                              rw [hk1] at al
                              have g69 : Sub H6 H9 := (g7.trans g8).trans g9
                              have sh : Sub (hide H9 fun b => N b ∨ b = L) (hide (upd H9 L (.lst (acc1 ++ [v]))) fun b => N b ∨ b = L) := by
                                rw [hide_upd (p := L) (.inr rfl)]; exact Sub.refl _
                              refine ⟨acc1, hL9, ?_, ?_, ?_, (s6.grow g69).wrL ne2 trivial, acc1 ++ [v], ds1 ++ [r.d], w41, upd_same, ?_, rfl, by simpa using hw6⟩
                              · rw [← line_eq, ← hr6.length]
                                have : w.length = ds1.length + ((w41.length + 1) + w2.length) := by rw [← hw6]; simp; omega
                                omega
                              · exact fun b o e => by
                                  have ne : b ≠ L := ne_of_none e nL
                                  rw [upd_ne ne]
                                  exact g69 _ _ (g6 _ _ e)
                              · exact fun b o e => by
                                  have ne : b ≠ L := fun z => by rw [hide_in (.inr z)] at e; cases e
                                  rw [upd_ne ne]
                                  exact g69 _ _ (z6 _ _ e)
                              · exact RepL.append (RepL.sub (Sub.trans (hide_mono g69 fun _ _ _ n => n) sh) _ _ hr6) (.one (Rep.sub (Sub.trans (hide_mono (Sub.refl _) fun b o _ n => del_nil.mpr n) sh) _ _ al))
                  · have ei : j = q1.1.length := by omega
                    subst ei
                    rw [List.drop_length] at hl6
                    have ew : w3 = [] := by
                      unfold lcGo at hl6
                      cases hl6; rfl
                    subst ew
                    exact .inl ⟨wk1.stop _ H6 zt1 z6 (Nat.le_refl _), g6, acc1, ds1, w2, hL6, hr6, rfl, hw6⟩
    · have ei : i = q.1.length := by omega
      subst ei
      rw [List.drop_length] at hl
      have ew : w' = [] := by cases hl; rfl
      subst ew
      rw [List.append_nil] at hw
      subst hw
      exact .inl ⟨wk.stop _ H2 zt zi (Nat.le_refl _), p1 _ H2 (gg1.trans g2) (rr_mkN s (gg1.trans g2) nL0 ⟨acc, hL, RepL.sub (hide_mono (Sub.refl _) fun b o _ n => n.elim (fun n => .inl (del_nil.mp n)) .inr) _ _ hr⟩)⟩
theorem snd_lc2 {ifs ifs1 : List Expr} {scope : Scope} {own : List (Str × Nat)} {is js : List Nat} {g g1 : Tg} {t t1 : Tst} (hc : X.calm = true) (hN : X.N.Nodup) (hi : SndI fa ca X tg iter it) (ok : BlkOk X.N X.env.scope scope own) (his : ∀ i ∈ is, i ∈ own.map (·.2)) (hjs : ∀ i ∈ js, i ∈ own.map (·.2))
    (hg : ∀ (s : Shared) (H : Hp) (C : Addr) (cl : List (Str × Addr)) (fp : List Addr), SndG fa (blkN X scope s H C cl fp) tg is g)
    (ht : ∀ (s : Shared) (H : Hp) (C : Addr) (cl : List (Str × Addr)) (fp : List Addr), SndTs fa ca (blkN X scope s H C cl fp) ifs t)
    (hi1 : ∀ (s : Shared) (H : Hp) (C : Addr) (cl : List (Str × Addr)) (fp : List Addr), SndI fa ca (blkN X scope s H C cl fp) tg1 iter1 it1)
    (hg1 : ∀ (s : Shared) (H : Hp) (C : Addr) (cl : List (Str × Addr)) (fp : List Addr), SndG fa (blkN X scope s H C cl fp) tg1 js g1)
    (ht1 : ∀ (s : Shared) (H : Hp) (C : Addr) (cl : List (Str × Addr)) (fp : List Addr), SndTs fa ca (blkN X scope s H C cl fp) ifs1 t1)
    (he : ∀ (s : Shared) (H : Hp) (C : Addr) (cl : List (Str × Addr)) (fp : List Addr), Snd fa ca (blkN X scope s H C cl fp) elt da) (hs : ∀ x, foldedSetIterable iter X.env x = pure x) (hs1 : ∀ env x, foldedSetIterable iter1 env x = pure x) :
    Snd fa ca X (.ListComp elt [⟨tg, iter, ifs, 0⟩, ⟨tg1, iter1, ifs1, 0⟩] scope pos) (xLC2 (own.map (·.2)) js it g t it1 g1 t1 da) := fun W tk N H σ E Q s p =>
  of_pe (pe_lc2 (own := own) hc hN piI ok hjs pg_b pt_b pi_b pg_b pt_b pe_b hs hs1) (lc2_read hi his hg ht hi1 hg1 ht1 he tk s p)
theorem sndS_setLc2 {i : Nat} {y : Str} {p1 p2 : Pos} {ifs ifs1 : List Expr} {scope : Scope} {own : List (Str × Nat)} {is js : List Nat} {g g1 : Tg} {t t1 : Tst} (hc : X.calm = true) (hN : X.N.Nodup) (hy : X.N[i]? = some y) (hyl : X.env.scope.names.lookup y = some .local)
    (hsw : swapsWith (.ListComp elt [⟨tg, iter, ifs, 0⟩, ⟨tg1, iter1, ifs1, 0⟩] scope p2) (some (.Name y p1)) pos.line X.env = pure true) (hi : SndI fa ca X tg iter it) (ok : BlkOk X.N X.env.scope scope own) (his : ∀ i ∈ is, i ∈ own.map (·.2)) (hjs : ∀ i ∈ js, i ∈ own.map (·.2))
    (hg : ∀ (s : Shared) (H : Hp) (C : Addr) (cl : List (Str × Addr)) (fp : List Addr), SndG fa (blkN X scope s H C cl fp) tg is g)
    (ht : ∀ (s : Shared) (H : Hp) (C : Addr) (cl : List (Str × Addr)) (fp : List Addr), SndTs fa ca (blkN X scope s H C cl fp) ifs t)
    (hi1 : ∀ (s : Shared) (H : Hp) (C : Addr) (cl : List (Str × Addr)) (fp : List Addr), SndI fa ca (blkN X scope s H C cl fp) tg1 iter1 it1)
    (hg1 : ∀ (s : Shared) (H : Hp) (C : Addr) (cl : List (Str × Addr)) (fp : List Addr), SndG fa (blkN X scope s H C cl fp) tg1 js g1)
    (ht1 : ∀ (s : Shared) (H : Hp) (C : Addr) (cl : List (Str × Addr)) (fp : List Addr), SndTs fa ca (blkN X scope s H C cl fp) ifs1 t1)
    (he : ∀ (s : Shared) (H : Hp) (C : Addr) (cl : List (Str × Addr)) (fp : List Addr), Snd fa ca (blkN X scope s H C cl fp) elt da) (hs : ∀ x, foldedSetIterable iter X.env x = pure x) (hs1 : ∀ env x, foldedSetIterable iter1 env x = pure x) :
    SndS fa ca X (.Assign [.Name y p1] (.ListComp elt [⟨tg, iter, ifs, 0⟩, ⟨tg1, iter1, ifs1, 0⟩] scope p2) pos) (sSet i (xLC2 (own.map (·.2)) js it g t it1 g1 t1 da)) := fun W tk H0 U N H σ E D x p => by
  refine of_ps (ps_setLc2 (own := own) hc hN hy hyl hsw piI ok hjs pg_b pt_b pi_b pg_b pt_b pe_b hs hs1) ?_
  have p' : PostS fa ca X.K W H0 U D (hide H N) ((xLC2 (own.map (·.2)) js it g t it1 g1 t1 da E).to E fun r => Rt.frzO r.kp E fun σ' => if i < E.length then .nx (σ'.set i (some (r.d, r.isNw))) else .bad) := p
  exact lc2_read (Q := fun v H1 => D.nx (σ.set i (some v)) H1) hi his hg ht hi1 hg1 ht1 he tk x.sr ((p'.to x.fs.sub).imp fun r _ q v H1 g rr => set_nx x g rr q)
end
end Rt
end
section
set_option linter.all false
set_option autoImplicit false
set_option Elab.async false
set_option maxRecDepth 100000
set_option maxHeartbeats 2000000
namespace Rt
open PySem PySem.Calls PyProof.Rows
open PySem.W
/-! ### the errors: ScheduleError's __init__ says super().__init__(at) -/
def eA (p1 p2 : Pos) : Arguments := { posonlyargs := [], args := [{ arg := "self", annotation := none, pos := p1 }, { arg := "at", annotation := none, pos := p2 }], vararg := none, kwonlyargs := [], kw_defaults := [], kwarg := none, defaults := [] }
def eB (q1 q2 q3 q4 q5 q6 q7 q8 q9 q10 : Pos) : List Stmt := [.Expr (.Call (.Attribute (.Call (.Name "super" q1) [] [] q2) "__init__" q3) [.Name "at" q4] [] q5) q6, .Assign [.Attribute (.Name "self" q7) "at" q8] (.Name "at" q9) q10]
def eS : Scope := { kind := .function, names := [(PySem.Str.ofString "self", .local), (PySem.Str.ofString "at", .local), (PySem.Str.ofString "__class__", .free), (PySem.Str.ofString "super", .globalImplicit)], isGenerator := false, isCoroutine := false, more := [] }
/-- the base class, at D; its __init__, at fI -/
structure ErrB (P : Program) (K : Frag) (mg : Str → Option Value) (D fI : Addr) : Prop where
  fn : ∃ (oc : Value) (od : Option Addr) (q : Str) (doc pm : Value) (an : Option Addr) (cda : Addr) (ct : Value) (cc : Addr) (osl : Array (Option Value)) (p1 p2 q1 q2 q3 q4 q5 q6 q7 q8 q9 q10 : Pos),
    (q3.endLine == q5.line) = true ∧ K.lookup fI = some ⟨oc, od, .func (ksFn "__init__" q (eA p1 p2) (eB q1 q2 q3 q4 q5 q6 q7 q8 q9 q10) eS .none .none doc pm an (.ref cda) ct cc), osl⟩ ∧ codeIn K (.ref cda) q = true ∧
    (∃ (ccl : Value) (cdd : Option Addr) (vs : Array Value) (ccs : Array (Option Value)) (file : Str) (tf : Tok), K.lookup cda = some ⟨ccl, cdd, .fields vs, ccs⟩ ∧ vs[2]? = some (.str file tf) ∧ ((P.main.file : Str) == file) = true) ∧
    ∃ (cl : Value) (cld : Option Addr) (csl : Array (Option Value)), K.lookup cc = some ⟨cl, cld, .cell (some (.ref D)), csl⟩
  cls : ∃ cd, clsIn K D = some cd
  opq : nsIn K cStatics "thirdparty.any" = some none
  sup : mg "super" = none
  top : (P.main.scope.names.lookup ("super" : Str)).isSome = false
  tC : typeIn K (.ref fI) = some (.type "function")
/-- a class of it, at C -/
structure ErrC (K : Frag) (D fI C : Addr) : Prop where
  cls : ∃ nm q N bs bm sn sub ab col dd k0 k1 k2 k3 k5, K.lookup C = some (excClassObj nm q C N bs bm true sn sub ab col dd k0 k1 k2 k3 k5 "ValueError.__new__") ∧ HandSPX.refsVE bm = true
  sa : findIn K (.ref C) "__setattr__" = some (some (.builtin "object.__setattr__"))
  ga : findIn K (.ref C) "__getattribute__" = some (some (.builtin "BaseException.__getattribute__"))
  gg : findIn K (.ref C) "__getattr__" = some none
  noN : findIn K (.ref C) "at" = some none
  iC : findIn K (.ref C) "__init__" = some (some (.ref fI))
  kC : keepIn K (.ref C) = true
  exC : subIn K (.ref C) (.type "BaseException") = some true
  tyC : typeIn K (.ref C) = some (.type "type")
  hdC : hasDictIn K C = true
  sup : ks_superIn K C D "__init__" = some (some (.builtin "ValueError.__init__"))
  sub : mroIn K C (.ref D) = some true
  ve : subIn K (.ref C) (.type "ValueError") = some true
theorem eS_cell : ∀ x ∈ eS.names, x.2 ≠ .cell := by decide
theorem call_attr {o e : Expr} {name : Str} {apos pos : Pos} {env : PySem.Env} (hline : (apos.endLine == pos.line) = true) (hs : starEach [e] env = [(false, eval e env)]) : eval (.Call (.Attribute o name apos) [e] [] pos) env = (do
      let ov ← attributeBase o name env (eval o env)
      standAt apos.atName
      let (f, first) ← holding [ov] (getMethod ov name (do return (← importBound o env).getD true))
      callWith pos f first (backTo pos (starEach [e] env)) []) := by
  show (do
    let ov ← attributeBase o name env (eval o env)
    standAt apos.atName
    methodCall o name apos pos env ov ([e].length + ([] : List Keyword).length) (backTo pos (starEach [e] env)) (backToKw pos (keywordEach [] env))) = _
  have hform : methodCallForm ([e].length + ([] : List Keyword).length) (backTo pos (starEach [e] env)) (backToKw pos (keywordEach [] env)) = true := by rw [hs]; rfl
  unfold methodCall
  rw [hform]
  have hpos : methodCallPos true o env apos pos = pure pos := by unfold methodCallPos; simp [hline]
  rw [hpos]
  rfl
theorem sz1 (v : Value) : [v].length ≤ sizeLine := by
  rw [sizeLine_eq]
  exact (by decide : 1 ≤ 16777216)
theorem in_but {K : Frag} {h h' : Heap} {x : Addr} (X : K.In h) (hx : K.lookup x = none) (k : ∀ b o, b ≠ x → h.get? b = some o → h'.get? b = some o) : K.In h' := fun a o e =>
  k a o (fun z => by rw [z, hx] at e; cases e) (X a o e)
/-- what is left of an exception that was fresh -/
structure ErrEnd (h h' : Heap) (x C dx t1 : Addr) (v : Value) : Prop where
  keep : ∀ b o, b ≠ x → h.get? b = some o → h'.get? b = some o
  obj : h'.get? x = some { cls := .ref C, dict := some dx, data := .fields #[.ref t1, .none, .none, .none, .bool false, .none] }
  dbig : h.objs.size ≤ dx
  dne : dx ≠ x
  ns : h'.Ns1 dx (fun y => if y = "at" then some v else none)
structure ErrMade (h h' : Heap) (e C d : Addr) (v : Value) : Prop where
  keep : ∀ b o, h.get? b = some o → h'.get? b = some o
  new : h.objs.size ≤ e
  obj : ∃ oe vs, h'.get? e = some oe ∧ oe.cls = .ref C ∧ oe.dict = some d ∧ oe.data = .fields vs ∧ vs[1]? = some .none
  dbig : h.objs.size ≤ d
  dne : d ≠ e
  ns : h'.Ns1 d (fun y => if y = "at" then some v else none)
section
variable {prog : Program} {w : World} {A : Around} {E : Value → Shared → Prop} {R : Result → Shared → Prop} {s : Shared} {K : Frag} {mg mb : Str → Option Value} {D C fI : Addr}
theorem ld_loc {env : PySem.Env} {m : Str → Option Value} {x : Str} {pos : Pos} {v : Value} {Q : Value → Shared → Prop} (hn : s.heap.Ns env.locals m) (hv : m x = some v) (h : Q v s) (hk : env.scope.kind = .function) (hl : env.kindOf x = some .local) (hd : (x == ("__debug__" : Str)) = false) :
    wpAny (model prog w) A (eval (.Name x pos) env) Q E s := wpAny_Name (wpAny_loadName_local hk hl hn hv h) hd
theorem err_init (B : ErrB prog K mg D fI) (T : ErrC K D fI C) {x t0 : Addr} {v : Value} (X : K.In s.heap) (G : s.heap.Ns mainGlobals mg) (Bn : s.heap.Ns builtinsNs mb) (hb : mb "super" = bootBuiltins "super") (hlim : s.heap.NoLimit)
    (hx : s.heap.get? x = some (HandSPX.excO C t0)) (hnx : K.lookup x = none) (hgx : x ≠ mainGlobals) (hbx : x ≠ builtinsNs) (hroom : A.depth < recursionLimit) (hq : ∀ h' tk dx t1, ErrEnd s.heap h' x C dx t1 v → R (.ok (.ret .none)) { s with heap := h', toks := tk }) :
    codeAny (model prog w) A (.call (.ref fI) ⟨[.ref x, v], []⟩) R s := by
  obtain ⟨oc, od, q, doc, pm, an, cda, ct, cc, osl, p1, p2, q1, q2, q3, q4, q5, q6, q7, q8, q9, q10, hline, ho, hcd, ⟨ccl, cdd, vs, ccs, file, tf, hco, hvs, hfile⟩, cl, cld, csl, hce⟩ := B.fn
  obtain ⟨cdD, hD⟩ := B.cls
  obtain ⟨nm, qn, N, bs, bm, sn, sub, ab, col, dd, k0, k1, k2, k3, k5, hC, hbm⟩ := T.cls
  have hcl : clsIn K C = some { name := nm, bases := bs, mro := .ref C :: bm, ns := N, qualname := qn, hasDict := true, slotNames := sn, subclasses := sub, abstract := ab, collection := col, hasDel := false } := by unfold clsIn; rw [hC] <;> rfl
  refine ks_codeAny_call_defAt (fd := ksFn "__init__" q (eA p1 p2) (eB q1 q2 q3 q4 q5 q6 q7 q8 q9 q10) eS .none .none doc pm an (.ref cda) ct cc) (body := eB q1 q2 q3 q4 q5 q6 q7 q8 q9 q10) (binds := [("self", .ref x), ("at", v)]) hroom (X _ _ ho) rfl hlim (codeRec_of X hcd) rfl
    (BindsTo.of_eq (by first | rfl | with_unfolding_all rfl)) eS_cell (fun y hy => by rcases List.mem_cons.mp hy with rfl | hy; rfl; rw [List.mem_singleton.mp hy]; rfl) (fun h₁ hn k => ?_) rfl rfl rfl
  have X₁ : K.In h₁ := X.keeps k
  have hx₁ := k _ _ hx
  have hxL : s.heap.objs.size ≠ x := Nat.ne_of_gt (Heap.lt_size hx)
  have I₁ : InstAt h₁ x (HandSPX.excO C t0) C none := ⟨hx₁, rfl, rfl, trivial⟩
  obtain ⟨hh, g, d, t, os⟩ := s
  obtain ⟨oD, hD1, hD2⟩ : ∃ oD, h₁.get? D = some oD ∧ oD.data = .cls cdD := by
    unfold clsIn at hD
    split at hD
    · rename_i ho'
      cases hD
      exact ⟨_, X₁ _ _ ho', rfl⟩
    · cases hD
  refine ks_wpAt_execs_cons (ks_wpAt_Expr_any (ks_wpAt_MethodCall ?_ (call_attr hline rfl)))
  refine ks_wpAt_super_base (ar := { arg := "self", annotation := none, pos := p1 }) rfl rfl (by decide) rfl (X₁ _ _ ho) rfl rfl rfl (X₁ _ _ hco) rfl hvs hfile B.top ?_
  refine ks_loadName_global rfl rfl (loadGlobal_builtin (G.keeps k) B.sup (Bn.keeps k) (hb.trans (by first | boot_by_name | rfl | kernel_rfl)) ⟨rfl, ?_⟩)
  refine wpAny_loadName_free rfl rfl rfl ⟨_, X₁ _ _ hce, rfl⟩ ?_
  refine wpAny_loadName_local (v := .ref x) rfl rfl hn (by first | rfl | with_unfolding_all rfl | kernel_rfl) ?_
  refine ks_wpAny_isType_cls hD1 hD2 ⟨rfl, ?_⟩
  refine ks_wpAny_call_super hD1 hD2 I₁.at_ I₁.cls (fun c e => ?_) (looks_mroIn X₁ T.sub) (fun h₂ e₂ k₂ => ?_)
  · cases e
  have X₂ : K.In h₂ := X₁.keeps k₂
  have hx₂ := k₂ _ _ hx₁
  have I₂ : InstAt h₂ x (HandSPX.excO C t0) C none := ⟨hx₂, rfl, rfl, trivial⟩
  have hsup := T.sup
  unfold ks_superIn at hsup
  rw [hcl] at hsup
  refine kxs_getMethod kxs_ValueError e₂ (looks_opaque X₂ B.opq) (l₀ := .ref C :: bm) (fun A Q E s k q => wpAny_bind ((looks_clsIn X₂ hcl) A _ E s k (wpAny_pure q))) rfl X₂ hsup (I₂.type.andThen (looks_subIn X₂ T.ve)) (ks_ne X₂ I₂ hcl) (by decide) ?_
  have k₃ : ∀ b o, h₂.get? b = some o → (h₂.push (kxs_mw "ValueError.__init__" x)).get? b = some o := fun b o e => Heap.get?_push_of_some _ e
  have hu : (h₂.push (kxs_mw "ValueError.__init__" x)).get? h₂.objs.size = some (kxs_mw "ValueError.__init__" x) := Heap.get?_push_at rfl rfl
  generalize h₂.push (kxs_mw "ValueError.__init__" x) = h₃ at k₃ hu
  generalize h₂.objs.size = u at hu
  have kk : ∀ b o, h₁.get? b = some o → h₃.get? b = some o := fun b o e => k₃ _ _ (k₂ _ _ e)
  have hx₃ := k₃ _ _ hx₂
  have X₃ : K.In h₃ := X₂.keeps k₃
  have hn₃ := hn.keeps kk
  refine kxs_callWith (i := "ValueError.__init__") (x := x) rfl (evalArgs_plain (Calls.spliced_cons (ld_loc (v := v) hn₃ (by first | rfl | with_unfolding_all rfl | kernel_rfl) (Calls.spliced_nil ⟨hu, ?_⟩) rfl rfl (by decide))))
  refine wpAny_call (codeAny_of_tree ?_)
  show wpAny _ _ (callAny (.ref u) ⟨[v], []⟩) _ _ _
  simp only [callAny]
  refine wpAny_bind (wpAny_load hu ?_)
  simp only [kxs_mw, show (Value.type "method-wrapper" == Value.type "method" || Value.type "method-wrapper" == Value.type "builtin_function_or_method" || Value.type "method-wrapper" == Value.type "method-wrapper") = true by decide, if_true]
  refine KFB.if_so (by decide) ?_
  refine wpAny_bind (check_bound_init F.excBase_ValueError.toExcCallFacts (X₃ _ _ hC) hx₃ rfl ?_)
  refine wpAny_bind (wpAny_pure (wpAny_pure ?_))
  refine ⟨plainId_quiet F.excBase_ValueError.init.plain _, codeAny_builtin F.excBase_ValueError.initEntry ?_⟩
  refine exc_init_tree (cls := .ref C) (t0 := t0) (dv := none) (c2 := .none) (c3 := .none) (b4 := .bool false) hx₃ (sz1 v) fun h₄ k₄ hx₄ ht₄ => ?_
  have X₄ : K.In h₄ := in_but X₃ hnx k₄
  have keep4 : ∀ b o, b ≠ x → h₁.get? b = some o → h₄.get? b = some o := fun b o ne e => k₄ b o ne (kk b o e)
  have hn₄ : h₄.Ns hh.objs.size _ := Heap.Ns.at hn₃ (fun o e => k₄ _ o hxL e)
  have hL₁ : hh.objs.size < h₁.objs.size := hn.lt
  show PySem.wpAt _ _ _ (execs _ _) _ _ _
  refine PySem.wpAt_of_wpAny (wpAny_execs_cons (plainObj_wpAny_Assign_Attribute ?_))
  refine ld_loc (v := v) hn₄ (by first | rfl | with_unfolding_all rfl | kernel_rfl) ?_ rfl rfl (by decide)
  refine ld_loc (v := .ref x) hn₄ (by first | rfl | with_unfolding_all rfl | kernel_rfl) ?_ rfl rfl (by decide)
  refine set_plain X₄ (ox := excRec (.ref C) h₃.objs.size none .none .none (.bool false)) (od := none) ⟨hx₄, rfl, rfl, trivial⟩ T.sa ?_
  refine HandSPX.exc_osa X₄ hx₄ hcl (show HandSPX.refsVE (.ref C :: bm) = true from hbm) rfl T.noN (fun h₅ tk₅ dx k₅ dn dne hx₅ hn₅ => ?_)
  show wpAny _ _ (execs _ _) _ _ _
  refine wpAny_execs_nil (hq h₅ tk₅ dx h₃.objs.size ⟨fun b o hb e => k₅ b o hb (keep4 b o hb (k b o e)), hx₅, ?_, dne, hn₅⟩)
  exact Nat.le_of_lt (Nat.lt_of_lt_of_le hn₄.lt dn)
theorem err_made (B : ErrB prog K mg D fI) (T : ErrC K D fI C) {v : Value} (X : K.In s.heap) (G : s.heap.Ns mainGlobals mg) (Bn : s.heap.Ns builtinsNs mb) (hb : mb "super" = bootBuiltins "super") (hlim : s.heap.NoLimit) (hroom : A.depth + 1 < recursionLimit)
    (hq : ∀ h' tk e d, ErrMade s.heap h' e C d v → R (.ok (.ret (.ref e))) { s with heap := h', toks := tk }) : codeAny (model prog w) A (.call (.ref C) ⟨[v], []⟩) R s := by
  obtain ⟨nm, q, N, bs, bm, sn, sub, ab, col, dd, k0, k1, k2, k3, k5, hC, hbm⟩ := T.cls
  obtain ⟨hp, g, dr, tk, os⟩ := s
  have k : ∀ b o, hp.get? b = some o → ((hp.push (kdv_tup [v])).push (HandSPX.excO C hp.objs.size)).get? b = some o := fun b o e => Heap.get?_push_of_some _ (Heap.get?_push_of_some _ e)
  have hget : ((hp.push (kdv_tup [v])).push (HandSPX.excO C hp.objs.size)).get? (hp.objs.size + 1) = some (HandSPX.excO C hp.objs.size) := by heap_get
  have above : ∀ a, a < hp.objs.size → hp.objs.size + 1 ≠ a := fun a lt z => by
    rw [← z] at lt
    exact absurd (Nat.lt_of_succ_lt lt) (Nat.lt_irrefl _)
  have hnx : K.lookup (hp.objs.size + 1) = none := by
    cases e : K.lookup (hp.objs.size + 1) with
    | none => rfl
    | some o => exact (above _ (Heap.lt_size (show hp.get? (hp.objs.size + 1) = some o from X _ _ e)) rfl).elim
  refine HandSPX.call_own F.excBase_ValueError (fun Y => HandSPX.refsVE_contains Y bm hbm) (X _ _ hC) (looks_findIn X T.iC) (fun self => bind_fn X self B.tC) (sz1 v) ?_
  refine err_init (s := ⟨(hp.push (kdv_tup [v])).push (HandSPX.excO C hp.objs.size), g, dr, tk, os⟩) B T (X.keeps k) (G.keeps k) (Bn.keeps k) hb (hlim.keeps k) hget hnx (above _ G.lt) (above _ Bn.lt) ?_ fun h' tk' dx t1 ⟨k', hx, dn, dne, hns⟩ => ?_
  · show A.depth + 1 < recursionLimit
    exact hroom
  · have old : ∀ b o, hp.get? b = some o → h'.get? b = some o := fun b o e => k' b o (fun z => above _ (Heap.lt_size e) z.symm) (k b o e)
    have z : hp.objs.size + 1 + 1 ≤ dx := by
      first
        | (simpa only [Heap.size_push] using dn)
        | exact dn
    exact ⟨rfl, hq h' tk' (hp.objs.size + 1) dx ⟨old, Nat.le_succ _, ⟨_, _, hx, rfl, rfl, rfl, rfl⟩, Nat.le_trans (Nat.le_trans (Nat.le_succ _) (Nat.le_succ _)) z, dne, hns⟩⟩
end
end Rt
end
section
set_option linter.all false
set_option autoImplicit false
set_option Elab.async false
set_option maxRecDepth 100000
set_option maxHeartbeats 2000000
namespace Rt
open PySem PySem.Spec PyProof.Rows L2
/-! ### several clauses, each with a name -/
abbrev HdR := Value × Nat × (Addr → Value → Option Addr → TS)
/-- the wish, clause by clause -/
def wAsM (K : PySem.W.Frag) (Wo : WX) (D : Ends) (n : Nat) : List HdR → WX
  | [] => Wo
  | (c, i, ts) :: r => fun cls d σ H => ∃ b, PySem.W.exmOne K cls c = some b ∧
      (b = true → ∀ a, H a = none → σ.length = n → ts a cls d ⟨fun σ2 H2 => D.nx (σ2.set i none) H2, D.rt, fun σ2 H2 => D.bk (σ2.set i none) H2, fun σ2 H2 => D.ct (σ2.set i none) H2⟩ (σ.set i (some (.ref a))) H) ∧ (b = false → wAsM K Wo D n r cls d σ H)
inductive HdsAs (X : Cx) : List ExceptHandler → List HdR → Prop
  | nil : HdsAs X [] []
  | cons {x n : Str} {c : Value} {i : Nat} {ts : Addr → Value → Option Addr → TS} {b0 : Stmt} {suite : List Stmt} {np hp : Pos} {hds : List ExceptHandler} {l : List HdR} (hc : Names X x c) (hi : X.N[i]? = some n) (hl : X.env.kindOf n = some .local)
      (hsu : ∀ (a : Addr) (oe : Obj) (cls : Value) (d : Option Addr) (pn : List (Addr × Obj)), Zc cls d oe → (∃ vs, oe.data = .fields vs) → PSs (X.suite a ((a, oe) :: pn)) (b0 :: suite) (ts a cls d)) (r : HdsAs X hds l) :
      HdsAs X (.ExceptHandler (some (.Name x np)) (some n) (b0 :: suite) hp :: hds) ((c, i, ts) :: l)
section
variable {X : Cx} {body : List Stmt} {h0 : ExceptHandler} {hds : List ExceptHandler} {l : List HdR} {pos : Pos} {tb : WX → TS} {Wo : WX}
/-- an exception on the ground, looked at by the clauses -/
theorem clauses {D : Ends} {pins : List (Addr × Obj)} {a : Addr} {B : Heap} {σ1 : L2.St} {H1 : Hp} {cls : Value} {d : Option Addr} {sI s' : Shared} {h3 : Heap} (hs : X.stack = X.env :: X.outer) (hf : X.env.frame = some X.env.locals) (hN : X.N.Nodup) (tk : Takes X Wo) (ok : X.Ok) (J : Inv X pins σ1 H1 sI)
    (nb : ∀ b o, sI.heap.get? b = some o → b ∉ frs X.stack → B.get? b = some o) (os : s'.os = sI.os) (ag : AllBare s'.gens) (na : H1 a = none) (up3 : sI.heap.UpToSlots h3) (fl : HandSPX.FlyingZ B (X.env :: X.outer) a (Zc cls d) h3) (nL : a ≠ X.env.locals) (nF : a ∉ X.fs) :
    ∀ {hds : List ExceptHandler} {l : List HdR}, HdsAs X hds l → wAsM X.K Wo D X.N.length l cls d σ1 H1 → wpAny (model X.prog X.w) X.A (handleBy (.ref a) X.env hds) (SP X pins D) X.xe { s' with heap := h3 } := by
  have J3 : Inv X pins σ1 H1 { s' with heap := h3 } := J.landed nb fl.1 up3 os ag
  obtain ⟨oe3, vs3, he3, hz3, hd3⟩ := fl.there
  have S3 := J3.suite he3 hd3 na nL nF
  intro hds l hk
  induction hk with
  | nil =>
    intro w
    refine wpAny_handleBy_nil ?_
    obtain ⟨_, _, _, oe, vs, T, _, _, he, _, hd, h1, _⟩ := id fl
    unfold PySem.passOn
    refine wpAny_bind (wpAny_field he hd h1 ?_)
    rw [if_neg (show ¬ ((Value.ref T == Value.none) = true) from by simp)]
    have last : wpAny (model X.prog X.w) X.A (setFlight (.ref a) X.env.frame) (fun _ s4 => wpAny (model X.prog X.w) X.A (throw (.ref a) : Sem Flow) (SP X pins D) X.xe s4) X.xe { s' with heap := h3 } := by
      rw [hf]
      exact HandSPX.setFlight_upZ fl fun h4 hh up4 => wpAny_throw (tk _ _ ⟨a, B, sI, pins, σ1, H1, cls, d, rfl, J, nb, up3.trans up4, .inr (.inr (by rw [hs]; exact hh)), na, os, ag, w⟩)
    first
      | exact wpAny_bind (wpAny_pure (wpAny_bind last))
      | exact wpAny_bind last
  | @cons x n c i ts b0 suite np hp hds l hc hi hl hsu r ih =>
    intro ⟨b, q1, yes, no⟩
    refine wpAny_handleBy_cons (codeAny_handlers_test ?_) (by intro q; cases q)
    have mt := PySem.W.exm_one (M := model X.prog X.w) J3.kIn (fun A Q E s k q => wpAny_typeOf_ref (k _ _ he3) (by rw [hz3.1]; exact q)) q1
    have name : ∀ {Q : Value → Shared → Prop} {E : Value → Shared → Prop}, Q c { s' with heap := h3 } → wpAny (model X.prog X.w) (X.A.mark (some (.ref a))) (eval (.Name x np) X.env) Q E { s' with heap := h3 } := fun {Q E} q => by
      obtain ⟨g1, g2, g3 | ⟨g3, g4, g5⟩⟩ := hc
      · exact ld_glob (X := X.suite a ((a, oe3) :: (X.pn ++ pins))) S3 g1 g3 q g2
      · exact ld_blt (X := X.suite a ((a, oe3) :: (X.pn ++ pins))) S3 g1 g3 g4 q g5 g2
    refine name (mt.here ?_)
    cases b with
    | false => exact ih (no rfl)
    | true =>
      refine codeAny_handlers_suite_as (HandSPX.lands_againZ fl fun h4 fl4 up4 => ?_)
      have J4 : Inv X pins σ1 H1 { s' with heap := h4 } := J.landed nb fl4.1 (up3.trans up4) os ag
      obtain ⟨oe4, vs4, he4, hz4, hd4⟩ := fl4.there
      refine store_ok (X := X.suite a ((a, oe4) :: (X.pn ++ pins))) (v := .ref a) (J4.suite he4 hd4 na nL nF) hN hi (.inl hl) rfl (fun s5 S5 => ?_) (.inr hl)
      have gone : ∀ {σ6 : L2.St} {H6 : Hp} {s6 : Shared} {Q : Shared → Prop}, Inv (X.suite a ((a, oe4) :: (X.pn ++ pins))) [] σ6 H6 s6 → (∀ s7, Inv X pins (σ6.set i none) H6 s7 → Q s7) →
          wpAny (model X.prog X.w) X.A (do bindName X.env n .none; unbindBehindTheSuite X.env n hp) (fun _ s7 => Q s7) X.xe s6 := fun S6 hq => gone_ok (S6.unsuite ok) hN hi hl hq
      refine wpAny_mono ((hsu a oe4 cls d (X.pn ++ pins) hz4 ⟨_, hd4⟩).run [] s5 _ H1 _ S5 (yes rfl a na J.len)) (fun f s6 hsp => ?_) (fun _ _ z => z.elim)
      cases f with
      | ret u => exact let ⟨_, _, _, S6, r6, q6⟩ := hsp; gone S6 fun s7 J7 => ⟨_, _, _, J7, r6, q6⟩
      | next => exact let ⟨_, _, S6, q6⟩ := hsp; gone S6 fun s7 J7 => ⟨_, _, J7, q6⟩
      | brk => exact let ⟨_, _, S6, q6⟩ := hsp; gone S6 fun s7 J7 => ⟨_, _, J7, q6⟩
      | cont => exact let ⟨_, _, S6, q6⟩ := hsp; gone S6 fun s7 J7 => ⟨_, _, J7, q6⟩
theorem ps_try_asM (hs : X.stack = X.env :: X.outer) (hf : X.env.frame = some X.env.locals) (hN : X.N.Nodup) (tk : Takes X Wo)
    (hb : ∀ (W : WX) (pn : List (Addr × Obj)) (xe : Value → Shared → Prop), Takes (X.tr pn xe) W → PassesOwn (model X.prog X.w) X.A X.env xe → PSs (X.tr pn xe) body (tb W)) (hh : HdsAs X (h0 :: hds) l) :
    PS X (.Try body (h0 :: hds) [] [] pos) (fun D σ H => tb (wAsM X.K Wo D X.N.length l) D σ H) := by
  refine ⟨fun pins s σ H D I h => wpAny_Try_except ?_⟩
  have ok := I.ok
  have run := (hb (wAsM X.K Wo D X.N.length l) (X.pn ++ pins) (fun e s1 => wpAny (model X.prog X.w) X.A (noteFrame e X.env) (fun _ s2 => wpAny (model X.prog X.w) X.A (setFlight e none) (fun _ s3 =>
    wpAny (model X.prog X.w) X.A (handleBy e X.env (h0 :: hds)) (SP X pins D) X.xe s3) X.xe s2) X.xe s1) (fun u s' caught => ?_) PassesOwn.looking).run [] s σ H D (I.toTry _) h
  · refine wpAny_mono run (fun f s1 hsp => ?_) fun _ _ z => z
    cases f with
    | next => exact let ⟨σ2, H2, J2, q⟩ := hsp; wpAny_execs_nil ⟨σ2, H2, J2.ofTry ok, q⟩
    | brk => exact let ⟨σ2, H2, J2, q⟩ := hsp; ⟨σ2, H2, J2.ofTry ok, q⟩
    | cont => exact let ⟨σ2, H2, J2, q⟩ := hsp; ⟨σ2, H2, J2.ofTry ok, q⟩
    | ret u => exact let ⟨v, σ2, H2, J2, r, q⟩ := hsp; ⟨v, σ2, H2, J2.ofTry ok, r, q⟩
  · obtain ⟨a, B, sI, pins', σ1, H1, cls, d, rfl, J', nb, up, sky, na, os, ag, w⟩ := caught
    have sky2 : Sky B (X.env :: X.outer) a (Zc cls d) X.env.locals s'.heap := by rw [← hs]; exact sky
    show wpAny (model X.prog X.w) X.A (noteFrame (.ref a) X.env) _ _ _
    refine Sky.land Zc.steady (by rw [ok.frames, hs]) hf sky2 fun h3 fl up3 => ?_
    have J := J'.ofTry ok
    obtain ⟨oe, vs, he, _, hd⟩ := fl.there
    have notFr : a ∉ frs (X.env :: X.outer) := fun hm => by
      obtain ⟨_, o, e, nf⟩ := fl.2.2.1.mem hm
      rw [he] at e; cases e
      exact nf _ hd
    refine clauses hs hf hN tk ok J nb os ag na (up.trans up3) fl (fun z => notFr (List.mem_filterMap.mpr ⟨X.env, List.mem_cons_self, by rw [hf, z]⟩)) (fun hm => ?_) hh w
    obtain ⟨e, he, q⟩ := List.mem_filterMap.mp hm
    exact notFr (List.mem_filterMap.mpr ⟨e, List.mem_cons_of_mem _ he, q⟩)
end

/-! ### raise C(e) -/
theorem relO_at {v : V} {v' : Value} (r : RelV v v') (f : Str) : RelO (List.lookup f [(("at" : Str), v)]) (if f = "at" then some v' else none) := by
  by_cases hw : f = "at"
  · subst hw
    have q : List.lookup ("at" : Str) [(("at" : Str), v)] = some v := by simp [List.lookup]
    rw [if_pos rfl, q]
    exact r
  · have qw : (f == ("at" : Str)) = false := by simpa using hw
    have q2 : List.lookup f [(("at" : Str), v)] = none := by simp [List.lookup, qw]
    rw [if_neg hw, q2]
    trivial
section
variable {fa ca : Nat → Addr} {X : Cx} {D0 fI C : Addr} {a e : Expr} {da : Ex} {pos : Pos}
def tMkErr (C : Addr) (ta : TA) : L2.St → Hp → XK → Prop := fun σ H Q => ta σ H fun vs H1 => ∃ v, vs = [v] ∧ ∀ d, H1 d = none → Q (.ref C) (some d) (upd H1 d (.xd [(("at" : Str), v)]))
theorem pmk_err {x : Str} {p : Pos} {ta : TA} (B : ErrB X.prog X.K X.mg D0 fI) (T : ErrC X.K D0 fI C) (hm : X.mg x = some (.ref C)) (hr : X.A.depth + 1 < recursionLimit) (ha : PA X [a] ta) (hg : Gl X x) (hdb : (x == ("__debug__" : Str)) = false) (hst : notStar a = true) :
    PMk X (.Call (.Name x p) [a] [] pos) (tMkErr C ta) := by
  intro pins s σ H Q I h
  refine wpAny_Call_Name_kw (ld_glob I hg hm ?_ hdb)
  refine PySem.W.callWith_K (h₀ := X.base) I.ok.mod.kin T.kC (thn (ha.run pos pins s σ H _ I h) fun us s1 hh => ?_) (star_cons hst) rfl
  obtain ⟨vs, H1, I1, r1, v, ev, q1⟩ := hh
  subst ev
  refine ⟨I1.kIn, ?_⟩
  obtain ⟨u, rfl, rv⟩ := r1.one
  show wpAny _ _ (call (.ref C) [u]) _ _ _
  obtain ⟨mb, b1, b2⟩ := I1.mod.blt
  have lim := I1.nolimit
  have G := I1.mod.glob.keeps I1.bk
  have Bn := b1.keeps I1.bk
  obtain ⟨hp, g, dr, tk, os⟩ := s1
  refine wpAny_call (err_made B T I1.kIn G Bn (b2 _ (by decide)) lim (by show X.A.in1.depth + 1 < _; exact hr) fun h' tk' x d M => ?_)
  show MkP X pins σ Q (.ref x) ⟨h', g, dr, tk', os⟩
  obtain ⟨oe, fv, hoe, hc, hd, hdat, h1⟩ := M.obj
  obtain ⟨G', g1, g2⟩ := restrict h' fun b => decide (b ≠ x)
  have gk : ∀ b, b ≠ x → G'.get? b = h'.get? b := fun b hb => g1 b (decide_eq_true hb)
  have gx : G'.get? x = none := g2 x (by simp)
  have old : ∀ b o, hp.get? b = some o → G'.get? b = some o := fun b o q => (gk b (Nat.ne_of_lt (Nat.lt_of_lt_of_le (Heap.lt_size q) M.new))).trans (M.keep b o q)
  have ob : ObjOk X.prog X.w (upd H1 d (.xd [(("at" : Str), v)])) G' d (.xd [(("at" : Str), v)]) := ⟨_, M.ns.at (fun o q => (gk d M.dne).trans q), fun f => relO_at rv f⟩
  have J : Inv X pins σ (upd H1 d (.xd [(("at" : Str), v)])) ⟨G', g, dr, tk', os⟩ := I1.laid (t' := tk') old M.dbig ob
  refine ⟨x, oe, fv, ⟨G', g, dr, tk', os⟩, _, .ref C, some d, rfl, J, fun b o q => ?_, gx, hoe, ⟨hc, hd⟩, hdat, h1, ?_, rfl, I1.bare, raises_own T.exC T.tyC, q1 d (I1.hok.fresh M.dbig)⟩
  · by_cases hb : b = x
    · have q' : G'.get? b = some o := q
      rw [hb, gx] at q'; cases q'
    · exact (gk b hb).symm.trans q
  · rw [upd_ne (Ne.symm M.dne)]
    exact I1.hok.fresh M.new
theorem sndS_raise {x : Str} {p pos2 : Pos} {c : Nat} (B : ErrB X.prog X.K X.mg D0 fI) (T : ErrC X.K D0 fI (ca c)) (hm : X.mg x = some (.ref (ca c))) (hc : X.calm = true) (hr : X.A.depth + 1 < recursionLimit) (hg : Gl X x) (hdb : (x == ("__debug__" : Str)) = false) (hst : notStar a = true) (ha : Snd fa ca X a da) :
    SndS fa ca X (.Raise (some (.Call (.Name x p) [a] [] pos)) none pos2) (sRaise c da) := fun W tk H0 U N H σ E D x p => by
  refine of_ps (ps_raise hc tk (pmk_err B T hm hr (pa_cons (peE (e := a)) pa_nil (star_cons hst)) hg hdb hst)) ?_
  show tE X a σ H _
  refine ha W tk N H σ E _ x.sr ?_
  have p' : PostS fa ca X.K W H0 U D (hide H N) ((da E).to E fun r => match r.d with | .int i => .ex c (.int i) E | _ => .bad) := p
  refine (p'.to x.fs.sub).imp fun r _ q v H1 g rr => ?_
  have k1 := rr.kid x.sr g
  revert q k1
  cases r.d <;> intro q k1 <;> simp only [] at q <;> try exact q.elim
  rename_i i
  have ei := k1.int
  refine ⟨v, rfl, fun d nd => q d σ _ ((x.fs.sub.trans g).trans (sub_upd nd)) ⟨i, rfl, (x.fs.sub.trans g).none nd, ?_⟩⟩
  rw [upd_same, ei]

/-! ### e.at in a clause -/
theorem suite_at {a : Addr} {oe : Obj} {C : Addr} {dd : Addr} {pn : List (Addr × Obj)} {n : Str} {i : Nat} {p1 p2 : Pos} {σ : L2.St} {H : Hp} {k : Int} {Q : VK} (T : ErrC X.K D0 fI C) (hz : Zc (.ref C) (some dd) oe) (hf : ∃ vs, oe.data = .fields vs)
    (hN : X.N[i]? = some n) (hl : X.env.scope.names.lookup n = some .local) (hd : (n == ("__debug__" : Str)) = false) (hcd : (n == ("__classdict__" : Str)) = false) (e1 : σ[i]? = some (some (.ref a))) (e2 : H dd = some (.xd [(("at" : Str), .int k)])) (q : Q (.int k) H) :
    tE (X.suite a ((a, oe) :: pn)) (.Attribute (.Name n p1) "at" p2) σ H Q := by
  refine of_pe (pe_xf (C := C) ⟨T.ga, T.gg, T.exC, T.hdC⟩ T.noN hz hf (pe_var (X := X.suite a ((a, oe) :: pn)) (i := i) hN (.inl hl) hd hcd) rfl) ?_
  exact ⟨.ref a, e1, rfl, rfl, dd, _, .int k, rfl, e2, by simp [List.lookup], q⟩
theorem hide_new {H : Hp} {U : Addr → Prop} {t : Addr} {o : HO} (n : ¬ U t) : hide (upd H t o) U t = some o := by rw [hide_at n, upd_same]
/-- what a clause returns: e.at, or a pair of a word and it -/
inductive HdF | at | word (w : Str)
def HdF.val : HdF → D → D
  | .at, a => a
  | .word w, a => .tup [.str w, a]
def HdF.ok (f : HdF) (n : Str) : Stmt → Bool
  | .Return (some (.Attribute (.Name m _) "at" _)) _ => (match f with | .at => m == n | _ => false)
  | .Return (some (.Tuple [.Constant (.str w) _ _, .Attribute (.Name m _) "at" _] _ _)) _ => (match f with | .word v => (w == v) && (m == n) | _ => false)
  | _ => false
theorem suite_ret {a : Addr} {oe : Obj} {C : Addr} {dd : Addr} {pn : List (Addr × Obj)} {n : Str} {i : Nat} {st : Stmt} {f : HdF} {σ : L2.St} {H H0 : Hp} {U : Addr → Prop} {k : Int} {D : Ends} (T : ErrC X.K D0 fI C) (hz : Zc (.ref C) (some dd) oe) (hf : ∃ vs, oe.data = .fields vs)
    (hN : X.N[i]? = some n) (hl : X.env.scope.names.lookup n = some .local) (hd : (n == ("__debug__" : Str)) = false) (hcd : (n == ("__classdict__" : Str)) = false) (e1 : σ[i]? = some (some (.ref a))) (e2 : H dd = some (.xd [(("at" : Str), .int k)])) (hok : f.ok n st = true)
    (sub : Sub H0 H) (ud : ∀ b, U b → ∃ o, H0 b = some o) (q : ∀ v H', Sub H0 H' → Rep fa X.K (hide H' U) (f.val (.int k)) v → D.rt v H') : tSs (X.suite a ((a, oe) :: pn)) [st] D σ H := by
  refine of_pss (pss_one psS) ?_
  unfold HdF.ok at hok
  split at hok
  · split at hok
    · have en := eq_of_beq hok
      subst en
      refine of_ps (ps_ret (peE (e := _))) ?_
      exact suite_at T hz hf hN hl hd hcd e1 e2 (q _ H sub (by simp [HdF.val, Rep]))
    · cases hok
  · split at hok
    · rename_i w v
      simp only [Bool.and_eq_true] at hok
      have ew := eq_of_beq hok.1
      have en := eq_of_beq hok.2
      subst ew en
      refine of_ps (ps_ret (pe_tup (pa_cons pe_str (pa_cons (peE (X := X.suite a ((a, oe) :: pn)) (e := _)) pa_nil rfl) rfl))) ?_
      show tE (X.suite a ((a, oe) :: pn)) _ σ H _
      refine suite_at T hz hf hN hl hd hcd e1 e2 ⟨by show 2 ≤ sizeLine; decide, fun t nt => q _ _ (sub.trans (sub_upd nt)) ?_⟩
      simp only [HdF.val, Rep]
      refine ⟨t, _, rfl, SqT.of (hide_new fun n => ?_), .cons_ (by simp only [Rep]) (.one (by simp only [Rep]))⟩
      obtain ⟨o, z⟩ := ud t n
      rw [sub _ _ z] at nt; cases nt
    · cases hok
  · cases hok
/-- a clause: its class, its name, what it returns -/
structure HdOk (fa ca : Nat → Addr) (X : Cx) (D0 fI : Addr) (nC : Nat) (h : ExceptHandler) (hd : Hd) : Prop where
  ok : ∃ (x n : Str) (ch i : Nat) (np hp : Pos) (st : Stmt) (f : HdF), h = .ExceptHandler (some (.Name x np)) (some n) [st] hp ∧ Names X x (.ref (ca ch)) ∧ X.N[i]? = some n ∧ X.env.scope.names.lookup n = some .local ∧ (n == ("__debug__" : Str)) = false ∧ (n == ("__classdict__" : Str)) = false ∧ f.ok n st = true ∧
    (∀ k, hd.2 (.int k) = f.val (.int k)) ∧ ∀ c, c < nC → PySem.W.exmOne X.K (.ref (ca c)) (.ref (ca ch)) = some (hd.1 c)
inductive HdsOkD (fa ca : Nat → Addr) (X : Cx) (D0 fI : Addr) (nC : Nat) : List ExceptHandler → List Hd → Prop
  | nil : HdsOkD fa ca X D0 fI nC [] []
  | cons {h : ExceptHandler} {hd : Hd} {hs : List ExceptHandler} {ds : List Hd} : HdOk fa ca X D0 fI nC h hd → HdsOkD fa ca X D0 fI nC hs ds → HdsOkD fa ca X D0 fI nC (h :: hs) (hd :: ds)
/-- the readings of the clauses -/
def hdR (ca : Nat → Addr) (X : Cx) : List (Nat × Nat × Stmt) → List HdR
  | [] => []
  | (c, i, st) :: r => (.ref (ca c), i, fun a cls d D σ H => ∀ (oe : Obj) (pn : List (Addr × Obj)), Zc cls d oe → (∃ vs, oe.data = .fields vs) → tSs (X.suite a ((a, oe) :: pn)) [st] D σ H) :: hdR ca X r
theorem hds_read {nC : Nat} {hs : List ExceptHandler} {ds : List Hd} (h : HdsOkD fa ca X D0 fI nC hs ds) (Wo : WX) (hT : ∀ c, c < nC → ErrC X.K D0 fI (ca c)) (hk : ∀ n, X.env.kindOf n = X.env.scope.names.lookup n) :
    ∃ l, HdsAs X hs (hdR ca X l) ∧ ∀ (H0 : Hp) (U : Addr → Prop) (D : Ends) (Z : Hp) (c : Nat) (x : Rt.D) (E : Env) (dd : Addr) (σ : L2.St) (H : Hp), c < nC → (∀ b, U b → ∃ o, H0 b = some o) → Sub H0 H → ExD H0 H dd x →
      PostS fa ca X.K Wo H0 U D Z (pick ds c x E) → wAsM X.K Wo D X.N.length (hdR ca X l) (.ref (ca c)) (some dd) σ H := by
  induction h with
  | nil => exact ⟨[], .nil, fun H0 U D Z c x E dd σ H hcs ud sb ed p => p dd σ H sb ed⟩
  | @cons h hd hs ds hh hr ih =>
    obtain ⟨x, n, ch, i, np, hp, st, f, rfl, hc, hi, hl, hdb, hcd, hok, hv, hm⟩ := hh
    obtain ⟨l, ok, go⟩ := ih
    refine ⟨(ch, i, st) :: l, .cons hc hi ((hk n).trans hl) (fun a oe cls d pn hz hf => ⟨fun pins s σ H D I r => r oe pn hz hf pins s I⟩) ok, fun H0 U D Z c x E dd σ H hcs ud sb ed p => ⟨hd.1 c, hm c hcs, fun yes a na len oe pn hz hf => ?_, fun no => ?_⟩⟩
    · have p' : PostS fa ca X.K Wo H0 U D Z (if hd.1 c then .rt (hd.2 x) false else pick ds c x E) := p
      rw [yes] at p'
      obtain ⟨k, rfl, e1, e2⟩ := ed
      refine suite_ret (fa := fa) (H0 := H0) (U := U) (hT c hcs) hz hf hi hl hdb hcd (List.getElem?_set_self (by rw [len]; exact (List.getElem?_eq_some_iff.mp hi).1)) e2 hok sb ud fun v H' s' rp => p' v H' s' ?_
      show Rep fa X.K (hide H' U) (hd.2 (.int k)) v
      rw [hv k]
      exact rp
    · have p' : PostS fa ca X.K Wo H0 U D Z (if hd.1 c then .rt (hd.2 x) false else pick ds c x E) := p
      rw [no] at p'
      exact go H0 U D Z c x E dd σ H hcs ud sb ed p'
theorem sndS_try {nC : Nat} {body : List Stmt} {h0 : ExceptHandler} {hs : List ExceptHandler} {ds : List Hd} {fb : Sm} (hst : X.stack = X.env :: X.outer) (hf : X.env.frame = some X.env.locals) (hN : X.N.Nodup) (hh : HdsOkD fa ca X D0 fI nC (h0 :: hs) ds) (hT : ∀ c, c < nC → ErrC X.K D0 fI (ca c)) (hk : ∀ n, X.env.kindOf n = X.env.scope.names.lookup n)
    (hb : ∀ (pn : List (Addr × Obj)) (xe : Value → Shared → Prop), PassesOwn (model X.prog X.w) X.A X.env xe → SndSs fa ca (X.tr pn xe) body fb) : SndS fa ca X (.Try body (h0 :: hs) [] [] pos) (sTry nC fb ds) := fun W tk H0 U N H σ E D x p => by
  obtain ⟨l, ok, go⟩ := hds_read hh W hT hk
  refine of_ps (ps_try_asM (tb := fun W D σ H => ∀ (pn : List (Addr × Obj)) (xe : Value → Shared → Prop), Takes (X.tr pn xe) W → PassesOwn (model X.prog X.w) X.A X.env xe → tSs (X.tr pn xe) body D σ H) hst hf hN tk (fun W pn xe tk po => ⟨fun pins s σ H D I r => r pn xe tk po pins s I⟩) ok) ?_
  intro pn xe tkB po
  refine hb pn xe po _ tkB H0 U N H σ E D x ?_
  unfold sTry at p
  cases q : fb E with
  | nx E' => rw [q] at p; exact p
  | rt d fr => rw [q] at p; exact p
  | bad => rw [q] at p; exact p
  | ex c a E' =>
    rw [q] at p
    dsimp only at p
    split at p
    · rename_i lt
      exact fun dd σ' H' sb ed => go H0 U D (hide H N) c a E' dd σ' H' lt x.fs.ud sb ed p
    · exact p.elim
end
end Rt
end
section
set_option linter.all false
set_option autoImplicit false
set_option Elab.async false
set_option maxRecDepth 100000
set_option maxHeartbeats 2000000
namespace Rt
open PySem PySem.Spec PyProof.Rows L2
/-! ### defs: called where no guard stands around (repr asks it) -/
structure FnG (P : Program) (w : World) (K : PySem.W.Frag) (mg : Str → Option Value) (base : Heap) (k : Nat) (f : Addr) (fd : FuncData) (ps : List Str) (sp : Sp) : Prop where
  len : ∀ vs H Q E, sp vs H Q E → vs.length = ps.length
  run : ∀ (A : Around) (outer : List PySem.Env) (s : Shared) (H : Hp) (args : Args) (us : List Value) (vs : List V) (Q : VK) (E : XK), Room k A → A.guards = some [] → Env0 P w K mg base A outer s H → BindsTo s fd args (ps.zip us) → Vals vs us → sp vs H Q E →
    codeAny (model P w) A (.call (.ref f) args) (CR (CX P w) outer P w H s Q E) s
theorem fnG_of {P : Program} {w : World} {K : PySem.W.Frag} {mg : Str → Option Value} {base : Heap} {k : Nat} {f : Addr} {name qual : Str} {params : Arguments} {body : List Stmt} {scope : Scope} {dV kV doc pm cdv ct oc : Value} {an od : Option Addr}
    {osl : Array (Option Value)} {N ps : List Str} {sp : Sp} (lk : K.lookup f = some ⟨oc, od, .func (PySem.W.fnOf name qual params body scope dV kV doc pm an cdv ct), osl⟩) (hcd : PySem.W.codeIn K cdv qual = true) (S : FnScope N ps scope) (len : ∀ vs H Q E, sp vs H Q E → vs.length = ps.length)
    (hbody : ∀ (A : Around) (outer : List PySem.Env) (s : Shared) (H : Hp) (vs : List V) (Q : VK) (E : XK), Room k (A.deeper (envOfC qual scope s.heap.objs.size f cdv)) → A.guards = some [] → sp vs H Q E →
      tSs (cxOf (CX P w) P w K mg base N qual scope f cdv A outer s H E) body { nx := fun _ H' => Q .non H', rt := Q } (L2.start N vs) H) :
    FnG P w K mg base (k + 1) f (PySem.W.fnOf name qual params body scope dV kV doc pm an cdv ct) ps sp where
  len := len
  run := fun A outer s H args us vs Q E hr hg e0 hb r hsp => by
    have old : ∀ b o, base.get? b = some o → s.heap.get? b = some o := fun b o e => (e0.bs b o e).1
    have KX := e0.mod.kin.keeps old
    have kinds : ∀ y ∈ ps.zip us, scope.names.lookup y.1 = some .local ∨ (scope.names.lookup y.1 = some .cell ∧ ((cellsFrom (s.heap.objs.size + 1) scope.names []).lookup y.1).isSome = true) := fun ⟨n, v⟩ hy =>
      (S.par n (List.of_mem_zip hy).1).imp id fun q => ⟨q, PySem.W.cellsFrom_some _ _ _ (.inl q)⟩
    refine codeAny_call_function hr.depth (KX _ _ lk) rfl S.co S.gen rfl (PySem.W.codeRec_of KX hcd) (hb _ _ _ _ ?_)
    refine wpAny_newFunctionEnv_cells S.kind kinds fun env he s1 x => ?_
    subst he
    refine ⟨(e0.mod.nolimit.keeps old).keeps x.toInCall.keep, codeAny_func ?_⟩
    have I := inv_start (CX := CX P w) (base := base) (E := E) S hr.hd e0 (len _ _ _ _ hsp) r x
    refine wpAny_mono (hbody A outer s H vs Q E (hr.deeper _) hg hsp [] s1 I) (fun fl s' hs => ?_) fun e s' hs => hs
    cases fl with
    | ret u => exact let ⟨v, _, H', J, rv, q⟩ := hs; ⟨v, H', J.os, J.bare, J.base, J.hok, rv, q⟩
    | next => exact let ⟨_, H', J, q⟩ := hs; ⟨V.non, H', J.os, J.bare, J.base, J.hok, rfl, q⟩
    | brk => exact let ⟨_, _, _, q⟩ := hs; q.elim
    | cont => exact let ⟨_, _, _, q⟩ := hs; q.elim
/-- what a def does, as its denotation tells -/
def PostF (fa ca : Nat → Addr) (K : PySem.W.Frag) (U : Addr → Prop) (H : Hp) (Q : VK) (E : XK) : R (D × Bool) → Prop
  | .ok p => ∀ v H', Sub H H' → RetR fa K U H H' v p.1 p.2 → Q v H'
  | .ex c a => ∀ dd H', Sub H H' → ExD H H' dd a → E (.ref (ca c)) (some dd) H'
  | .bad => False
def spF (fa ca : Nat → Addr) (K : PySem.W.Frag) (F : Fn) (n : Nat) : Sp := fun vs H Q E =>
  ∃ (U : Addr → Prop) (ds : List D), (∀ b, U b → ∃ o, H b = some o ∧ Mb o) ∧ RepL fa K (hide H U) ds vs ∧ ds.length = n ∧ PostF fa ca K U H Q E (F ds)
theorem begin_get {n : Nat} {ds : List D} {i : Nat} {d : D} {b : Bool} (h : (begin_ n ds)[i]? = some (some (d, b))) : b = false ∧ ds[i]? = some d := by
  unfold begin_ at h
  by_cases hi : i < ds.length
  · rw [List.getElem?_append_left (by simpa using hi), List.getElem?_map] at h
    cases e : ds[i]? with
    | none => rw [e] at h; cases h
    | some x => rw [e] at h; cases h; exact ⟨rfl, rfl⟩
  · rw [List.getElem?_append_right (by simpa using hi), List.getElem?_replicate] at h
    split at h <;> cases h
theorem start_get {N : List Str} {vs : List V} {i : Nat} {v : V} (h : vs[i]? = some v) : (L2.start N vs)[i]? = some (some v) := by
  unfold L2.start
  have hi := (List.getElem?_eq_some_iff.mp h).1
  rw [List.getElem?_append_left (by simpa using hi), List.getElem?_map, h]
  rfl
/-- the state at a def's entry -/
theorem fx_start {fa : Nat → Addr} {K : PySem.W.Frag} {H : Hp} {U : Addr → Prop} {N : List Str} {ds : List D} {vs : List V} (mb : ∀ b, U b → ∃ o, H b = some o ∧ Mb o) (r : RepL fa K (hide H U) ds vs) (hn : ds.length ≤ N.length) :
    Fx fa K H U U H (L2.start N vs) (begin_ N.length ds) := by
  have l := r.length
  refine ⟨⟨?_, mb, fun i d e => ?_, fun i d e => ?_, fun i j d d' a e1 => ?_⟩, ⟨Sub.refl _, fun b n => n, fun b n => ?_, fun i d a e1 => ?_⟩⟩
  · unfold L2.start begin_
    simp [l]
  · obtain ⟨_, q⟩ := begin_get e
    obtain ⟨v, q1, q2⟩ := r.get q
    exact ⟨v, start_get q1, q2⟩
  · exact Bool.noConfusion (begin_get e).1
  · exact Bool.noConfusion (begin_get e1).1
  · obtain ⟨o, e, _⟩ := mb b n
    exact ⟨o, e⟩
  · exact Bool.noConfusion (begin_get e1).1
/-- a def of the table, by its body -/
theorem fnG_body {fa ca : Nat → Addr} {P : Program} {w : World} {K : PySem.W.Frag} {mg : Str → Option Value} {base : Heap} {k : Nat} {f : Addr} {name qual : Str} {params : Arguments} {body : List Stmt} {scope : Scope} {dV kV doc pm cdv ct oc : Value} {an od : Option Addr}
    {osl : Array (Option Value)} {N ps : List Str} {g : Sm} (lk : K.lookup f = some ⟨oc, od, .func (PySem.W.fnOf name qual params body scope dV kV doc pm an cdv ct), osl⟩) (hcd : PySem.W.codeIn K cdv qual = true) (S : FnScope N ps scope)
    (hbody : ∀ (A : Around) (outer : List PySem.Env) (s : Shared) (H : Hp) (E : XK), Room k (A.deeper (envOfC qual scope s.heap.objs.size f cdv)) → A.guards = some [] → SndSs fa ca (cxOf (CX P w) P w K mg base N qual scope f cdv A outer s H E) body g) :
    FnG P w K mg base (k + 1) f (PySem.W.fnOf name qual params body scope dV kV doc pm an cdv ct) ps (spF fa ca K (fun ds => if ds.length = ps.length then ends (g (begin_ N.length ds)) else .bad) ps.length) := by
  refine fnG_of lk hcd S (fun vs H Q E ⟨U, ds, _, r, hl, _⟩ => by rw [← r.length, hl]) fun A outer s H vs Q E hr hg ⟨U, ds, mb, r, hl, p⟩ => ?_
  have hpl : ps.length ≤ N.length := by
    have := congrArg List.length S.pre
    rw [List.length_take] at this
    omega
  refine hbody A outer s H E hr hg (fun cls d _ H => E cls d H) (takes_of rfl rfl rfl rfl) H U U H _ (begin_ N.length ds) _ (fx_start mb r (by rw [hl]; exact hpl)) ?_
  dsimp only at p
  rw [if_pos hl] at p
  cases q : g (begin_ N.length ds) with
  | nx E' => rw [q] at p; exact fun N' H' σ' _ x => p .non H' x.fs.sub (by show Rep fa K (hide H' U) .non .non; simp [Rep])
  | rt d fr => rw [q] at p; exact fun v H' sb rr => p v H' sb rr
  | ex c a E' => rw [q] at p; exact fun dd σ' H' sb ed => p dd H' sb ed
  | bad => rw [q] at p; exact p.elim
/-- such a def may be called -/
structure Cl (fa ca : Nat → Addr) (X : Cx) (f : Addr) (F : Fn) : Prop where
  keep : PySem.W.keepIn X.K (.ref f) = true
  fn : ∃ (k : Nat) (fd : FuncData) (ps : List Str), FnG X.prog X.w X.K X.mg X.base k f fd ps (spF fa ca X.K F ps.length) ∧ Binds X.K fd ps [] ∧ Room k X.A ∧ ∀ ds, ds.length ≠ ps.length → F ds = .bad
theorem Cl.callS {fa ca : Nat → Addr} {X : Cx} {f : Addr} {F : Fn} (h : Cl fa ca X f F) (hg : X.A.guards = some []) : CallS fa ca X f F where
  keep := h.keep
  run := fun W tk pins s σ H vs us Q U ds I rv mb rl p => by
    obtain ⟨k, fd, ps, G, hb, hr, hlen⟩ := h.fn
    have hl : ds.length = ps.length := by
      refine Classical.byContradiction fun z => ?_
      rw [hlen ds z] at p
      exact p.elim
    have hus : (us ++ []).length = ps.length := by
      rw [List.append_nil, ← rv.length, ← rl.length, hl]
    have hbn := hb s us I.kIn hus
    rw [List.append_nil] at hbn
    refine wpAny_call (codeAny_mono (G.run X.A X.stack s H ⟨us, []⟩ us vs Q (fun cls d H' => W cls d σ H') hr hg I.env0 hbn rv ⟨U, ds, mb, rl, hl, ?_⟩) fun r s' hq => ?_)
    · cases q : F ds with
      | ok pr => rw [q] at p; exact p
      | ex c a => rw [q] at p; exact p
      | bad => rw [q] at p; exact p
    · cases r with
      | error e => exact tk e s' (XE.of_call I (fun cls d H' h => h) hq)
      | ok fl =>
        cases fl with
        | ret u => exact I.after hq
        | next => exact False.elim hq
        | brk => exact False.elim hq
        | cont => exact False.elim hq
/-! ### a law's end -/
theorem law_G {P : Program} {w : World} {K : PySem.W.Frag} {mg mb : Str → Option Value} {k : Nat} {fl a : Addr} {fd : FuncData} {x : Str} {sp : Sp} {s1 : Shared} {vs : List Value} {ns : List Int} (KX : K.In s1.heap) (gm : s1.heap.Ns mainGlobals mg) (gb : s1.heap.Ns builtinsNs mb)
    (hbb : ∀ y : Str, y ≠ "__name__" → mb y = bootBuiltins y) (lim : s1.heap.NoLimit) (gens : s1.gens = #[]) (ha : s1.heap.get? a = some { cls := .type "list", data := .seq vs.toArray }) (hi : IntsAre vs ns) (hl : ns.length ≤ sizeLine) (hr : Room k callerA)
    (F : ∀ base : Heap, K.In base → base.Ns mainGlobals mg → FnG P w K mg base k fl fd [x] sp) (hbind : ∀ (s : Shared) (u : Value), BindsTo s fd ⟨[u], []⟩ [(x, u)]) (hsp : ∀ H : Hp, Only H → SqL K H a (ns.map V.int) → sp [.ref a] H (fun v _ => v = .bl true) fun _ _ _ => False) :
    codeAny (model P w) callerA (.call (.ref fl) ⟨[.ref a], []⟩) (fun r s' => r = .ok (.ret (.bool true)) ∧ OldK s1.heap s'.heap ∧ s'.os = s1.os ∧ AllBare s'.gens) s1 := by
  have rv := vals_ints hi
  -- H tells of nothing but the script, and of it only if the module does not hold it
  have core : ∀ H : Hp, Only H → SqL K H a (ns.map V.int) → HOk P w H s1.heap → (∀ b u, H b = some u → b = a ∧ K.lookup a = none) →
      codeAny (model P w) callerA (.call (.ref fl) ⟨[.ref a], []⟩) (fun r s' => r = .ok (.ret (.bool true)) ∧ OldK s1.heap s'.heap ∧ s'.os = s1.os ∧ AllBare s'.gens) s1 := by
    intro H only sq hok told
    have nsK : ∀ {b : Addr} {m : Str → Option Value}, s1.heap.Ns b m → (hidT s1.heap H).Ns b m := fun {b m} ⟨o, es, ep, e, d, r⟩ => by
      refine ⟨o, es, ep, hidT_get e ?_, d, r⟩
      cases q : H b with
      | none => rfl
      | some u =>
        rw [(told b u q).1, ha] at e
        cases e
        have d' : Data.seq vs.toArray _ = Data.dict es ep := d
        cases d'
    have kb : K.In (hidT s1.heap H) := fun b o e => hidT_get (KX b o e) (by
      cases q : H b with
      | none => rfl
      | some u =>
        obtain ⟨z1, z2⟩ := told b u q
        rw [z1, z2] at e; cases e)
    obtain ⟨mc, c1, c2⟩ := lim
    have e0 : Env0 P w K mg (hidT s1.heap H) callerA [] s1 H :=
      ⟨rfl, ⟨kb, nsK gm, ⟨mb, nsK gb, hbb⟩, ⟨mc, nsK c1, c2⟩⟩, fun b o e => of_hidT e, Nat.le_of_eq (hidT_size _ _), trivial, (fun b hb => absurd (show b ∈ ([] : List Addr) from hb) (by simp)), hok, .of_eq gens⟩
    refine codeAny_mono ((F _ kb (nsK gm)).run callerA [] s1 H ⟨[.ref a], []⟩ [.ref a] [.ref a] _ _ hr rfl e0 (hbind s1 (.ref a)) (.cons rfl .nil) (hsp H only sq)) fun r s' h => ?_
    cases r with
    | error e =>
      obtain ⟨_, _, _, _, _, _, _, _, _, _, _, _, z⟩ := h
      exact z.elim
    | ok flow =>
      cases flow with
      | next => exact False.elim h
      | brk => exact False.elim h
      | cont => exact False.elim h
      | ret u =>
        obtain ⟨v, H', os, bare, un, hok', r', q⟩ := h
        have q' : v = .bl true := q
        subst q'
        obtain rfl : u = Value.bool true := r'
        refine ⟨rfl, OldK.of_keep fun b o e => ?_, os, bare⟩
        cases q2 : H b with
        | none => exact un.keep b o e q2 (by intro z; cases z) (by simp)
        | some u =>
          rcases only b with z | ⟨ob, xs, z⟩
          · rw [q2] at z; cases z
          · obtain ⟨e1, _⟩ := hok b _ z
            obtain ⟨e2, _⟩ := hok' b _ (un.frzs b ob _ z)
            rw [e] at e1; cases e1
            exact e2
  cases hk : K.lookup a with
  | some o =>
    have e := KX a o hk
    rw [ha] at e
    cases e
    refine core (fun _ => none) (fun _ => .inl rfl) (.inr ⟨_, vs.toArray, _, hk, rfl, rfl, rfl, by rw [List.size_toArray, hi.length]; exact hl, by simpa using rv⟩) (fun b u z => ?_) fun b u z => ?_
    · have z' : (none : Option HO) = some u := z
      cases z'
    · have z' : (none : Option HO) = some u := z
      cases z'
  | none =>
    have at_ : ∀ {b : Addr} {u : HO}, (if b = a then some (HO.frz { cls := .type "list", data := .seq vs.toArray } (.lst (ns.map V.int))) else none) = some u → b = a ∧ u = .frz { cls := .type "list", data := .seq vs.toArray } (.lst (ns.map V.int)) := fun {b u} z => by
      split at z
      · rename_i e
        cases z
        exact ⟨e, rfl⟩
      · cases z
    refine core (fun b => if b = a then some (.frz { cls := .type "list", data := .seq vs.toArray } (.lst (ns.map V.int))) else none) (fun b => ?_) (.inl (.inr ⟨{ cls := .type "list", data := .seq vs.toArray }, if_pos rfl⟩)) (fun b u z => ?_) fun b u z => ⟨(at_ z).1, hk⟩
    · by_cases hb : b = a
      · exact .inr ⟨_, _, if_pos hb⟩
      · exact .inl (if_neg hb)
    · obtain ⟨z1, z2⟩ := at_ z
      subst z1 z2
      exact ⟨ha, by rw [List.length_map]; exact hl, vs, _, rv, ha⟩
theorem walk_G {l : PySem.W.OpenLaw} {n k : Nat} {q : Program} {loose : List Str} {XP : (Str → Option Value) → Heap → Prop} {YP : World → Heap → Prop} {d : DefRec} {x : Str} (hn : l.most = some n) (hn2 : n ≤ sizeLine) (hdf : d.params.defaults = []) (hr : Room k callerA)
    (F : ∀ (w : World) (mg : Str → Option Value) (fl : Addr) (h : Heap), YP w h → h.Ns mainGlobals mg → mg d.name = some (.ref fl) →
      ∃ (K : PySem.W.Frag) (fd : FuncData) (sp : Sp), K.In h ∧ (∀ (s : Shared) (u : Value), BindsTo s fd ⟨[u], []⟩ [(x, u)]) ∧ (∀ (H : Hp) (a : Addr) (ns : List Int), ns.length ≤ n → Only H → SqL K H a (ns.map V.int) → sp [.ref a] H (fun v _ => v = .bl true) fun _ _ _ => False) ∧
        ∀ base : Heap, K.In base → base.Ns mainGlobals mg → FnG l.prog w K mg base k fl fd [x] sp) : PySem.W.WalkO q loose XP YP l.row.toRowW d [] (fun f vs => PySem.call f vs) := by
  refine Att.attach_call hn hdf fun w s0 s1 mg mb fl o pm cd doc a vs ns G Y ho hd hcd hmg hobj hints hlen hg => ?_
  obtain ⟨K, fd, sp, KX, hb, hsp, hF⟩ := F w mg fl _ Y G.T.g hmg
  exact law_G KX G.T.g G.T.b G.T.builtins G.T.nolimit hg hobj hints (Nat.le_trans hlen hn2) hr hF hb fun H hO hS => hsp H a ns hlen hO hS
end Rt
end
section
set_option linter.all false
set_option autoImplicit false
set_option Elab.async false
set_option maxRecDepth 100000
set_option maxHeartbeats 2000000
namespace Rt
open PySem PySem.Spec PyProof.Rows L2
/-! ## The text read as a denotation -/
structure Gi where
  fns : List Str
  cls : List Str
  cons : List (Str × D)
  gcd : Bool
  /-- class c is below class h -/
  up : Nat → Nat → Bool
def ixOf : List Str → Str → Option Nat
  | [], _ => none
  | y :: ys, x => if y == x then some 0 else (ixOf ys x).map (· + 1)
theorem ixOf_get : ∀ {l : List Str} {x : Str} {i : Nat}, ixOf l x = some i → l[i]? = some x
  | [], _, _, h => by cases h
  | y :: ys, x, i, h => by
    unfold ixOf at h
    split at h
    · rename_i e
      cases h
      simp [eq_of_beq e]
    · obtain ⟨j, h1, rfl⟩ := Option.map_eq_some_iff.mp h
      simpa using ixOf_get h1
def lkC : List (Str × D) → Str → Option D
  | [], _ => none
  | (y, d) :: r, x => if y == x then some d else lkC r x
def vis (sc : Scope) (x : Str) : Bool := match sc.names.lookup x with
  | some .local => true
  | some .cell => true
  | some .free => true
  | _ => false
def glo (sc : Scope) (x : Str) : Bool := match sc.names.lookup x with
  | some .globalImplicit => true
  | _ => false
def okN (x : Str) : Bool := !(x == ("__debug__" : Str)) && (!(x == ("__classdict__" : Str)) && !(x == ("__name__" : Str)))
def cC : Const → Option Ex
  | .int i => some (xCon (.int i))
  | .str x => some (xCon (.str x))
  | .bool b => some (xCon (.bl b))
  | .none => some (xCon .non)
  | _ => none
def opD : Operator → Option (D → D → Option (D × Bool))
  | .Add => some dAdd
  | .Sub => some dSub
  | .Mult => some dMul
  | .FloorDiv => some dDiv
  | .Mod => some dMod
  | .Pow => some dPow
  | _ => none
def copD : CmpOp → Option Cop
  | .Eq => some .eq
  | .NotEq => some .ne
  | .Lt => some .lt
  | .LtE => some .le
  | .Gt => some .gt
  | .GtE => some .ge
  | .Is => some .is
  | .IsNot => some .isn
  | .In => some .inn
  | .NotIn => some .nin
def bltNames : List Str := ["abs", "int", "len", "min", "max", "sum", "all", "any", "repr", "range", "enumerate", "zip", "list", "tuple", "sorted", "set", "dict"]
def bltD2 (x : Str) : Option (List D → Option (D × Bool)) :=
  if x == ("list" : Str) then some bList else if x == ("tuple" : Str) then some bTuple else if x == ("sorted" : Str) then some bSorted else if x == ("dict" : Str) then some bDict else none
def bltD (x : Str) : Option (List D → Option (D × Bool)) :=
  if x == ("abs" : Str) then some bAbs else if x == ("int" : Str) then some bInt else if x == ("len" : Str) then some bLen else if x == ("min" : Str) then some bMin
  else if x == ("max" : Str) then some bMax else if x == ("sum" : Str) then some bSum else if x == ("all" : Str) then some bAll else if x == ("any" : Str) then some bAny else if x == ("repr" : Str) then some bRepr else bltD2 x
def mtD (x : Str) : Option (List D → List D → Option (D × Bool)) := if x == ("index" : Str) then some mIndex else if x == ("count" : Str) then some mCount else none
/-- -1 as the text has it -/
def isM1 : Expr → Bool
  | .UnaryOp .USub (.Constant (.int 1) _ _) _ => true
  | .Constant (.int (-1)) _ _ => true
  | _ => false
def isGet (m : Str) : Bool := m == ("get" : Str)
/-- an object of a method's call, not a call of a name without arguments -/
def plainO : Expr → Bool
  | .Call (.Name _ _) [] [] _ => false
  | _ => true
/-- list(range(a)) -/
def lrgOf : Expr → List Expr → List Keyword → Option Expr
  | .Name l _, [.Call (.Name r _) [a] [] _], [] => if l == ("list" : Str) && r == ("range" : Str) then some a else none
  | _, _, _ => none
/-- sorted(set(a)) -/
def ssOf : Expr → List Expr → List Keyword → Option Expr
  | .Name l _, [.Call (.Name r _) [a] [] _], [] => if l == ("sorted" : Str) && r == ("set" : Str) then some a else none
  | _, _, _ => none
def ownOf (N : List Str) : List (Str × NameKind) → List (Str × Nat)
  | [] => []
  | (x, .local) :: r => (match ixOf N x with | some i => (x, i) :: ownOf N r | none => ownOf N r)
  | (x, .cell) :: r => (match ixOf N x with | some i => (x, i) :: ownOf N r | none => ownOf N r)
  | _ :: r => ownOf N r
def notSetE : Expr → Bool
  | .Set _ _ _ => false
  | _ => true
def isTup : Expr → Bool
  | .Tuple _ _ _ => true
  | _ => false
def isTest : Expr → Bool
  | .UnaryOp .Not _ _ => true
  | .BoolOp _ _ _ => true
  | .IfExp _ _ _ _ => true
  | .Compare _ _ _ _ => true
  | _ => false
def okT (fn : Str → Bool) (sc : Scope) (x : Str) : Bool := okN x && (match sc.names.lookup x with
  | some .local => true
  | some .cell => fn x
  | _ => false)
section
variable (call : Nat → Fn) (G : Gi) (N : List Str)
mutual
def cG : Nat → (Str → Bool) → Scope → Expr → Option (List Nat × Tg)
  | 0, _, _, _ => none
  | n + 1, fn, sc, .Name x _ => if okT fn sc x then (ixOf N x).map fun i => ([i], gName i) else none
  | n + 1, fn, sc, .Tuple es _ _ => if es.all plainTg then (cGs n fn sc es).map fun p => (p.1, gTup p.2) else none
  | _ + 1, _, _, _ => none
def cGs : Nat → (Str → Bool) → Scope → List Expr → Option (List Nat × List Tg)
  | 0, _, _, _ => none
  | n + 1, fn, sc, [] => some ([], [])
  | n + 1, fn, sc, e :: es => (cG n fn sc e).bind fun p => (cGs n fn sc es).map fun q => (p.1 ++ q.1, p.2 :: q.2)
end
mutual
def cE : Nat → Scope → Expr → Option Ex
  | 0, _, _ => none
  | n + 1, sc, e => match e with
    | .Constant c _ _ => cC c
    | .Name x _ => if okN x then (if vis sc x then (ixOf N x).map xVar else if glo sc x then (match ixOf G.fns x with | some i => some (xCon (.fn i)) | none => (lkC G.cons x).map xCon) else none) else none
    | .BinOp a op b _ => (opD op).bind fun f => (cE n sc a).bind fun x => (cE n sc b).map fun y => xBin f x y
    | .UnaryOp .USub a _ => (cE n sc a).map xNeg
    | .UnaryOp .Not a _ => (cE n sc a).map xNot
    | .Compare a ops cs _ => cK n sc a ops cs
    | .BoolOp op es _ => cB n sc op es
    | .IfExp c a b _ => (cT n sc c).bind fun t => (cE n sc a).bind fun x => (cE n sc b).map fun y => xIf t x y
    | .Call f args kws p3 => (match lrgOf f args kws with
      | some a => if glo sc "list" && (glo sc "range" && notStar a) then (cE n sc a).map xLRg1 else none
      | none => match ssOf f args kws with
      | some a => if glo sc "sorted" && (glo sc "set" && notStar a) then (cE n sc a).map fun x => xBi bSSet [x] else none
      | none => match f, kws with
      | .Name f _, [] => if glo sc f && (okN f && args.all notStar) then (cA n sc args).bind fun fs => (match ixOf G.fns f with
          | some i => some (xCall (call i) fs)
          | none => if args.isEmpty then none else if f == ("gcd" : Str) then (if G.gcd then some (xBi bGcd fs) else none) else (bltD f).map fun g => xBi g fs) else none
      | .Subscript g i p, [] => if args.all notStar && !args.isEmpty then (cE n sc (.Subscript g i p)).bind fun x => (cA n sc args).map fun fs => xCallV G.fns.length call x fs else none
      | .Attribute ob m p2, [] => (match args with
        | [e] => if isGet m then (if plainO ob && (notStar e && p2.endLine == p3.line) then (cE n sc ob).bind fun x => (cE n sc e).map fun y => xGet x [y] else none)
            else if plainO ob && (([e] : List Expr).all notStar && (decide (([e] : List Expr).length + 0 + 0 < 30) && p2.endLine == p3.line)) then (mtD m).bind fun g => (cE n sc ob).bind fun x => (cA n sc [e]).map fun fs => xMt g x fs else none
        | [e, b] => if isGet m then (if plainO ob && (notStar e && (notStar b && p2.endLine == p3.line)) then (cE n sc ob).bind fun x => (cE n sc e).bind fun y => (cE n sc b).map fun z => xGet x [y, z] else none)
            else if plainO ob && (([e, b] : List Expr).all notStar && (decide (([e, b] : List Expr).length + 0 + 0 < 30) && p2.endLine == p3.line)) then (mtD m).bind fun g => (cE n sc ob).bind fun x => (cA n sc [e, b]).map fun fs => xMt g x fs else none
        | e :: es => if plainO ob && ((e :: es).all notStar && (decide ((e :: es).length + 0 + 0 < 30) && p2.endLine == p3.line)) then (mtD m).bind fun g => (cE n sc ob).bind fun x => (cA n sc (e :: es)).map fun fs => xMt g x fs else none
        | [] => none)
      | _, _ => none)
    | .Subscript a b _ => (match b with
      | .Slice lo hi none _ => (cE n sc a).bind fun x => (cO n sc lo).bind fun l => (cO n sc hi).map fun h => xSlice x l h
      | .Slice none none (some st) _ => if isM1 st then (cE n sc a).map fun x => xBi bRev [x] else none
      | b => if notSlice b then (cE n sc a).bind fun x => (cE n sc b).map fun y => xIdx x y else none)
    | .Dict keys values _ => (match keys, values with
      | [], [] => some xDct0
      | _, _ => none)
    | .List es _ => (cD n sc es).map xLst
    | .Tuple es _ _ => (cD n sc es).map xTup
    | .ListComp elt gens scope _ => (match gens with
      | [⟨tg, iter, ifs, 0⟩] => if blkC N sc scope (ownOf N scope.names) && notSetE iter then (cI n sc (isTup tg) iter).bind fun it => (cG N n (fun x => scope.names.lookup x == some .cell) (relS scope sc) tg).bind fun g => (cTs n (relS scope sc) ifs).bind fun t =>
          (cE n (relS scope sc) elt).bind fun e => if g.1.all ((ownOf N scope.names).map (·.2)).contains then some (xLC ((ownOf N scope.names).map (·.2)) it g.2 t e) else none
        else none
      | [⟨tg, iter, ifs, 0⟩, ⟨tg1, iter1, ifs1, 0⟩] => if blkC N sc scope (ownOf N scope.names) && (notSetE iter && notSetE iter1) then (cI n sc (isTup tg) iter).bind fun it => (cG N n (fun x => scope.names.lookup x == some .cell) (relS scope sc) tg).bind fun g => (cTs n (relS scope sc) ifs).bind fun t =>
          (cI n (relS scope sc) (isTup tg1) iter1).bind fun it1 => (cG N n (fun x => scope.names.lookup x == some .cell) (relS scope sc) tg1).bind fun g1 => (cTs n (relS scope sc) ifs1).bind fun t1 =>
          (cE n (relS scope sc) elt).bind fun e => if g.1.all ((ownOf N scope.names).map (·.2)).contains && g1.1.all ((ownOf N scope.names).map (·.2)).contains then some (xLC2 ((ownOf N scope.names).map (·.2)) g1.1 it g.2 t it1 g1.2 t1 e) else none
        else none
      | _ => none)
    | .DictComp kx elt gens scope _ => (match gens with
      | [⟨tg, iter, ifs, 0⟩] => if blkC N sc scope (ownOf N scope.names) && notSetE iter then (cI n sc (isTup tg) iter).bind fun it => (cG N n (fun x => scope.names.lookup x == some .cell) (relS scope sc) tg).bind fun g => (cTs n (relS scope sc) ifs).bind fun t =>
          (cE n (relS scope sc) kx).bind fun k => (cE n (relS scope sc) elt).bind fun e => if g.1.all ((ownOf N scope.names).map (·.2)).contains then some (xDC ((ownOf N scope.names).map (·.2)) it g.2 t k e) else none
        else none
      | _ => none)
    | _ => none
def cK : Nat → Scope → Expr → List CmpOp → List Expr → Option Ex
  | 0, _, _, _, _ => none
  | n + 1, sc, a, ops, cs => (match ops, cs with
      | [op], [b] => if behindInMarks op b then none else (copD op).bind fun o => (cE n sc a).bind fun x => (cE n sc b).map fun y => xCmp o x y
      | op :: op' :: ops, b :: c :: es => if lastMarks (op :: op' :: ops) (b :: c :: es) then none else (cE n sc a).bind fun x => (cL n sc (op :: op' :: ops) (b :: c :: es)).map fun l => xChain x l
      | _, _ => none)
def cA : Nat → Scope → List Expr → Option (List Ex)
  | 0, _, _ => none
  | n + 1, sc, [] => some []
  | n + 1, sc, e :: es => if notStar e then (cE n sc e).bind fun x => (cA n sc es).map fun xs => x :: xs else none
def cD : Nat → Scope → List Expr → Option (List (Bool × Ex))
  | 0, _, _ => none
  | n + 1, sc, [] => some []
  | n + 1, sc, e :: es => (match e with
    | .Starred a _ => (cE n sc a).bind fun x => (cD n sc es).map fun xs => (true, x) :: xs
    | e => if notStar e then (cE n sc e).bind fun x => (cD n sc es).map fun xs => (false, x) :: xs else none)
def cO : Nat → Scope → Option Expr → Option (Option Ex)
  | 0, _, _ => none
  | n + 1, sc, none => some none
  | n + 1, sc, some e => (cE n sc e).map some
def cL : Nat → Scope → List CmpOp → List Expr → Option (List (Cop × Ex))
  | 0, _, _, _ => none
  | n + 1, sc, [], [] => some []
  | n + 1, sc, op :: ops, e :: es => (copD op).bind fun o => (cE n sc e).bind fun x => (cL n sc ops es).map fun l => (o, x) :: l
  | _ + 1, _, _, _ => none
def cB : Nat → Scope → BoolOp → List Expr → Option Ex
  | 0, _, _, _ => none
  | n + 1, sc, op, es => (match es with
    | [a] => cE n sc a
    | a :: b :: r => (cE n sc a).bind fun x => (cB n sc op (b :: r)).map fun y => (match op with | .And => xAnd x y | .Or => xOr x y)
    | _ => none)
def cT : Nat → Scope → Expr → Option Tst
  | 0, _, _ => none
  | n + 1, sc, e => match e with
    | .UnaryOp .Not a _ => (cT n sc a).map tNot
    | .BoolOp op es _ => cW n sc op es
    | .Compare a ops cs _ => (cK n sc a ops cs).map tOf
    | e => if isTest e then none else (cE n sc e).map tOf
def cW : Nat → Scope → BoolOp → List Expr → Option Tst
  | 0, _, _, _ => none
  | n + 1, sc, op, es => (match es with
    | [a] => cT n sc a
    | a :: b :: r => (cT n sc a).bind fun x => (cW n sc op (b :: r)).map fun y => (match op with | .And => tAnd x y | .Or => tOr x y)
    | _ => none)
def cTs : Nat → Scope → List Expr → Option Tst
  | 0, _, _ => none
  | n + 1, sc, es => (match es with
    | [] => some tYesD
    | [c] => cT n sc c
    | _ => none)
def cI : Nat → Scope → Bool → Expr → Option Itr
  | 0, _, _, _ => none
  | n + 1, sc, tup, e => match e with
    | .Call f args kws p => (match f, args, kws with
      | .Name f p0, [a], [] => if glo sc f && (f == ("range" : Str)) && notStar a then (cE n sc a).map iRng1
          else if glo sc f && (f == ("enumerate" : Str)) && notStar a then (if tup then (cE n sc a).map iEnum else none)
          else (cE n sc (.Call (.Name f p0) [a] [] p)).map iSeq
      | .Name f p0, [a, b], [] => if glo sc f && (f == ("range" : Str)) && (notStar a && notStar b) then (cE n sc a).bind fun x => (cE n sc b).map fun y => iRng2 x y
          else if glo sc f && (f == ("zip" : Str)) && (notStar a && notStar b) then (if tup then (cE n sc a).bind fun x => (cE n sc b).map fun y => iZip x y else none)
          else (cE n sc (.Call (.Name f p0) [a, b] [] p)).map iSeq
      | .Name f p0, [a, b, c], [] => if glo sc f && (f == ("range" : Str)) && (notStar a && (notStar b && notStar c)) then (cE n sc a).bind fun x => (cE n sc b).bind fun y => (cE n sc c).map fun z => iRng3 x y z
          else (cE n sc (.Call (.Name f p0) [a, b, c] [] p)).map iSeq
      | f, args, kws => (cE n sc (.Call f args kws p)).map iSeq)
    | e => (cE n sc e).map iSeq
end
end
/-! ## Soundness -/
structure Okx (fa ca : Nat → Addr) (call : Nat → Fn) (G : Gi) (N : List Str) (fn : Str → Bool) (sc : Scope) (X : Cx) : Prop where
  calm : X.calm = true
  nm : X.N = N
  nd : N.Nodup
  scq : X.env.scope = sc
  kind : sc.kind = .function
  cl : ∀ i x, G.fns[i]? = some x → X.mg x = some (.ref (fa i)) ∧ Cl fa ca X (fa i) (call i)
  co : ∀ x d, lkC G.cons x = some d → ∃ v u, X.mg x = some u ∧ RelV v u ∧ ∀ Z, Rep fa X.K Z d v
  no : ∀ x, bltNames.contains x = true → X.mg x = none
  gd : G.gcd = true → X.mg "gcd" = some (.builtin "math.gcd")
  room : ∃ k, Room k X.A
  gs : X.A.guards = some []
  fnq : ∀ x, fn x = true → X.fn x = true
section
variable {fa ca : Nat → Addr} {call : Nat → Fn} {G : Gi} {N : List Str} {fn : Str → Bool} {sc : Scope} {X : Cx}
theorem Okx.blk (o : Okx fa ca call G N fn sc X) {scope : Scope} (hk : scope.kind = .function) (s : Shared) (H : Hp) (C : Addr) (cl : List (Str × Addr)) (fp : List Addr) :
    Okx fa ca call G N (fun x => scope.names.lookup x == some .cell) (relS scope sc) (blkN X scope s H C cl fp) where
  calm := o.calm
  nm := o.nm
  nd := o.nd
  scq := by show relS scope X.env.scope = _; rw [o.scq]
  kind := hk
  cl := fun i x h => ⟨(o.cl i x h).1, (o.cl i x h).2.keep, (o.cl i x h).2.fn⟩
  co := o.co
  no := o.no
  gd := o.gd
  room := o.room
  gs := o.gs
  fnq := fun x h => h
theorem glo_gl (o : Okx fa ca call G N fn sc X) {x : Str} (h : glo sc x = true) : Gl X x := by
  show X.env.scope.names.lookup x = some .globalImplicit
  rw [o.scq]
  unfold glo at h
  split at h
  · assumption
  · cases h
theorem vis_vis (o : Okx fa ca call G N fn sc X) {x : Str} (h : vis sc x = true) : Vis X.env.scope x := by
  unfold Vis
  rw [o.scq]
  unfold vis at h
  split at h
  · exact .inl (by assumption)
  · exact .inr (.inl (by assumption))
  · exact .inr (.inr (by assumption))
  · cases h
theorem okN_of {x : Str} (h : okN x = true) : (x == ("__debug__" : Str)) = false ∧ (x == ("__classdict__" : Str)) = false ∧ x ≠ "__name__" := by
  simp only [okN, Bool.and_eq_true, Bool.not_eq_true'] at h
  exact ⟨h.1, h.2.1, fun e => by rw [e] at h; exact absurd h.2.2 (by decide)⟩
theorem sndG_ok : ∀ (n : Nat) (fn : Str → Bool) (sc : Scope) (X : Cx), Okx fa ca call G N fn sc X → (∀ (e : Expr) (is : List Nat) (g : Tg), cG N n fn sc e = some (is, g) → SndG fa X e is g ∧ plainTg e = true) ∧ (∀ (es : List Expr) (is : List Nat) (gs : List Tg), cGs N n fn sc es = some (is, gs) → SndGs fa X es is gs)
  | 0, _, _, _, _ => ⟨fun e is g h => by simp [cG] at h, fun es is gs h => by simp [cGs] at h⟩
  | n + 1, fn, sc, X, o => by
    obtain ⟨ih1, ih2⟩ := sndG_ok n fn sc X o
    refine ⟨fun e is g h => ?_, fun es is gs h => ?_⟩
    · cases e with
      | Name x pos =>
        simp only [cG] at h
        split at h
        · rename_i c
          simp only [okT, Bool.and_eq_true] at c
          obtain ⟨i, e1, e2⟩ := Option.map_eq_some_iff.mp h
          cases e2
          have lk : (sc.names.lookup x = some .local) ∨ (sc.names.lookup x = some .cell ∧ fn x = true) := by
            have c2 := c.2
            split at c2
            · exact .inl (by assumption)
            · exact .inr ⟨by assumption, c2⟩
            · cases c2
          refine ⟨sndG_name (by rw [o.nm]; exact o.nd) (by rw [o.nm]; exact ixOf_get e1) ?_ ?_, rfl⟩
          · unfold L2.Loc
            rw [o.scq]
            exact lk.imp id (·.1)
          · rw [o.scq]
            exact lk.elim .inr fun z => .inl (o.fnq x z.2)
        · cases h
      | Tuple es k pos =>
        simp only [cG] at h
        split at h
        · rename_i c
          obtain ⟨⟨js, gs⟩, e1, e2⟩ := Option.map_eq_some_iff.mp h
          cases e2
          exact ⟨sndG_tup o.calm (ih2 es js gs e1) c, rfl⟩
        · cases h
      | _ => simp [cG] at h
    · cases es with
      | nil =>
        simp only [cGs, Option.some.injEq, Prod.mk.injEq] at h
        obtain ⟨rfl, rfl⟩ := h
        exact sndGs_nil
      | cons e es =>
        simp only [cGs] at h
        obtain ⟨⟨i1, g1⟩, e1, h⟩ := Option.bind_eq_some_iff.mp h
        obtain ⟨⟨i2, g2⟩, e2, h⟩ := Option.map_eq_some_iff.mp h
        cases h
        obtain ⟨q1, q2⟩ := ih1 e i1 g1 e1
        exact sndGs_cons q2 q1 (ih2 es i2 g2 e2)
theorem opD_ok {op : Operator} {f : D → D → Option (D × Bool)} (h : opD op = some f) : OpS fa X (binaryOp op) f := by
  cases op <;> simp only [opD, Option.some.injEq, reduceCtorEq] at h <;> subst h
  · exact ops_add
  · exact ops_sub
  · exact ops_mul
  · exact ops_mod
  · exact ops_pow
  · exact ops_div
theorem copD_ok {op : CmpOp} {c : Cop} (hr : ∃ k, Room k X.A) (h : copD op = some c) : CmpS fa X op c := by
  obtain ⟨k, hr⟩ := hr
  cases op <;> simp only [copD, Option.some.injEq, reduceCtorEq] at h <;> subst h
  · exact cmp_eq hr
  · exact cmp_ne hr
  · exact cmp_lt
  · exact cmp_le
  · exact cmp_gt
  · exact cmp_ge
  · exact cmp_is
  · exact cmp_isn
  · exact cmp_in hr
  · exact cmp_nin hr
theorem cC_ok {c : Const} {k : Nat} {pos : Pos} {d : Ex} (h : cC c = some d) : Snd fa ca X (.Constant c k pos) d := by
  cases c <;> simp only [cC, Option.some.injEq, reduceCtorEq] at h <;> subst h
  · exact snd_con pe_non fun _ => by simp only [Rep]
  · exact snd_con pe_bl fun _ => by simp only [Rep]
  · exact snd_con pe_int fun _ => by simp only [Rep]
  · exact snd_con pe_str fun _ => by simp only [Rep]
theorem test_val {e : Expr} {env : PySem.Env} (h : isTest e = false) : ∀ whole, isTrue e env whole = (do let v ← whole; standAt e.pos; holding [v] (truthy v)) := fun whole => by
  cases e with
  | UnaryOp op a p => cases op <;> first | rfl | exact absurd h (by simp [isTest])
  | _ => first | rfl | exact absurd h (by simp [isTest])
theorem notSet_ok {e : Expr} {env : PySem.Env} (h : notSetE e = true) : ∀ x, foldedSetIterable e env x = pure x := fun x => by
  cases e <;> first | rfl | exact absurd h (by simp [notSetE])
theorem blt_ok (o : Okx fa ca call G N fn sc X) {f : Str} {g : List D → Option (D × Bool)} {es : List Expr} {fs : List Ex} {p0 pos : Pos} (hg : glo sc f = true) (hn : okN f = true) (h : bltD f = some g) (ha : SndA fa ca X es fs) (hst : es.all notStar = true) (hne : es ≠ []) :
    Snd fa ca X (.Call (.Name f p0) es [] pos) (xBi g fs) := by
  obtain ⟨h1, h2, h3⟩ := okN_of hn
  have gl := glo_gl o hg
  obtain ⟨k, hr⟩ := o.room
  unfold bltD at h
  split at h
  · rename_i c; have e := eq_of_beq c; subst e; cases h
    exact snd_bi bi_abs gl (o.no _ (by decide)) (by first | boot_by_name | decide +kernel) h3 h1 ha hst hne
  split at h
  · rename_i c; have e := eq_of_beq c; subst e; cases h
    exact snd_biT bi_int gl (o.no _ (by decide)) (by first | boot_by_name | decide +kernel) h3 h1 ha hst hne
  split at h
  · rename_i c; have e := eq_of_beq c; subst e; cases h
    exact snd_bi bi_len gl (o.no _ (by decide)) (by first | boot_by_name | decide +kernel) h3 h1 ha hst hne
  split at h
  · rename_i c; have e := eq_of_beq c; subst e; cases h
    exact snd_bi (bi_min hr o.calm) gl (o.no _ (by decide)) (by first | boot_by_name | decide +kernel) h3 h1 ha hst hne
  split at h
  · rename_i c; have e := eq_of_beq c; subst e; cases h
    exact snd_bi (bi_max hr o.calm) gl (o.no _ (by decide)) (by first | boot_by_name | decide +kernel) h3 h1 ha hst hne
  split at h
  · rename_i c; have e := eq_of_beq c; subst e; cases h
    exact snd_bi (bi_sum o.calm) gl (o.no _ (by decide)) (by first | boot_by_name | decide +kernel) h3 h1 ha hst hne
  split at h
  · rename_i c; have e := eq_of_beq c; subst e; cases h
    exact snd_bi (bi_all o.calm) gl (o.no _ (by decide)) (by first | boot_by_name | decide +kernel) h3 h1 ha hst hne
  split at h
  · rename_i c; have e := eq_of_beq c; subst e; cases h
    exact snd_bi (bi_any o.calm) gl (o.no _ (by decide)) (by first | boot_by_name | decide +kernel) h3 h1 ha hst hne
  split at h
  · rename_i c; have e := eq_of_beq c; subst e; cases h
    exact snd_bi (bi_repr o.gs hr.units) gl (o.no _ (by decide)) (by first | boot_by_name | decide +kernel) h3 h1 ha hst hne
  unfold bltD2 at h
  split at h
  · rename_i c; have e := eq_of_beq c; subst e; cases h
    exact snd_biT bi_list gl (o.no _ (by decide)) (by first | boot_by_name | decide +kernel) h3 h1 ha hst hne
  split at h
  · rename_i c; have e := eq_of_beq c; subst e; cases h
    exact snd_biT bi_tuple gl (o.no _ (by decide)) (by first | boot_by_name | decide +kernel) h3 h1 ha hst hne
  split at h
  · rename_i c; have e := eq_of_beq c; subst e; cases h
    exact snd_bi (bi_sorted hr) gl (o.no _ (by decide)) (by first | boot_by_name | decide +kernel) h3 h1 ha hst hne
  split at h
  · rename_i c; have e := eq_of_beq c; subst e; cases h
    exact snd_biT (bi_dict o.calm) gl (o.no _ (by decide)) (by first | boot_by_name | decide +kernel) h3 h1 ha hst hne
  · cases h
theorem base_ok {ob : Expr} {m : Str} {env : PySem.Env} (h : plainO ob = true) : attributeBase ob m env (eval ob env) = eval ob env := by
  cases ob with
  | Call f args kws pos =>
    cases f with
    | Name x p =>
      cases args with
      | nil =>
        cases kws with
        | nil => exact absurd h (by simp [plainO])
        | cons k ks => rfl
      | cons a as => rfl
    | _ => rfl
  | _ => rfl
theorem m1_pe {st : Expr} (h : isM1 st = true) : PE X st (fun σ H Q => Q (.int (-1)) H) := by
  unfold isM1 at h
  split at h
  · refine ⟨fun pins s σ H Q I q => (pe_un un_neg pe_int).run pins s σ H Q I ?_⟩
    exact ⟨1, rfl, q⟩
  · exact pe_int
  · cases h
theorem lrg_ok {f : Expr} {args : List Expr} {kws : List Keyword} {a : Expr} (h : lrgOf f args kws = some a) : ∃ p0 p1 p2, f = .Name "list" p0 ∧ args = [.Call (.Name "range" p1) [a] [] p2] ∧ kws = [] := by
  unfold lrgOf at h
  split at h
  · split at h
    · rename_i c
      simp only [Bool.and_eq_true] at c
      cases h
      rw [eq_of_beq c.1, eq_of_beq c.2]
      exact ⟨_, _, _, rfl, rfl, rfl⟩
    · cases h
  · cases h
theorem ss_ok {f : Expr} {args : List Expr} {kws : List Keyword} {a : Expr} (h : ssOf f args kws = some a) : ∃ p0 p1 p2, f = .Name "sorted" p0 ∧ args = [.Call (.Name "set" p1) [a] [] p2] ∧ kws = [] := by
  unfold ssOf at h
  split at h
  · split at h
    · rename_i c
      simp only [Bool.and_eq_true] at c
      cases h
      rw [eq_of_beq c.1, eq_of_beq c.2]
      exact ⟨_, _, _, rfl, rfl, rfl⟩
    · cases h
  · cases h
structure SAll (fa ca : Nat → Addr) (call : Nat → Fn) (G : Gi) (N : List Str) (n : Nat) : Prop where
  E : ∀ (fn : Str → Bool) (sc : Scope) (X : Cx), Okx fa ca call G N fn sc X → ∀ (e : Expr) (d : Ex), cE call G N n sc e = some d → Snd fa ca X e d
  K : ∀ (fn : Str → Bool) (sc : Scope) (X : Cx), Okx fa ca call G N fn sc X → ∀ (a : Expr) (ops : List CmpOp) (cs : List Expr) (d : Ex), cK call G N n sc a ops cs = some d → ∀ pos, Snd fa ca X (.Compare a ops cs pos) d ∧ SndT fa ca X (.Compare a ops cs pos) (tOf d)
  A : ∀ (fn : Str → Bool) (sc : Scope) (X : Cx), Okx fa ca call G N fn sc X → ∀ (e : List Expr) (d : List Ex), cA call G N n sc e = some d → SndA fa ca X e d
  D : ∀ (fn : Str → Bool) (sc : Scope) (X : Cx), Okx fa ca call G N fn sc X → ∀ (e : List Expr) (d : List (Bool × Ex)), cD call G N n sc e = some d → SndD fa ca X e d
  O : ∀ (fn : Str → Bool) (sc : Scope) (X : Cx), Okx fa ca call G N fn sc X → ∀ (e : Option Expr) (d : Option Ex), cO call G N n sc e = some d → SndO fa ca X e d
  L : ∀ (fn : Str → Bool) (sc : Scope) (X : Cx), Okx fa ca call G N fn sc X → ∀ (ops : List CmpOp) (e : List Expr) (d : List (Cop × Ex)), cL call G N n sc ops e = some d → Links fa ca X ops e d
  B : ∀ (fn : Str → Bool) (sc : Scope) (X : Cx), Okx fa ca call G N fn sc X → ∀ (op : BoolOp) (e : List Expr) (d : Ex), cB call G N n sc op e = some d → ∀ pos, Snd fa ca X (.BoolOp op e pos) d
  T : ∀ (fn : Str → Bool) (sc : Scope) (X : Cx), Okx fa ca call G N fn sc X → ∀ (e : Expr) (d : Tst), cT call G N n sc e = some d → SndT fa ca X e d
  W : ∀ (fn : Str → Bool) (sc : Scope) (X : Cx), Okx fa ca call G N fn sc X → ∀ (op : BoolOp) (e : List Expr) (d : Tst), cW call G N n sc op e = some d → ∀ pos, SndW fa ca X (.BoolOp op e pos) d
  Ts : ∀ (fn : Str → Bool) (sc : Scope) (X : Cx), Okx fa ca call G N fn sc X → ∀ (e : List Expr) (d : Tst), cTs call G N n sc e = some d → SndTs fa ca X e d
  I : ∀ (fn : Str → Bool) (sc : Scope) (X : Cx), Okx fa ca call G N fn sc X → ∀ (tg e : Expr) (d : Itr), cI call G N n sc (isTup tg) e = some d → SndI fa ca X tg e d
theorem ne_nil {es : List Expr} (h : es.isEmpty = false) : es ≠ [] := fun e => by rw [e] at h; cases h
theorem call_eq {f : Expr} {args : List Expr} {pos : Pos} {env : PySem.Env} {g i : Expr} {p : Pos} (e : f = .Subscript g i p) : eval (.Call f args [] pos) env = (do callWith pos (← eval f env) [] (backTo pos (starEach args env)) (backToKw pos (keywordEach [] env))) := by
  subst e; rfl
theorem sall_E {n : Nat} (ih : SAll fa ca call G N n) (fn : Str → Bool) (sc : Scope) (X : Cx) (o : Okx fa ca call G N fn sc X) (e : Expr) (d : Ex) (h : cE call G N (n + 1) sc e = some d) : Snd fa ca X e d := by
  cases e with
  | Constant c k pos => simp only [cE] at h; exact cC_ok h
  | Name x pos =>
    simp only [cE] at h
    split at h
    case isFalse => cases h
    rename_i c
    obtain ⟨h1, h2, h3⟩ := okN_of c
    split at h
    · rename_i v
      obtain ⟨i, e1, rfl⟩ := Option.map_eq_some_iff.mp h
      exact snd_var (by rw [o.nm]; exact ixOf_get e1) (vis_vis o v) h1 h2
    · split at h
      case isFalse => cases h
      rename_i g
      have gl := glo_gl o g
      split at h
      · rename_i i e1
        cases h
        exact snd_con (pe_glob gl (o.cl i x (ixOf_get e1)).1 (v := .ref (fa i)) rfl h1) fun _ => by simp only [Rep]
      · obtain ⟨d0, e1, rfl⟩ := Option.map_eq_some_iff.mp h
        obtain ⟨v, u, q1, q2, q3⟩ := o.co x d0 e1
        exact snd_con (pe_glob gl q1 q2 h1) q3
  | BinOp a op b pos =>
    simp only [cE] at h
    obtain ⟨f, e1, h⟩ := Option.bind_eq_some_iff.mp h
    obtain ⟨x, e2, h⟩ := Option.bind_eq_some_iff.mp h
    obtain ⟨y, e3, rfl⟩ := Option.map_eq_some_iff.mp h
    exact snd_bin (opD_ok e1) (ih.E _ _ _ o _ _ e2) (ih.E _ _ _ o _ _ e3)
  | UnaryOp op a pos =>
    cases op <;> simp only [cE, reduceCtorEq] at h
    · obtain ⟨x, e2, rfl⟩ := Option.map_eq_some_iff.mp h
      exact snd_not (ih.E _ _ _ o _ _ e2)
    · obtain ⟨x, e2, rfl⟩ := Option.map_eq_some_iff.mp h
      exact snd_neg (ih.E _ _ _ o _ _ e2)
  | Compare a ops cs pos =>
    simp only [cE] at h
    exact (ih.K _ _ _ o _ _ _ _ h pos).1
  | BoolOp op es pos =>
    simp only [cE] at h
    exact ih.B _ _ _ o op es d h pos
  | IfExp c a b pos =>
    simp only [cE] at h
    obtain ⟨t, e1, h⟩ := Option.bind_eq_some_iff.mp h
    obtain ⟨x, e2, h⟩ := Option.bind_eq_some_iff.mp h
    obtain ⟨y, e3, rfl⟩ := Option.map_eq_some_iff.mp h
    exact snd_if (ih.T _ _ _ o _ _ e1) (ih.E _ _ _ o _ _ e2) (ih.E _ _ _ o _ _ e3)
  | Call f args kws pos =>
    simp only [cE] at h
    split at h
    · rename_i a ea
      split at h
      case isFalse => cases h
      rename_i c
      simp only [Bool.and_eq_true] at c
      obtain ⟨p0, p1, p2, rfl, rfl, rfl⟩ := lrg_ok ea
      obtain ⟨x, e1, rfl⟩ := Option.map_eq_some_iff.mp h
      exact snd_lrg1 o.calm (glo_gl o c.2.1) (o.no _ (by decide)) (glo_gl o c.1) (o.no _ (by decide)) c.2.2 (ih.E _ _ _ o _ _ e1)
    split at h
    · rename_i a ea
      split at h
      case isFalse => cases h
      rename_i c
      simp only [Bool.and_eq_true] at c
      obtain ⟨p0, p1, p2, rfl, rfl, rfl⟩ := ss_ok ea
      obtain ⟨x, e1, rfl⟩ := Option.map_eq_some_iff.mp h
      exact snd_sset o.calm (glo_gl o c.1) (o.no _ (by decide)) (glo_gl o c.2.1) (o.no _ (by decide)) c.2.2 (ih.E _ _ _ o _ _ e1)
    split at h
    · split at h
      case isFalse => cases h
      rename_i f p0 _ _ c
      simp only [Bool.and_eq_true] at c
      obtain ⟨cg, cn, cs⟩ := c
      obtain ⟨h1, h2, h3⟩ := okN_of cn
      have gl := glo_gl o cg
      obtain ⟨fs, e1, h⟩ := Option.bind_eq_some_iff.mp h
      have sa := ih.A _ _ _ o _ _ e1
      split at h
      · rename_i i e2
        cases h
        obtain ⟨q1, q2⟩ := o.cl i f (ixOf_get e2)
        have cS := q2.callS o.gs
        cases args with
        | nil =>
          have : fs = [] := by
            cases n <;> simp [cA] at e1
            exact e1
          subst this
          exact snd_call0 cS gl q1 h1
        | cons e es => exact snd_call cS gl q1 h1 sa cs (by simp)
      · split at h
        · cases h
        rename_i ne
        have ne' : args ≠ [] := ne_nil (by simpa using ne)
        split at h
        · rename_i c2
          have e := eq_of_beq c2
          split at h
          · rename_i gc
            cases h
            rw [e] at gl h1 ⊢
            exact snd_biM bi_gcd gl (o.gd gc) h1 sa cs ne'
          · cases h
        · obtain ⟨g, e2, rfl⟩ := Option.map_eq_some_iff.mp h
          exact blt_ok o cg cn e2 sa cs ne'
    · split at h
      case isFalse => cases h
      rename_i g i p c
      simp only [Bool.and_eq_true, Bool.not_eq_true'] at c
      obtain ⟨x, e1, h⟩ := Option.bind_eq_some_iff.mp h
      obtain ⟨fs, e2, rfl⟩ := Option.map_eq_some_iff.mp h
      exact snd_callV (fun i lt => (o.cl i _ (List.getElem?_eq_getElem lt)).2.callS o.gs) (ih.E _ _ _ o _ _ e1) (ih.A _ _ _ o _ _ e2) c.1 (ne_nil c.2) (call_eq rfl)
    · rename_i ob m p2 _ _
      have gen : ∀ (e : Expr) (es : List Expr), (if plainO ob && ((e :: es).all notStar && (decide ((e :: es).length + 0 + 0 < 30) && p2.endLine == pos.line)) then (mtD m).bind fun g => (cE call G N n sc ob).bind fun x => (cA call G N n sc (e :: es)).map fun fs => xMt g x fs else none) = some d →
          Snd fa ca X (.Call (.Attribute ob m p2) (e :: es) [] pos) d := fun e es h => by
        split at h
        case isFalse => cases h
        rename_i c
        rw [Bool.and_eq_true, Bool.and_eq_true, Bool.and_eq_true] at c
        obtain ⟨c1, c2, c3, c4⟩ := c
        obtain ⟨g, e0, h⟩ := Option.bind_eq_some_iff.mp h
        obtain ⟨x, e1, h⟩ := Option.bind_eq_some_iff.mp h
        obtain ⟨fs, e2, rfl⟩ := Option.map_eq_some_iff.mp h
        have s1 := ih.E _ _ _ o _ _ e1
        have s2 := ih.A _ _ _ o _ _ e2
        unfold mtD at e0
        split at e0
        · rename_i cm
          have em := eq_of_beq cm
          subst em
          cases e0
          exact snd_mt mt_idx PySem.F.slot_list_index PySem.F.type_list_index s1 s2 c2 c3 c4 (base_ok c1)
        split at e0
        · rename_i cm
          have em := eq_of_beq cm
          subst em
          cases e0
          exact snd_mt mt_cnt PySem.F.slot_list_count PySem.F.type_list_count s1 s2 c2 c3 c4 (base_ok c1)
        · cases e0
      split at h
      · rename_i e
        split at h
        · rename_i cm
          have em : m = ("get" : Str) := eq_of_beq cm
          subst em
          split at h
          case isFalse => cases h
          rename_i c
          simp only [Bool.and_eq_true] at c
          obtain ⟨x, e1, h⟩ := Option.bind_eq_some_iff.mp h
          obtain ⟨y, e2, rfl⟩ := Option.map_eq_some_iff.mp h
          obtain ⟨kk, hr⟩ := o.room
          exact snd_get1 hr (ih.E _ _ _ o _ _ e1) (ih.E _ _ _ o _ _ e2) (m1_of (base_ok c.1) c.2.1 c.2.2)
        · exact gen _ [] h
      · rename_i e b
        split at h
        · rename_i cm
          have em : m = ("get" : Str) := eq_of_beq cm
          subst em
          split at h
          case isFalse => cases h
          rename_i c
          simp only [Bool.and_eq_true] at c
          obtain ⟨x, e1, h⟩ := Option.bind_eq_some_iff.mp h
          obtain ⟨y, e2, h⟩ := Option.bind_eq_some_iff.mp h
          obtain ⟨z, e3, rfl⟩ := Option.map_eq_some_iff.mp h
          obtain ⟨kk, hr⟩ := o.room
          exact snd_get2 hr (ih.E _ _ _ o _ _ e1) (ih.E _ _ _ o _ _ e2) (ih.E _ _ _ o _ _ e3) (m2_of (base_ok c.1) c.2.1 c.2.2.1 c.2.2.2)
        · exact gen _ [_] h
      · exact gen _ _ h
      · cases h
    · cases h
  | Subscript a b pos =>
    simp only [cE] at h
    split at h
    · obtain ⟨x, e1, h⟩ := Option.bind_eq_some_iff.mp h
      obtain ⟨l, e2, h⟩ := Option.bind_eq_some_iff.mp h
      obtain ⟨y, e3, rfl⟩ := Option.map_eq_some_iff.mp h
      exact snd_slice (ih.E _ _ _ o _ _ e1) (ih.O _ _ _ o _ _ e2) (ih.O _ _ _ o _ _ e3)
    · split at h
      case isFalse => cases h
      rename_i c
      obtain ⟨x, e1, rfl⟩ := Option.map_eq_some_iff.mp h
      exact snd_rev (m1_pe c) (ih.E _ _ _ o _ _ e1)
    · split at h
      case isFalse => cases h
      rename_i c
      obtain ⟨x, e1, h⟩ := Option.bind_eq_some_iff.mp h
      obtain ⟨y, e3, rfl⟩ := Option.map_eq_some_iff.mp h
      obtain ⟨kk, hr⟩ := o.room
      exact snd_idx hr (ih.E _ _ _ o _ _ e1) (ih.E _ _ _ o _ _ e3) c
  | Dict keys values pos =>
    simp only [cE] at h
    split at h
    · cases h
      exact snd_dct0
    · cases h
  | List es pos =>
    simp only [cE] at h
    obtain ⟨x, e1, rfl⟩ := Option.map_eq_some_iff.mp h
    exact snd_lst (ih.D _ _ _ o _ _ e1)
  | Tuple es k pos =>
    simp only [cE] at h
    obtain ⟨x, e1, rfl⟩ := Option.map_eq_some_iff.mp h
    exact snd_tup (ih.D _ _ _ o _ _ e1)
  | ListComp elt gens scope pos =>
    simp only [cE] at h
    split at h
    · rename_i tg iter ifs
      split at h
      case isFalse => cases h
      rename_i c
      simp only [Bool.and_eq_true] at c
      obtain ⟨it, e1, h⟩ := Option.bind_eq_some_iff.mp h
      obtain ⟨⟨is, g⟩, e2, h⟩ := Option.bind_eq_some_iff.mp h
      obtain ⟨t, e3, h⟩ := Option.bind_eq_some_iff.mp h
      obtain ⟨x, e4, h⟩ := Option.bind_eq_some_iff.mp h
      split at h
      case isFalse => cases h
      rename_i c2
      cases h
      have bk := blkOk_by c.1
      have nd : X.N.Nodup := by rw [o.nm]; exact o.nd
      exact snd_lc (own := ownOf N scope.names) o.calm nd (ih.I _ _ _ o tg iter it e1) (by rw [o.nm, o.scq]; exact bk) (fun i hi => by
          rw [List.all_eq_true] at c2
          simpa using c2 i hi) (fun s H C cl fp => ((sndG_ok n _ _ _ (o.blk bk.kind s H C cl fp)).1 tg is g e2).1) (fun s H C cl fp => ih.Ts _ _ _ (o.blk bk.kind s H C cl fp) ifs t e3)
        (fun s H C cl fp => ih.E _ _ _ (o.blk bk.kind s H C cl fp) elt x e4) (notSet_ok c.2)
    · rename_i tg iter ifs tg1 iter1 ifs1
      split at h
      case isFalse => cases h
      rename_i c
      simp only [Bool.and_eq_true] at c
      obtain ⟨it, e1, h⟩ := Option.bind_eq_some_iff.mp h
      obtain ⟨⟨is, g⟩, e2, h⟩ := Option.bind_eq_some_iff.mp h
      obtain ⟨t, e3, h⟩ := Option.bind_eq_some_iff.mp h
      obtain ⟨it1, e5, h⟩ := Option.bind_eq_some_iff.mp h
      obtain ⟨⟨js, g1⟩, e6, h⟩ := Option.bind_eq_some_iff.mp h
      obtain ⟨t1, e7, h⟩ := Option.bind_eq_some_iff.mp h
      obtain ⟨x, e4, h⟩ := Option.bind_eq_some_iff.mp h
      split at h
      case isFalse => cases h
      rename_i c2
      cases h
      rw [Bool.and_eq_true] at c2
      have bk := blkOk_by c.1
      have nd : X.N.Nodup := by rw [o.nm]; exact o.nd
      exact snd_lc2 (own := ownOf N scope.names) o.calm nd (ih.I _ _ _ o tg iter it e1) (by rw [o.nm, o.scq]; exact bk) (fun i hi => by
          have z := c2.1
          rw [List.all_eq_true] at z
          simpa using z i hi) (fun i hi => by
          have z := c2.2
          rw [List.all_eq_true] at z
          simpa using z i hi) (fun s H C cl fp => ((sndG_ok n _ _ _ (o.blk bk.kind s H C cl fp)).1 tg is g e2).1) (fun s H C cl fp => ih.Ts _ _ _ (o.blk bk.kind s H C cl fp) ifs t e3)
        (fun s H C cl fp => ih.I _ _ _ (o.blk bk.kind s H C cl fp) tg1 iter1 it1 e5) (fun s H C cl fp => ((sndG_ok n _ _ _ (o.blk bk.kind s H C cl fp)).1 tg1 js g1 e6).1) (fun s H C cl fp => ih.Ts _ _ _ (o.blk bk.kind s H C cl fp) ifs1 t1 e7)
        (fun s H C cl fp => ih.E _ _ _ (o.blk bk.kind s H C cl fp) elt x e4) (notSet_ok c.2.1) (fun env => notSet_ok c.2.2)
    · cases h
  | DictComp kx elt gens scope pos =>
    simp only [cE] at h
    split at h
    case h_2 => cases h
    rename_i tg iter ifs
    split at h
    case isFalse => cases h
    rename_i c
    simp only [Bool.and_eq_true] at c
    obtain ⟨it, e1, h⟩ := Option.bind_eq_some_iff.mp h
    obtain ⟨⟨is, g⟩, e2, h⟩ := Option.bind_eq_some_iff.mp h
    obtain ⟨t, e3, h⟩ := Option.bind_eq_some_iff.mp h
    obtain ⟨k, e5, h⟩ := Option.bind_eq_some_iff.mp h
    obtain ⟨x, e4, h⟩ := Option.bind_eq_some_iff.mp h
    split at h
    case isFalse => cases h
    rename_i c2
    cases h
    have bk := blkOk_by c.1
    have nd : X.N.Nodup := by rw [o.nm]; exact o.nd
    exact snd_dc (own := ownOf N scope.names) o.calm nd (ih.I _ _ _ o tg iter it e1) (by rw [o.nm, o.scq]; exact bk) (fun i hi => by
        rw [List.all_eq_true] at c2
        simpa using c2 i hi) (fun s H C cl fp => ((sndG_ok n _ _ _ (o.blk bk.kind s H C cl fp)).1 tg is g e2).1) (fun s H C cl fp => ih.Ts _ _ _ (o.blk bk.kind s H C cl fp) ifs t e3)
      (fun s H C cl fp => ih.E _ _ _ (o.blk bk.kind s H C cl fp) kx k e5) (fun s H C cl fp => ih.E _ _ _ (o.blk bk.kind s H C cl fp) elt x e4) (notSet_ok c.2)
  | _ => simp [cE] at h
theorem sall_I {n : Nat} (ih : SAll fa ca call G N n) (fn : Str → Bool) (sc : Scope) (X : Cx) (o : Okx fa ca call G N fn sc X) (tg e : Expr) (d : Itr) (h : cI call G N (n + 1) sc (isTup tg) e = some d) : SndI fa ca X tg e d := by
  have seq : ∀ (e : Expr) (d : Itr), (cE call G N n sc e).map iSeq = some d → SndI fa ca X tg e d := fun e d h => by
    obtain ⟨x, e1, rfl⟩ := Option.map_eq_some_iff.mp h
    exact snd_seq (ih.E _ _ _ o _ _ e1)
  cases e with
  | Call f args kws p =>
    simp only [cI] at h
    split at h
    · split at h
      · rename_i f p0 a c
        simp only [Bool.and_eq_true] at c
        have e := eq_of_beq c.1.2
        subst e
        obtain ⟨x, e1, rfl⟩ := Option.map_eq_some_iff.mp h
        exact snd_range1 (glo_gl o c.1.1) (o.no _ (by decide)) c.2 (ih.E _ _ _ o _ _ e1)
      · split at h
        · rename_i f p0 a _ c
          simp only [Bool.and_eq_true] at c
          have e := eq_of_beq c.1.2
          subst e
          split at h
          · rename_i ht
            obtain ⟨x, e1, rfl⟩ := Option.map_eq_some_iff.mp h
            cases tg <;> simp only [isTup, Bool.false_eq_true] at ht
            exact snd_enum (glo_gl o c.1.1) (o.no _ (by decide)) c.2 (ih.E _ _ _ o _ _ e1)
          · cases h
        · exact seq _ _ h
    · split at h
      · rename_i f p0 a b c
        simp only [Bool.and_eq_true] at c
        have e := eq_of_beq c.1.2
        subst e
        obtain ⟨x, e1, h⟩ := Option.bind_eq_some_iff.mp h
        obtain ⟨y, e2, rfl⟩ := Option.map_eq_some_iff.mp h
        exact snd_range2 (glo_gl o c.1.1) (o.no _ (by decide)) c.2.1 c.2.2 (ih.E _ _ _ o _ _ e1) (ih.E _ _ _ o _ _ e2)
      · split at h
        · rename_i f p0 a b _ c
          simp only [Bool.and_eq_true] at c
          have e := eq_of_beq c.1.2
          subst e
          split at h
          · rename_i ht
            obtain ⟨x, e1, h⟩ := Option.bind_eq_some_iff.mp h
            obtain ⟨y, e2, rfl⟩ := Option.map_eq_some_iff.mp h
            cases tg <;> simp only [isTup, Bool.false_eq_true] at ht
            exact snd_zip (glo_gl o c.1.1) (o.no _ (by decide)) c.2.1 c.2.2 (ih.E _ _ _ o _ _ e1) (ih.E _ _ _ o _ _ e2)
          · cases h
        · exact seq _ _ h
    · split at h
      · rename_i f p0 a b cc c
        simp only [Bool.and_eq_true] at c
        have e := eq_of_beq c.1.2
        subst e
        obtain ⟨x, e1, h⟩ := Option.bind_eq_some_iff.mp h
        obtain ⟨y, e2, h⟩ := Option.bind_eq_some_iff.mp h
        obtain ⟨z, e3, rfl⟩ := Option.map_eq_some_iff.mp h
        exact snd_range3 (glo_gl o c.1.1) (o.no _ (by decide)) c.2.1 c.2.2.1 c.2.2.2 (ih.E _ _ _ o _ _ e1) (ih.E _ _ _ o _ _ e2) (ih.E _ _ _ o _ _ e3)
      · exact seq _ _ h
    · exact seq _ _ h
  | _ => exact seq _ _ (by simpa only [cI] using h)
theorem sall : ∀ n, SAll fa ca call G N n
  | 0 => ⟨fun _ _ _ _ _ _ h => by simp [cE] at h, fun _ _ _ _ _ _ _ _ h => by simp [cK] at h, fun _ _ _ _ _ _ h => by simp [cA] at h, fun _ _ _ _ _ _ h => by simp [cD] at h, fun _ _ _ _ _ _ h => by simp [cO] at h, fun _ _ _ _ _ _ _ h => by simp [cL] at h,
    fun _ _ _ _ _ _ _ h => by simp [cB] at h, fun _ _ _ _ _ _ h => by simp [cT] at h, fun _ _ _ _ _ _ _ h => by simp [cW] at h, fun _ _ _ _ _ _ h => by simp [cTs] at h, fun _ _ _ _ _ _ _ h => by simp [cI] at h⟩
  | n + 1 => by
    have ih := sall n
    refine ⟨sall_E ih, fun fn sc X o a ops cs d h pos => ?_, fun fn sc X o e d h => ?_, fun fn sc X o e d h => ?_, fun fn sc X o e d h => ?_, fun fn sc X o ops e d h => ?_, fun fn sc X o op e d h pos => ?_, fun fn sc X o e d h => ?_, fun fn sc X o op e d h pos => ?_, fun fn sc X o e d h => ?_, sall_I ih⟩
    · simp only [cK] at h
      split at h
      · split at h
        · cases h
        rename_i hm
        obtain ⟨f, e1, h⟩ := Option.bind_eq_some_iff.mp h
        obtain ⟨x, e2, h⟩ := Option.bind_eq_some_iff.mp h
        obtain ⟨y, e3, rfl⟩ := Option.map_eq_some_iff.mp h
        have s1 := ih.E _ _ _ o _ _ e2
        have s2 := ih.E _ _ _ o _ _ e3
        exact ⟨snd_cmp (copD_ok o.room e1) s1 s2 (by simpa using hm), sndT_cmp (copD_ok o.room e1) s1 s2 (by simpa using hm)⟩
      · split at h
        · cases h
        rename_i hm
        obtain ⟨x, e2, h⟩ := Option.bind_eq_some_iff.mp h
        obtain ⟨l, e3, rfl⟩ := Option.map_eq_some_iff.mp h
        have s1 := ih.E _ _ _ o _ _ e2
        have s2 := ih.L _ _ _ o _ _ _ e3
        exact ⟨snd_chain s1 s2 (by simpa using hm), sndT_chain s1 s2 (by simpa using hm)⟩
      · cases h
    · cases e with
      | nil => simp only [cA, Option.some.injEq] at h; subst h; exact sndA_nil
      | cons a es =>
        simp only [cA] at h
        split at h
        case isFalse => cases h
        rename_i c
        obtain ⟨x, e1, h⟩ := Option.bind_eq_some_iff.mp h
        obtain ⟨xs, e2, rfl⟩ := Option.map_eq_some_iff.mp h
        exact sndA_cons c (ih.E _ _ _ o _ _ e1) (ih.A _ _ _ o _ _ e2)
    · cases e with
      | nil => simp only [cD, Option.some.injEq] at h; subst h; exact sndD_nil
      | cons a es =>
        simp only [cD] at h
        split at h
        · obtain ⟨x, e1, h⟩ := Option.bind_eq_some_iff.mp h
          obtain ⟨xs, e2, rfl⟩ := Option.map_eq_some_iff.mp h
          exact sndD_star (ih.E _ _ _ o _ _ e1) (ih.D _ _ _ o _ _ e2)
        · split at h
          case isFalse => cases h
          rename_i c
          obtain ⟨x, e1, h⟩ := Option.bind_eq_some_iff.mp h
          obtain ⟨xs, e2, rfl⟩ := Option.map_eq_some_iff.mp h
          exact sndD_cons c (ih.E _ _ _ o _ _ e1) (ih.D _ _ _ o _ _ e2)
    · cases e with
      | none => simp only [cO, Option.some.injEq] at h; subst h; trivial
      | some a =>
        simp only [cO] at h
        obtain ⟨x, e1, rfl⟩ := Option.map_eq_some_iff.mp h
        exact ih.E _ _ _ o _ _ e1
    · cases ops with
      | nil =>
        cases e with
        | nil => simp only [cL, Option.some.injEq] at h; subst h; exact .nil
        | cons a es => simp [cL] at h
      | cons op ops =>
        cases e with
        | nil => simp [cL] at h
        | cons a es =>
          simp only [cL] at h
          obtain ⟨f, e0, h⟩ := Option.bind_eq_some_iff.mp h
          obtain ⟨x, e1, h⟩ := Option.bind_eq_some_iff.mp h
          obtain ⟨l, e2, rfl⟩ := Option.map_eq_some_iff.mp h
          exact .cons (copD_ok o.room e0) (ih.E _ _ _ o _ _ e1) (ih.L _ _ _ o _ _ _ e2)
    · simp only [cB] at h
      split at h
      · exact snd_one (ih.E _ _ _ o _ _ h)
      · obtain ⟨x, e1, h⟩ := Option.bind_eq_some_iff.mp h
        obtain ⟨y, e2, rfl⟩ := Option.map_eq_some_iff.mp h
        cases op with
        | And => exact snd_and (ih.E _ _ _ o _ _ e1) (ih.B _ _ _ o _ _ _ e2 pos)
        | Or => exact snd_or (ih.E _ _ _ o _ _ e1) (ih.B _ _ _ o _ _ _ e2 pos)
      · cases h
    · have val : ∀ (e : Expr) (d : Tst), isTest e = false → (cE call G N n sc e).map tOf = some d → SndT fa ca X e d := fun e d c h => by
        obtain ⟨x, e1, rfl⟩ := Option.map_eq_some_iff.mp h
        exact sndT_val (ih.E _ _ _ o _ _ e1) (test_val c)
      cases e with
      | UnaryOp op a pos =>
        cases op with
        | Not =>
          simp only [cT] at h
          obtain ⟨x, e1, rfl⟩ := Option.map_eq_some_iff.mp h
          exact sndT_not (ih.T _ _ _ o _ _ e1)
        | _ => exact val _ _ rfl (by simpa [cT, isTest] using h)
      | BoolOp op es pos =>
        simp only [cT] at h
        exact (ih.W _ _ _ o _ _ _ h pos).t
      | Compare a ops cs pos =>
        simp only [cT] at h
        obtain ⟨x, e1, rfl⟩ := Option.map_eq_some_iff.mp h
        exact (ih.K _ _ _ o _ _ _ _ e1 pos).2
      | IfExp c a b pos => simp [cT, isTest] at h
      | _ => exact val _ _ rfl (by simpa [cT, isTest] using h)
    · simp only [cW] at h
      split at h
      · cases op with
        | And => exact sndW_and1 (ih.T _ _ _ o _ _ h)
        | Or => exact sndW_or1 (ih.T _ _ _ o _ _ h)
      · obtain ⟨x, e1, h⟩ := Option.bind_eq_some_iff.mp h
        obtain ⟨y, e2, rfl⟩ := Option.map_eq_some_iff.mp h
        cases op with
        | And => exact sndW_and (ih.T _ _ _ o _ _ e1) (ih.W _ _ _ o _ _ _ e2 pos)
        | Or => exact sndW_or (ih.T _ _ _ o _ _ e1) (ih.W _ _ _ o _ _ _ e2 pos)
      · cases h
    · simp only [cTs] at h
      split at h
      · cases h; exact sndTs_nil
      · exact sndTs_one (ih.T _ _ _ o _ _ h)
      · cases h
end
end Rt
end
section
set_option linter.all false
set_option autoImplicit false
set_option Elab.async false
set_option maxRecDepth 100000
set_option maxHeartbeats 2000000
namespace Rt
open PySem PySem.Spec PyProof.Rows L2
def isLoc (sc : Scope) (x : Str) : Bool := match sc.names.lookup x with
  | some .local => true
  | _ => false
def isStar : Expr → Bool
  | .Starred _ _ => true
  | _ => false
def isCallN : Expr → Bool
  | .Call (.Name _ _) _ _ _ => true
  | _ => false
/-- [a, b] = .. two plain locals, stored from the right -/
def parOk (sc : Scope) (y z : Str) (py pz : Pos) (a b : Expr) : Bool :=
  isLoc sc y && (isLoc sc z && (py.line == pz.line && (!(y == z) && (notStar a && (notStar b && (!(foldedForSure 8 a && foldedForSure 8 b) && !(constantsAlone 8 a && constantsAlone 8 b)))))))
/-- .. one of them in a cell: stored through a pair -/
def parC (sc : Scope) (y z : Str) (a b : Expr) : Bool :=
  okT (fun _ => true) sc y && (okT (fun _ => true) sc z && ((!(isLoc sc y && isLoc sc z) || (foldedForSure 8 a && foldedForSure 8 b)) && (notStar a && notStar b)))
theorem okT_loc {sc : Scope} {y : Str} (h : okT (fun _ => true) sc y = true) : L2.Loc sc y := by
  simp only [okT, Bool.and_eq_true] at h
  have c2 := h.2
  unfold L2.Loc
  split at c2
  · exact .inl (by assumption)
  · exact .inr (by assumption)
  · cases c2
theorem parC_none {sc : Scope} {env : PySem.Env} {y z : Str} {py pz pt : Pos} {kt k2 : Nat} {pt2 : Pos} {a b : Expr} (e : env.scope = sc) (hk : sc.kind = .function) (h : parC sc y z a b = true) :
    swappedStores [.Tuple [.Name y py, .Name z pz] kt pt] (.Tuple [a, b] k2 pt2) env = pure none := by
  simp only [parC, Bool.and_eq_true, Bool.or_eq_true, Bool.not_eq_true', Bool.and_eq_false_iff] at h
  obtain ⟨_, _, h3, h5, h6⟩ := h
  have k3 : env.blockKind = .function := by unfold Env.blockKind; rw [e, hk]; rfl
  have nl : ∀ x : Str, isLoc sc x = false → (env.kindOf x == some NameKind.local) = false := fun x hx => by
    have : env.kindOf x = sc.names.lookup x := by show env.scope.names.lookup x = _; rw [e]
    rw [this]
    unfold isLoc at hx
    split at hx
    · cases hx
    · rename_i w
      cases q : sc.names.lookup x with
      | none => rfl
      | some k =>
        rw [q] at w
        cases k <;> first | rfl | exact absurd rfl (w · )
  unfold swappedStores
  simp only [List.length_cons, List.length_nil, k3, List.any_cons, List.any_nil, List.filterMap_cons, List.filterMap_nil, List.head?_cons, Option.map_some, Option.getD_some, Expr.pos]
  refine (if_neg (by decide)).trans ?_
  refine (if_neg (fun q => ?_)).trans ?_
  · simp only [Bool.or_eq_true, Bool.or_false] at q
    rcases q with q | q
    · cases a <;> first | exact absurd (show false = true from q) (by decide) | exact absurd (show false = true from h5) (by decide)
    · cases b <;> first | exact absurd (show false = true from q) (by decide) | exact absurd (show false = true from h6) (by decide)
  rcases h3 with h3 | hf
  · refine if_pos ?_
    rcases h3 with w | w
    · rw [nl y w]
      simp only [Bool.false_and, Bool.false_eq_true, if_false]
      by_cases q : (env.kindOf z == some NameKind.local && pz.line == py.line) = true
      · simp [q]
      · simp [q]
    · rw [nl z w]
      simp only [Bool.false_and, Bool.false_eq_true, if_false]
      by_cases q : env.kindOf y = some NameKind.local
      · simp [q]
      · simp [q]
  · obtain ⟨f1, f2⟩ := hf
    have ff : ∀ {α : Type} (c d : Prop) [Decidable c] [Decidable d] (x y : α), d → (if c then x else if d then x else y) = x := fun c d _ _ x y hd => by
      by_cases hc : c
      · rw [if_pos hc]
      · rw [if_neg hc, if_pos hd]
    exact ff _ _ _ _ (by simp [f1, f2])
theorem isLoc_of {sc : Scope} {x : Str} (h : isLoc sc x = true) : sc.names.lookup x = some .local := by
  unfold isLoc at h
  split at h
  · assumption
  · cases h
def par3Ok (sc : Scope) (y z w : Str) (py pz pw : Pos) (a b c : Expr) : Bool :=
  isLoc sc y && (isLoc sc z && (isLoc sc w && (py.line == pz.line && (py.line == pw.line && (!(y == z) && (!(y == w) && (!(z == w) && (notStar a && (notStar b && (notStar c && (!(foldedForSure 8 a && (foldedForSure 8 b && foldedForSure 8 c)) && !(constantsAlone 8 a && (constantsAlone 8 b && constantsAlone 8 c)))))))))))))
theorem par3_swap {sc : Scope} {env : PySem.Env} {y z w : Str} {py pz pw pt : Pos} {kt k2 : Nat} {pt2 : Pos} {a b c : Expr} (e : env.scope = sc) (hk : sc.kind = .function) (h : par3Ok sc y z w py pz pw a b c = true) :
    swappedStores [.Tuple [.Name y py, .Name z pz, .Name w pw] kt pt] (.Tuple [a, b, c] k2 pt2) env = pure (some [y, z, w]) := by
  simp only [par3Ok, Bool.and_eq_true, Bool.not_eq_true'] at h
  obtain ⟨h1, h2, h3, h4, h5, h6, h7, h8, h9, h10, h11, h12, h13⟩ := h
  have k1 : env.kindOf y = some .local := by show env.scope.names.lookup y = _; rw [e]; exact isLoc_of h1
  have k2 : env.kindOf z = some .local := by show env.scope.names.lookup z = _; rw [e]; exact isLoc_of h2
  have k2' : env.kindOf w = some .local := by show env.scope.names.lookup w = _; rw [e]; exact isLoc_of h3
  have k3 : env.blockKind = .function := by unfold Env.blockKind; rw [e, hk]; rfl
  have l3 : (pz.line == py.line) = true := by
    have := eq_of_beq h4
    rw [this]; exact beq_self_eq_true _
  have l4 : (pw.line == py.line) = true := by
    have := eq_of_beq h5
    rw [this]; exact beq_self_eq_true _
  unfold swappedStores
  simp only [List.length_cons, List.length_nil, k3, List.any_cons, List.any_nil, List.all_cons, List.all_nil, List.filterMap_cons, List.filterMap_nil, List.head?_cons, Option.map_some, Option.getD_some, Expr.pos]
  refine (if_neg (by decide)).trans ?_
  refine (if_neg (fun q => ?_)).trans ?_
  · simp only [Bool.or_eq_true, Bool.or_false] at q
    rcases q with q | q | q
    · cases a <;> first | exact absurd (show false = true from q) (by decide) | exact absurd (show false = true from h9) (by decide)
    · cases b <;> first | exact absurd (show false = true from q) (by decide) | exact absurd (show false = true from h10) (by decide)
    · cases c <;> first | exact absurd (show false = true from q) (by decide) | exact absurd (show false = true from h11) (by decide)
  simp only [k1, k2, k2', l3, l4, beq_self_eq_true, Bool.and_true, if_true]
  refine (if_neg (fun q => ?_)).trans ?_
  · have n1 : y ≠ z := fun q => by rw [q] at h6; simp at h6
    have n2 : y ≠ w := fun q => by rw [q] at h7; simp at h7
    have n3 : z ≠ w := fun q => by rw [q] at h8; simp at h8
    revert q
    simp [List.eraseDups_cons, n1, n2, n3, Ne.symm n1, Ne.symm n2, Ne.symm n3]
  refine (if_neg (fun q => ?_)).trans ?_
  · rw [q] at h12; cases h12
  refine (if_neg (fun q => ?_)).trans ?_
  · rw [q] at h13; cases h13
  rfl
theorem par_swap {sc : Scope} {env : PySem.Env} {y z : Str} {py pz pt : Pos} {kt k2 : Nat} {pt2 : Pos} {a b : Expr} (e : env.scope = sc) (hk : sc.kind = .function) (h : parOk sc y z py pz a b = true) :
    swappedStores [.Tuple [.Name y py, .Name z pz] kt pt] (.Tuple [a, b] k2 pt2) env = pure (some [y, z]) := by
  simp only [parOk, Bool.and_eq_true, Bool.not_eq_true', Bool.and_eq_false_iff] at h
  obtain ⟨h1, h2, h3, h4, h5, h6, h7, h8⟩ := h
  have k1 : env.kindOf y = some .local := by show env.scope.names.lookup y = _; rw [e]; exact isLoc_of h1
  have k2 : env.kindOf z = some .local := by show env.scope.names.lookup z = _; rw [e]; exact isLoc_of h2
  have k3 : env.blockKind = .function := by unfold Env.blockKind; rw [e, hk]; rfl
  have st : ∀ x : Expr, notStar x = true → (match x with | .Starred .. => true | _ => false) = false := fun x hx => by
    cases x <;> first | rfl | exact absurd hx (by simp [notStar])
  have l3 : (pz.line == py.line) = true := by
    have := eq_of_beq h3
    rw [this]; exact beq_self_eq_true _
  unfold swappedStores
  have n1 : ([.Name y py, .Name z pz] : List Expr).length = 2 := rfl
  simp only [List.length_cons, List.length_nil, k3, List.any_cons, List.any_nil, List.all_cons, List.all_nil, List.filterMap_cons, List.filterMap_nil, List.head?_cons, Option.map_some, Option.getD_some, Expr.pos]
  refine (if_neg (by decide)).trans ?_
  refine (if_neg (fun q => ?_)).trans ?_
  · simp only [Bool.or_eq_true, Bool.or_false] at q
    rcases q with q | q
    · cases a <;> first | exact absurd (show false = true from q) (by decide) | exact absurd (show false = true from h5) (by decide)
    · cases b <;> first | exact absurd (show false = true from q) (by decide) | exact absurd (show false = true from h6) (by decide)
  simp only [k1, k2, l3, beq_self_eq_true, Bool.and_true, if_true]
  refine (if_neg (fun q => ?_)).trans ?_
  · have ny : y ≠ z := fun w => by rw [w] at h4; simp at h4
    revert q
    simp [List.eraseDups_cons, h4, ny, Ne.symm ny]
  refine (if_neg (fun q => ?_)).trans ?_
  · rcases h7 with w | w <;> simp [w] at q
  refine (if_neg (fun q => ?_)).trans ?_
  · rcases h8 with w | w <;> simp [w] at q
  rfl
def hdF (nme : Str) : Stmt → Option HdF
  | .Return (some (.Attribute (.Name m _) f _)) _ => if m == nme && f == ("at" : Str) then some .at else none
  | .Return (some (.Tuple [.Constant (.str w) _ _, .Attribute (.Name m _) f _] _ _)) _ => if m == nme && f == ("at" : Str) then some (.word w) else none
  | _ => none
theorem hdF_ok {nme : Str} {st : Stmt} {f : HdF} (h : hdF nme st = some f) : f.ok nme st = true := by
  unfold hdF at h
  split at h
  · split at h
    · rename_i c
      cases h
      simp only [Bool.and_eq_true] at c
      have e := eq_of_beq c.2
      subst e
      exact c.1
    · cases h
  · split at h
    · rename_i c
      cases h
      simp only [Bool.and_eq_true] at c
      have e := eq_of_beq c.2
      subst e
      show (_ == _ && _ == _) = true
      rw [c.1, beq_self_eq_true]
      rfl
    · cases h
  · cases h
section
variable (call : Nat → Fn) (G : Gi) (N : List Str)
def cH (sc : Scope) : ExceptHandler → Option Hd
  | .ExceptHandler (some (.Name x _)) (some nme) [st] _ => if glo sc x && (okN x && (isLoc sc nme && okN nme)) then (ixOf G.cls x).bind fun h => (ixOf N nme).bind fun _ => (hdF nme st).map fun f => (fun c => G.up c h, f.val) else none
  | _ => none
def cHs (sc : Scope) : List ExceptHandler → Option (List Hd)
  | [] => some []
  | h :: hs => (cH G N sc h).bind fun x => (cHs sc hs).map fun xs => x :: xs
mutual
def cS : Nat → Scope → Stmt → Option Sm
  | 0, _, _ => none
  | n + 1, sc, st => match st with
    | .Pass _ => some sPass
    | .Expr e _ => (match e with
      | .Constant (.str _) _ _ => some sPass
      | .Call (.Attribute (.Name y p1) m p2) [a] [] p3 => if m == ("append" : Str) && (vis sc y && (okN y && (notStar a && p2.endLine == p3.line))) then (ixOf N y).bind fun i => (cE call G N n sc a).map (sApp i) else if m == ("extend" : Str) && (vis sc y && (okN y && (notStar a && p2.endLine == p3.line))) then (ixOf N y).bind fun i => (cE call G N n sc a).map (sExt i) else if m == ("remove" : Str) && (vis sc y && (okN y && (notStar a && p2.endLine == p3.line))) then (ixOf N y).bind fun i => (cE call G N n sc a).map (sRem i) else none
      | e => if plainV e then (cE call G N n sc e).map sExpr else none)
    | .Return e _ => (match e with
      | some e => (cE call G N n sc e).map sRet
      | none => some sRetN)
    | .Assign tgs e pos => (match tgs with
      | [.Name y p1] => if okT (fun _ => true) sc y then (ixOf N y).bind fun i => (match e with
          | .ListComp elt gs scope p2 => if isLoc sc y && p1.line == p2.line then (if scope.names.any fun (m, k) => m == y && (k == .local || k == .cell) then none else (cE call G N n sc (.ListComp elt gs scope p2)).map (sSet i)) else (cE call G N n sc (.ListComp elt gs scope p2)).map (sSet i)
          | e => if plainV e then (cE call G N n sc e).map (sSet i) else none) else none
      | [.Tuple ts k pt] => (match ts, e with
          | [.Name y py, .Name z pz], .Tuple [a, b] _ _ => if parOk sc y z py pz a b then (ixOf N y).bind fun i => (ixOf N z).bind fun j => if i == j then none else (cE call G N n sc a).bind fun x => (cE call G N n sc b).map fun w => (if isCallN a && isCallN b then sParU i j x w else sPar i j x w) else if parC sc y z a b then (ixOf N y).bind fun i => (ixOf N z).bind fun j => if i == j then none else (cE call G N n sc a).bind fun x => (cE call G N n sc b).map fun w => sPar i j x w else none
          | [.Name y py, .Name z pz, .Name w pw], .Tuple [a, b, c] _ _ => if par3Ok sc y z w py pz pw a b c then (ixOf N y).bind fun i => (ixOf N z).bind fun j => (ixOf N w).bind fun k => if i == j || (i == k || j == k) then none else (cE call G N n sc a).bind fun x => (cE call G N n sc b).bind fun u => (cE call G N n sc c).map fun v => sPar3 i j k x u v else none
          | ts, e => if plainV e && !isTup e then (cG N n (fun _ => true) sc (.Tuple ts k pt)).bind fun g => (cE call G N n sc e).map fun x => sTg g.2 x else none)
      | [.Subscript (.Name y p1) b p2] => if vis sc y && (okN y && (notSlice b && plainV e)) then (ixOf N y).bind fun i => (cE call G N n sc b).bind fun k => (cE call G N n sc e).map fun x => sPut i k x else none
      | _ => none)
    | .If c b o _ => (cT call G N n sc c).bind fun t => (cSs n sc b).bind fun x => (cSs n sc o).map fun y => sIf t x y
    | .For tg it b o _ => (match o with
      | [] => (match it with
        | .List es p => (cE call G N n sc (.List es p)).bind fun i => (cG N n (fun _ => true) sc tg).bind fun g => (cSs n sc b).map fun x => sFor g.2 (iSeqF i) x
        | it => if notSetE it then (cI call G N n sc (isTup tg) it).bind fun i => (cG N n (fun _ => true) sc tg).bind fun g => (cSs n sc b).map fun x => sFor g.2 i x else none)
      | _ => none)
    | .While c b o _ => (match o with
      | [] => (cT call G N n sc c).bind fun t => (cSs n sc b).map fun x => sWhile t x
      | _ => none)
    | .Raise e c _ => (match e, c with
      | some (.Call (.Name x _) [a] [] _), none => if glo sc x && (okN x && notStar a) then (ixOf G.cls x).bind fun c => (cE call G N n sc a).map fun y => sRaise c y else none
      | _, _ => none)
    | .Try b hs o f _ => (match hs, o, f with
      | h :: hs, [], [] => (cSs n sc b).bind fun x => (cHs G N sc (h :: hs)).map fun ds => sTry G.cls.length x ds
      | _, _, _ => none)
    | _ => none
def cSs : Nat → Scope → List Stmt → Option Sm
  | 0, _, _ => none
  | n + 1, sc, sts => (match sts with
    | [] => some sPass
    | [s] => cS n sc s
    | s :: s' :: r => (cS n sc s).bind fun x => (cSs n sc (s' :: r)).map fun y => sSeq x y)
end
end
/-- what statements want of the context -/
structure Oks (fa ca : Nat → Addr) (D0 fI : Addr) (G : Gi) (X : Cx) : Prop where
  stk : X.stack = X.env :: X.outer
  fr : X.env.frame = some X.env.locals
  pass : PassesOwn (model X.prog X.w) X.A X.env X.xe
  fnT : ∀ x, X.fn x = true
  eb : G.cls ≠ [] → ErrB X.prog X.K X.mg D0 fI
  ec : ∀ c x, G.cls[c]? = some x → X.mg x = some (.ref (ca c)) ∧ ErrC X.K D0 fI (ca c)
  em : ∀ c h, c < G.cls.length → h < G.cls.length → PySem.W.exmOne X.K (.ref (ca c)) (.ref (ca h)) = some (G.up c h)
section
variable {fa ca : Nat → Addr} {D0 fI : Addr} {call : Nat → Fn} {G : Gi} {N : List Str} {fn : Str → Bool} {sc : Scope} {X : Cx}
theorem Oks.tr (o : Oks fa ca D0 fI G X) {pn : List (Addr × Obj)} {xe : Value → Shared → Prop} (hp : PassesOwn (model X.prog X.w) X.A X.env xe) : Oks fa ca D0 fI G (X.tr pn xe) :=
  ⟨o.stk, o.fr, hp, o.fnT, o.eb, o.ec, o.em⟩
theorem Okx.tr (o : Okx fa ca call G N fn sc X) {pn : List (Addr × Obj)} {xe : Value → Shared → Prop} : Okx fa ca call G N fn sc (X.tr pn xe) where
  calm := o.calm
  nm := o.nm
  nd := o.nd
  scq := o.scq
  kind := o.kind
  cl := fun i x h => ⟨(o.cl i x h).1, (o.cl i x h).2.keep, (o.cl i x h).2.fn⟩
  co := o.co
  no := o.no
  gd := o.gd
  room := o.room
  gs := o.gs
  fnq := o.fnq
theorem cH_ok (o : Okx fa ca call G N fn sc X) (os : Oks fa ca D0 fI G X) {h : ExceptHandler} {hd : Hd} (e : cH G N sc h = some hd) : HdOk fa ca X D0 fI G.cls.length h hd := by
  unfold cH at e
  split at e
  · split at e
    case isFalse => cases e
    rename_i x _ nme st _ c
    simp only [Bool.and_eq_true] at c
    obtain ⟨c1, c2, c3, c4⟩ := c
    obtain ⟨h1, h2, h3⟩ := okN_of c2
    obtain ⟨n1, n2, n3⟩ := okN_of c4
    obtain ⟨hc, e1, e⟩ := Option.bind_eq_some_iff.mp e
    obtain ⟨i, e2, e⟩ := Option.bind_eq_some_iff.mp e
    obtain ⟨f, e3, e⟩ := Option.map_eq_some_iff.mp e
    subst e
    have g1 := ixOf_get e1
    refine ⟨x, nme, hc, i, _, _, st, f, rfl, ⟨glo_gl o c1, h1, .inl (os.ec hc x g1).1⟩, by rw [o.nm]; exact ixOf_get e2, by rw [o.scq]; exact isLoc_of c3, n1, n2, hdF_ok e3, fun _ => rfl, fun c lt => ?_⟩
    exact os.em c hc lt (List.getElem?_eq_some_iff.mp g1).1
  · cases e
theorem cHs_ok (o : Okx fa ca call G N fn sc X) (os : Oks fa ca D0 fI G X) : ∀ {hs : List ExceptHandler} {ds : List Hd}, cHs G N sc hs = some ds → HdsOkD fa ca X D0 fI G.cls.length hs ds
  | [], ds, e => by
    simp only [cHs, Option.some.injEq] at e
    subst e; exact .nil
  | h :: hs, ds, e => by
    simp only [cHs] at e
    obtain ⟨x, e1, e⟩ := Option.bind_eq_some_iff.mp e
    obtain ⟨xs, e2, rfl⟩ := Option.map_eq_some_iff.mp e
    exact .cons (cH_ok o os e1) (cHs_ok o os e2)
/-- a list comprehension, stored while its block runs -/
theorem lc_set {n : Nat} (o : Okx fa ca call G N fn sc X) {elt : Expr} {gens : List Comprehension} {scope : Scope} {p1 p2 pos : Pos} {d : Ex} {i : Nat} {y : Str} (h : cE call G N (n + 1) sc (.ListComp elt gens scope p2) = some d)
    (hy : X.N[i]? = some y) (hyl : X.env.scope.names.lookup y = some .local) (hsw : swapsWith (.ListComp elt gens scope p2) (some (.Name y p1)) pos.line X.env = pure true) : SndS fa ca X (.Assign [.Name y p1] (.ListComp elt gens scope p2) pos) (sSet i d) := by
  have ih := sall (fa := fa) (ca := ca) (call := call) (G := G) (N := N) n
  have nd : X.N.Nodup := by rw [o.nm]; exact o.nd
  simp only [cE] at h
  split at h
  · rename_i tg iter ifs
    split at h
    case isFalse => cases h
    rename_i c
    simp only [Bool.and_eq_true] at c
    obtain ⟨it, e1, h⟩ := Option.bind_eq_some_iff.mp h
    obtain ⟨⟨is, g⟩, e2, h⟩ := Option.bind_eq_some_iff.mp h
    obtain ⟨t, e3, h⟩ := Option.bind_eq_some_iff.mp h
    obtain ⟨x, e4, h⟩ := Option.bind_eq_some_iff.mp h
    split at h
    case isFalse => cases h
    rename_i c2
    cases h
    have bk := blkOk_by c.1
    exact sndS_setLc (own := ownOf N scope.names) o.calm nd hy hyl hsw (ih.I _ _ _ o tg iter it e1) (by rw [o.nm, o.scq]; exact bk) (fun i hi => by
        rw [List.all_eq_true] at c2
        simpa using c2 i hi) (fun s H C cl fp => ((sndG_ok n _ _ _ (o.blk bk.kind s H C cl fp)).1 tg is g e2).1) (fun s H C cl fp => ih.Ts _ _ _ (o.blk bk.kind s H C cl fp) ifs t e3)
      (fun s H C cl fp => ih.E _ _ _ (o.blk bk.kind s H C cl fp) elt x e4) (notSet_ok c.2)
  · rename_i tg iter ifs tg1 iter1 ifs1
    split at h
    case isFalse => cases h
    rename_i c
    simp only [Bool.and_eq_true] at c
    obtain ⟨it, e1, h⟩ := Option.bind_eq_some_iff.mp h
    obtain ⟨⟨is, g⟩, e2, h⟩ := Option.bind_eq_some_iff.mp h
    obtain ⟨t, e3, h⟩ := Option.bind_eq_some_iff.mp h
    obtain ⟨it1, e5, h⟩ := Option.bind_eq_some_iff.mp h
    obtain ⟨⟨js, g1⟩, e6, h⟩ := Option.bind_eq_some_iff.mp h
    obtain ⟨t1, e7, h⟩ := Option.bind_eq_some_iff.mp h
    obtain ⟨x, e4, h⟩ := Option.bind_eq_some_iff.mp h
    split at h
    case isFalse => cases h
    rename_i c2
    cases h
    rw [Bool.and_eq_true] at c2
    have bk := blkOk_by c.1
    exact sndS_setLc2 (own := ownOf N scope.names) o.calm nd hy hyl hsw (ih.I _ _ _ o tg iter it e1) (by rw [o.nm, o.scq]; exact bk) (fun i hi => by
        have z := c2.1
        rw [List.all_eq_true] at z
        simpa using z i hi) (fun i hi => by
        have z := c2.2
        rw [List.all_eq_true] at z
        simpa using z i hi) (fun s H C cl fp => ((sndG_ok n _ _ _ (o.blk bk.kind s H C cl fp)).1 tg is g e2).1) (fun s H C cl fp => ih.Ts _ _ _ (o.blk bk.kind s H C cl fp) ifs t e3)
      (fun s H C cl fp => ih.I _ _ _ (o.blk bk.kind s H C cl fp) tg1 iter1 it1 e5) (fun s H C cl fp => ((sndG_ok n _ _ _ (o.blk bk.kind s H C cl fp)).1 tg1 js g1 e6).1) (fun s H C cl fp => ih.Ts _ _ _ (o.blk bk.kind s H C cl fp) ifs1 t1 e7)
      (fun s H C cl fp => ih.E _ _ _ (o.blk bk.kind s H C cl fp) elt x e4) (notSet_ok c.2.1) (fun env => notSet_ok c.2.2)
  · cases h
theorem sw_lc {elt : Expr} {gs : List Comprehension} {scope : Scope} {pos py : Pos} {y : Str} {l : Nat} {env : PySem.Env} (e : env.scope = sc) (hk : sc.kind = .function) :
    swapsWith (.ListComp elt gs scope pos) (some (.Name y py)) l env = pure (isLoc sc y && py.line == pos.line && !(scope.names.any fun (m, k) => m == y && (k == .local || k == .cell))) := by
  have hb : env.blockKind = .function := by unfold Env.blockKind; rw [e, hk]; rfl
  have ky : (env.kindOf y == some .local) = isLoc sc y := by
    show (env.scope.names.lookup y == some .local) = isLoc sc y
    rw [e]
    unfold isLoc
    cases q : sc.names.lookup y with
    | none => rfl
    | some k => cases k <;> rfl
  show (pure (env.blockKind == .function && env.kindOf y == some .local && py.line == (Expr.ListComp elt gs scope pos).pos.line && !(scope.names.any fun (m, k) => m == y && (k == .local || k == .cell))) : Sem Bool) = _
  rw [hb, ky]
  rfl
structure SSt (fa ca : Nat → Addr) (D0 fI : Addr) (call : Nat → Fn) (G : Gi) (N : List Str) (n : Nat) : Prop where
  S : ∀ (fn : Str → Bool) (sc : Scope) (X : Cx), Okx fa ca call G N fn sc X → Oks fa ca D0 fI G X → ∀ (st : Stmt) (d : Sm), cS call G N n sc st = some d → SndS fa ca X st d
  Ss : ∀ (fn : Str → Bool) (sc : Scope) (X : Cx), Okx fa ca call G N fn sc X → Oks fa ca D0 fI G X → ∀ (st : List Stmt) (d : Sm), cSs call G N n sc st = some d → SndSs fa ca X st d
theorem sst : ∀ n, SSt fa ca D0 fI call G N n
  | 0 => ⟨fun _ _ _ _ _ _ _ h => by simp [cS] at h, fun _ _ _ _ _ _ _ h => by simp [cSs] at h⟩
  | n + 1 => by
    have ih := sst n
    have ihE := sall (fa := fa) (ca := ca) (call := call) (G := G) (N := N) n
    refine ⟨fun fn sc X o os st d h => ?_, fun fn sc X o os st d h => ?_⟩
    · have nd : X.N.Nodup := by rw [o.nm]; exact o.nd
      have oT : Okx fa ca call G N (fun _ => true) sc X := { o with fnq := fun x _ => os.fnT x }
      cases st with
      | Pass pos => simp only [cS, Option.some.injEq] at h; subst h; exact sndS_pass
      | Expr e pos =>
        simp only [cS] at h
        split at h
        · cases h; exact sndS_doc
        · split at h
          · rename_i y p1 m p2 a p3 c
            simp only [Bool.and_eq_true] at c
            obtain ⟨c1, c2, c3, c4, c5⟩ := c
            have e := eq_of_beq c1
            subst e
            obtain ⟨h1, h2, h3⟩ := okN_of c3
            obtain ⟨i, e1, h⟩ := Option.bind_eq_some_iff.mp h
            obtain ⟨x, e2, rfl⟩ := Option.map_eq_some_iff.mp h
            exact sndS_app (by rw [o.nm]; exact ixOf_get e1) (vis_vis o c2) h1 h2 c4 c5 (ihE.E _ _ _ o _ _ e2)
          · split at h
            case isFalse =>
              split at h
              case isFalse => cases h
              rename_i y p1 m p2 a p3 _ _ c
              simp only [Bool.and_eq_true] at c
              obtain ⟨c1, c2, c3, c4, c5⟩ := c
              have e := eq_of_beq c1
              subst e
              obtain ⟨h1, h2, h3⟩ := okN_of c3
              obtain ⟨i, e1, h⟩ := Option.bind_eq_some_iff.mp h
              obtain ⟨x, e2, rfl⟩ := Option.map_eq_some_iff.mp h
              exact sndS_rem (by rw [o.nm]; exact ixOf_get e1) (vis_vis o c2) h1 h2 c4 c5 (ihE.E _ _ _ o _ _ e2)
            rename_i y p1 m p2 a p3 _ c
            simp only [Bool.and_eq_true] at c
            obtain ⟨c1, c2, c3, c4, c5⟩ := c
            have e := eq_of_beq c1
            subst e
            obtain ⟨h1, h2, h3⟩ := okN_of c3
            obtain ⟨i, e1, h⟩ := Option.bind_eq_some_iff.mp h
            obtain ⟨x, e2, rfl⟩ := Option.map_eq_some_iff.mp h
            exact sndS_ext (by rw [o.nm]; exact ixOf_get e1) (vis_vis o c2) h1 h2 c4 c5 (ihE.E _ _ _ o _ _ e2)
        · split at h
          case isFalse => cases h
          rename_i c
          obtain ⟨x, e2, rfl⟩ := Option.map_eq_some_iff.mp h
          exact sndS_expr (ihE.E _ _ _ o _ _ e2) c
      | Return e pos =>
        simp only [cS] at h
        split at h
        · obtain ⟨x, e2, rfl⟩ := Option.map_eq_some_iff.mp h
          exact sndS_ret (ihE.E _ _ _ o _ _ e2)
        · cases h; exact sndS_retN
      | Assign tgs e pos =>
        simp only [cS] at h
        split at h
        · rename_i y p1
          split at h
          case isFalse => cases h
          rename_i c
          simp only [okT, Bool.and_eq_true] at c
          obtain ⟨i, e1, h⟩ := Option.bind_eq_some_iff.mp h
          have hi : X.N[i]? = some y := by rw [o.nm]; exact ixOf_get e1
          have lc : L2.Loc X.env.scope y := by
            have c2 := c.2
            unfold L2.Loc
            rw [o.scq]
            split at c2
            · exact .inl (by assumption)
            · exact .inr (by assumption)
            · cases c2
          split at h
          · rename_i elt gs scope p2 _
            have sw := sw_lc (elt := elt) (gs := gs) (scope := scope) (pos := p2) (py := p1) (y := y) (l := pos.line) o.scq o.kind
            split at h
            · rename_i c3
              simp only [Bool.and_eq_true] at c3
              split at h
              · cases h
              rename_i c4
              obtain ⟨x, e2, rfl⟩ := Option.map_eq_some_iff.mp h
              cases n with
              | zero => simp [cE] at e2
              | succ m =>
                refine lc_set o e2 hi (by rw [o.scq]; exact isLoc_of c3.1) ?_
                rw [sw, c3.1, c3.2]
                simp only [Bool.true_and, Bool.not_eq_true] at c4 ⊢
                rw [c4]
                rfl
            · rename_i c3
              obtain ⟨x, e2, rfl⟩ := Option.map_eq_some_iff.mp h
              refine sndS_set nd hi lc (ihE.E _ _ _ o _ _ e2) ?_ (.inl (os.fnT y))
              rw [sw]
              have c4 : (isLoc sc y && p1.line == p2.line) = false := by simpa using c3
              rw [c4]
              rfl
          · split at h
            case isFalse => cases h
            rename_i c3
            obtain ⟨x, e2, rfl⟩ := Option.map_eq_some_iff.mp h
            exact sndS_set nd hi lc (ihE.E _ _ _ o _ _ e2) (swaps_plain c3) (.inl (os.fnT y))
        · rename_i ts k pt
          split at h
          · rename_i y py z pz a b k2 pt2
            split at h
            case isFalse =>
              split at h
              case isFalse => cases h
              rename_i c
              have sw := parC_none (py := py) (pz := pz) (pt := pt) (kt := k) (k2 := k2) (pt2 := pt2) o.scq o.kind c
              simp only [parC, Bool.and_eq_true] at c
              obtain ⟨i, e1, h⟩ := Option.bind_eq_some_iff.mp h
              obtain ⟨j, e2, h⟩ := Option.bind_eq_some_iff.mp h
              split at h
              · cases h
              rename_i ne
              obtain ⟨x, e3, h⟩ := Option.bind_eq_some_iff.mp h
              obtain ⟨w, e4, rfl⟩ := Option.map_eq_some_iff.mp h
              exact sndS_parC o.calm nd (by rw [o.nm]; exact ixOf_get e1) (by rw [o.nm]; exact ixOf_get e2) (by rw [o.scq]; exact okT_loc c.1) (by rw [o.scq]; exact okT_loc c.2.1) (.inl (os.fnT y)) (.inl (os.fnT z)) c.2.2.2.1 c.2.2.2.2 rfl sw (ihE.E _ _ _ o _ _ e3) (ihE.E _ _ _ o _ _ e4)
            rename_i c
            have sw := par_swap (pt := pt) (kt := k) (k2 := k2) (pt2 := pt2) o.scq o.kind c
            simp only [parOk, Bool.and_eq_true] at c
            obtain ⟨i, e1, h⟩ := Option.bind_eq_some_iff.mp h
            obtain ⟨j, e2, h⟩ := Option.bind_eq_some_iff.mp h
            split at h
            · cases h
            rename_i ne
            obtain ⟨x, e3, h⟩ := Option.bind_eq_some_iff.mp h
            obtain ⟨w, e4, rfl⟩ := Option.map_eq_some_iff.mp h
            split
            · exact sndS_parU o.calm nd (by rw [o.nm]; exact ixOf_get e1) (by rw [o.nm]; exact ixOf_get e2) (by simpa using ne) (by rw [o.scq]; exact isLoc_of c.1) (by rw [o.scq]; exact isLoc_of c.2.1) c.2.2.2.2.1 c.2.2.2.2.2.1 sw (ihE.E _ _ _ o _ _ e3) (ihE.E _ _ _ o _ _ e4)
            · exact sndS_par o.calm nd (by rw [o.nm]; exact ixOf_get e1) (by rw [o.nm]; exact ixOf_get e2) (by simpa using ne) (by rw [o.scq]; exact isLoc_of c.1) (by rw [o.scq]; exact isLoc_of c.2.1) c.2.2.2.2.1 c.2.2.2.2.2.1 sw (ihE.E _ _ _ o _ _ e3) (ihE.E _ _ _ o _ _ e4)
          · split at h
            case isFalse => cases h
            rename_i c
            have sw := fun k2 pt2 => par3_swap (pt := pt) (kt := k) (k2 := k2) (pt2 := pt2) o.scq o.kind c
            simp only [par3Ok, Bool.and_eq_true] at c
            obtain ⟨i, e1, h⟩ := Option.bind_eq_some_iff.mp h
            obtain ⟨j, e2, h⟩ := Option.bind_eq_some_iff.mp h
            obtain ⟨l, e3, h⟩ := Option.bind_eq_some_iff.mp h
            split at h
            · cases h
            rename_i ne
            simp only [Bool.or_eq_true, beq_iff_eq, not_or] at ne
            obtain ⟨x, e4, h⟩ := Option.bind_eq_some_iff.mp h
            obtain ⟨u, e5, h⟩ := Option.bind_eq_some_iff.mp h
            obtain ⟨v, e6, rfl⟩ := Option.map_eq_some_iff.mp h
            exact sndS_par3 o.calm nd (by rw [o.nm]; exact ixOf_get e1) (by rw [o.nm]; exact ixOf_get e2) (by rw [o.nm]; exact ixOf_get e3) ne.1 ne.2.1 ne.2.2 (by rw [o.scq]; exact isLoc_of c.1) (by rw [o.scq]; exact isLoc_of c.2.1) (by rw [o.scq]; exact isLoc_of c.2.2.1) c.2.2.2.2.2.2.2.2.1 c.2.2.2.2.2.2.2.2.2.1 c.2.2.2.2.2.2.2.2.2.2.1 (sw _ _) (ihE.E _ _ _ o _ _ e4) (ihE.E _ _ _ o _ _ e5) (ihE.E _ _ _ o _ _ e6)
          · split at h
            case isFalse => cases h
            rename_i c
            simp only [Bool.and_eq_true, Bool.not_eq_true'] at c
            obtain ⟨⟨is, g⟩, e1, h⟩ := Option.bind_eq_some_iff.mp h
            obtain ⟨x, e2, rfl⟩ := Option.map_eq_some_iff.mp h
            refine sndS_tg ((sndG_ok n _ _ _ oT).1 _ is g e1).1 (ihE.E _ _ _ o _ _ e2) (sole_plain c.1) ?_ rfl
            cases e <;> first | rfl | exact absurd (show true = false from c.2) (by decide)
        · split at h
          case isFalse => cases h
          rename_i y p1 b p2 c
          simp only [Bool.and_eq_true] at c
          obtain ⟨c1, c2, c3, c4⟩ := c
          obtain ⟨h1, h2, h3⟩ := okN_of c2
          obtain ⟨i, e1, h⟩ := Option.bind_eq_some_iff.mp h
          obtain ⟨x, e2, h⟩ := Option.bind_eq_some_iff.mp h
          obtain ⟨w, e3, rfl⟩ := Option.map_eq_some_iff.mp h
          obtain ⟨kk, hr⟩ := o.room
          exact sndS_put hr (by rw [o.nm]; exact ixOf_get e1) (vis_vis o c1) h1 h2 (ihE.E _ _ _ o _ _ e2) (ihE.E _ _ _ o _ _ e3) c3 c4
        · cases h
      | If c b f pos =>
        simp only [cS] at h
        obtain ⟨t, e1, h⟩ := Option.bind_eq_some_iff.mp h
        obtain ⟨x, e2, h⟩ := Option.bind_eq_some_iff.mp h
        obtain ⟨y, e3, rfl⟩ := Option.map_eq_some_iff.mp h
        exact sndS_if (ihE.T _ _ _ o _ _ e1) (ih.Ss _ _ _ o os _ _ e2) (ih.Ss _ _ _ o os _ _ e3)
      | For tg it b f pos =>
        simp only [cS] at h
        split at h
        case h_2 => cases h
        split at h
        · obtain ⟨t, e1, h⟩ := Option.bind_eq_some_iff.mp h
          obtain ⟨⟨is, g⟩, e2, h⟩ := Option.bind_eq_some_iff.mp h
          obtain ⟨y, e3, rfl⟩ := Option.map_eq_some_iff.mp h
          exact sndS_for os.pass o.calm (snd_seqF (ihE.E _ _ _ o _ _ e1)) ((sndG_ok n _ _ _ oT).1 _ is g e2).1 (ih.Ss _ _ _ o os _ _ e3) (fun x => rfl)
        split at h
        case isFalse => cases h
        rename_i c
        obtain ⟨t, e1, h⟩ := Option.bind_eq_some_iff.mp h
        obtain ⟨⟨is, g⟩, e2, h⟩ := Option.bind_eq_some_iff.mp h
        obtain ⟨y, e3, rfl⟩ := Option.map_eq_some_iff.mp h
        exact sndS_for os.pass o.calm (ihE.I _ _ _ o _ _ _ e1).toJ ((sndG_ok n _ _ _ oT).1 _ is g e2).1 (ih.Ss _ _ _ o os _ _ e3) (notSet_ok c)
      | While c b f pos =>
        simp only [cS] at h
        split at h
        case h_2 => cases h
        obtain ⟨t, e1, h⟩ := Option.bind_eq_some_iff.mp h
        obtain ⟨y, e3, rfl⟩ := Option.map_eq_some_iff.mp h
        exact sndS_while os.pass (ihE.T _ _ _ o _ _ e1) (ih.Ss _ _ _ o os _ _ e3)
      | Raise e c pos =>
        simp only [cS] at h
        split at h
        · split at h
          case isFalse => cases h
          rename_i x _ a _ c
          simp only [Bool.and_eq_true] at c
          obtain ⟨c1, c2, c3⟩ := c
          obtain ⟨h1, h2, h3⟩ := okN_of c2
          obtain ⟨i, e1, h⟩ := Option.bind_eq_some_iff.mp h
          obtain ⟨y, e2, rfl⟩ := Option.map_eq_some_iff.mp h
          have g1 := ixOf_get e1
          obtain ⟨q1, q2⟩ := os.ec i x g1
          have hd : X.A.depth + 1 < recursionLimit := by
            obtain ⟨k, hr⟩ := o.room
            have := hr.dp
            omega
          exact sndS_raise (os.eb fun z => by rw [z] at g1; simp at g1) q2 q1 o.calm hd (glo_gl o c1) h1 c3 (ihE.E _ _ _ o _ _ e2)
        · cases h
      | Try b hs f g pos =>
        simp only [cS] at h
        split at h
        · obtain ⟨x, e1, h⟩ := Option.bind_eq_some_iff.mp h
          obtain ⟨ds, e2, rfl⟩ := Option.map_eq_some_iff.mp h
          exact sndS_try os.stk os.fr nd (cHs_ok o os e2) (fun c lt => (os.ec c _ (List.getElem?_eq_getElem lt)).2) (fun _ => rfl) fun pn xe hp => ih.Ss _ _ _ o.tr (os.tr hp) _ _ e1
        · cases h
      | _ => simp [cS] at h
    · simp only [cSs] at h
      split at h
      · cases h; exact sndSs_nil
      · exact sndSs_one (ih.S _ _ _ o os _ _ h)
      · obtain ⟨x, e1, h⟩ := Option.bind_eq_some_iff.mp h
        obtain ⟨y, e2, rfl⟩ := Option.map_eq_some_iff.mp h
        exact sndSs_cons (ih.S _ _ _ o os _ _ e1) (ih.Ss _ _ _ o os _ _ e2)
end
end Rt
end
section
set_option linter.all false
set_option autoImplicit false
set_option Elab.async false
set_option maxRecDepth 100000
set_option maxHeartbeats 2000000
namespace Rt
open PySem PySem.Spec PyProof.Rows L2
/-! ## A law's table of defs -/
structure Dd where
  nm : Str
  st : Stmt
  N : List Str
  body : Body
def Dd.ps (d : Dd) : List Str := (defArgs d.st).args.map (·.arg)
def Dd.df (d : Dd) : Df := ⟨d.ps.length, d.N.length, d.body⟩
def Dd.at_ (d : Dd) : He.DefD := ⟨(d.nm, none), d.nm, d.nm, defArgs d.st, defBody d.st, defScope d.st, [], []⟩
def tblT (l : List Dd) : Nat → Option Df := fun i => (l[i]?).map Dd.df
def scopeB (N ps : List Str) (sc : Scope) : Bool := (match sc.kind with | .function => true | _ => false) && (!sc.isCoroutine && (!sc.isGenerator && (decide N.Nodup && (decide (N.take ps.length = ps) && ((ps.all fun x => match sc.names.lookup x with | some .local => true | some .cell => true | _ => false) && sc.names.all fun y => match y.2 with | .free => false | _ => true)))))
theorem scopeB_ok {N ps : List Str} {sc : Scope} (h : scopeB N ps sc = true) : FnScope N ps sc := by
  simp only [scopeB, Bool.and_eq_true, Bool.not_eq_true', decide_eq_true_eq, List.all_eq_true] at h
  obtain ⟨h1, h2, h3, h4, h5, h6, h7⟩ := h
  refine ⟨?_, h2, h3, h4, h5, fun x hx => ?_, fun y hy e => ?_⟩
  · split at h1
    · assumption
    · cases h1
  · have q := h6 x hx
    split at q
    · exact .inl (by assumption)
    · exact .inr (by assumption)
    · cases q
  · have q := h7 y hy
    rw [e] at q
    cases q
structure Dd.good (G : Gi) (d : Dd) : Prop where
  sc : scopeB d.N d.ps (defScope d.st) = true
  bd : ∀ (kV doc pm : Value) (an : Option Addr) (cdv ct : Value) (us : List Value), us.length = d.ps.length → bindArgs (PySem.W.fnOf d.nm d.nm (defArgs d.st) (defBody d.st) (defScope d.st) .none kV doc pm an cdv ct) ⟨us, []⟩ = pure (d.ps.zip us)
  cm : ∃ fuel, ∀ call, cSs call G d.N fuel (defScope d.st) (defBody d.st) = some (d.body call)
/-- the module's names, as the reading tells them -/
structure Mg (fa ca : Nat → Addr) (D0 fI : Addr) (P : Program) (K : PySem.W.Frag) (mg : Str → Option Value) (G : Gi) : Prop where
  fn : ∀ i x, G.fns[i]? = some x → mg x = some (.ref (fa i))
  co : ∀ x d, lkC G.cons x = some d → ∃ v u, mg x = some u ∧ RelV v u ∧ ∀ Z, Rep fa K Z d v
  no : ∀ x, bltNames.contains x = true → mg x = none
  gd : G.gcd = true → mg "gcd" = some (.builtin "math.gcd")
  eb : G.cls ≠ [] → ErrB P K mg D0 fI
  ec : ∀ c x, G.cls[c]? = some x → mg x = some (.ref (ca c)) ∧ ErrC K D0 fI (ca c)
  em : ∀ c h, c < G.cls.length → h < G.cls.length → PySem.W.exmOne K (.ref (ca c)) (.ref (ca h)) = some (G.up c h)
theorem all_fns {fa ca : Nat → Addr} {D0 fI : Addr} {P : Program} {w : World} {K : PySem.W.Frag} {mg : Str → Option Value} {base : Heap} {G : Gi} {l : List Dd} (M : Mg fa ca D0 fI P K mg G) (hG : G.fns = l.map Dd.nm) (good : ∀ d ∈ l, d.good G)
    (hF : ∀ (i : Nat) (d : Dd), l[i]? = some d → ∃ fd, FunD K d.nm d.nm (defArgs d.st) (defBody d.st) (defScope d.st) [] [] (fa i) fd) :
    ∀ (n i : Nat) (d : Dd), l[i]? = some d → ∃ fd, FunD K d.nm d.nm (defArgs d.st) (defBody d.st) (defScope d.st) [] [] (fa i) fd ∧ FnG P w K mg base n (fa i) fd d.ps (spF fa ca K (run (tblT l) n i) d.ps.length) ∧ Binds K fd d.ps [] := by
  have binds : ∀ (i : Nat) (d : Dd), l[i]? = some d → ∀ fd, FunD K d.nm d.nm (defArgs d.st) (defBody d.st) (defScope d.st) [] [] (fa i) fd → Binds K fd d.ps [] := fun i d e fd F => by
    exact F.bindsN (good d (List.mem_of_getElem? e)).bd
  have nobad : ∀ (n i : Nat) (d : Dd), l[i]? = some d → ∀ ds, ds.length ≠ d.ps.length → run (tblT l) n i ds = .bad := fun n i d e ds hl => by
    cases n with
    | zero => rfl
    | succ n =>
      unfold run tblT
      rw [e]
      show (if ds.length = d.ps.length then _ else R.bad) = .bad
      rw [if_neg hl]
  intro n
  induction n with
  | zero =>
    intro i d e
    obtain ⟨fd, F⟩ := hF i d e
    refine ⟨fd, F, ⟨fun vs H Q E ⟨U, ds, _, _, _, z⟩ => False.elim z, fun A outer s H args us vs Q E _ _ _ _ _ ⟨U, ds, _, _, _, z⟩ => False.elim z⟩, binds i d e fd F⟩
  | succ n ih =>
    intro i d e
    obtain ⟨fd, F⟩ := hF i d e
    have gd := good d (List.mem_of_getElem? e)
    refine ⟨fd, F, ?_, binds i d e fd F⟩
    obtain ⟨oc, od, dV, kV, doc, pm, an, cdv, ct, osl, efd, lk, hcd, _, _⟩ := F.ex
    have S := scopeB_ok gd.sc
    obtain ⟨fuel, cm⟩ := gd.cm
    have er : run (tblT l) (n + 1) i = fun ds => if ds.length = d.ps.length then ends (d.body (run (tblT l) n) (begin_ d.N.length ds)) else .bad := by
      funext ds
      show (match tblT l i with | some f => if ds.length = f.arity then ends (f.body (run (tblT l) n) (begin_ f.slots ds)) else .bad | none => .bad) = _
      unfold tblT
      rw [e]
      rfl
    rw [er, efd]
    rw [efd] at lk
    refine fnG_body lk hcd S fun A outer s H E hr hg => ?_
    have okx : Okx fa ca (run (tblT l) n) G d.N (fun _ => true) (defScope d.st) (cxOf (CX P w) P w K mg base d.N d.nm (defScope d.st) (fa i) cdv A outer s H E) :=
      { calm := rfl, nm := rfl, nd := S.nd, scq := rfl, kind := S.kind, co := M.co, no := M.no, gd := M.gd, room := ⟨n, hr⟩, gs := hg, fnq := fun _ _ => rfl
        cl := fun j x hj => by
          refine ⟨M.fn j x hj, ?_⟩
          rw [hG, List.getElem?_map] at hj
          obtain ⟨dj, ej, _⟩ := Option.map_eq_some_iff.mp hj
          obtain ⟨fdj, Fj, Gj, Bj⟩ := ih j dj ej
          exact ⟨Fj.kp, n, fdj, dj.ps, Gj, Bj, hr, nobad n j dj ej⟩ }
    have oks : Oks fa ca D0 fI G (cxOf (CX P w) P w K mg base d.N d.nm (defScope d.st) (fa i) cdv A outer s H E) :=
      ⟨rfl, rfl, passes_of rfl, fun _ => rfl, M.eb, M.ec, M.em⟩
    exact (sst fuel).Ss _ _ _ okx oks _ _ (cm (run (tblT l) n))
/-- the law's own end -/
theorem law_sp {fa ca : Nat → Addr} {K : PySem.W.Frag} {F : Fn} {H : Hp} {a : Addr} {ns : List Int} (hF : F [.scr ns] = .ok (.bl true, false)) (only : Only H) (sq : SqL K H a (ns.map V.int)) : spF fa ca K F 1 [.ref a] H (fun v _ => v = .bl true) fun _ _ _ => False := by
  refine ⟨fun _ => False, [.scr ns], fun b z => z.elim, .one ?_, rfl, ?_⟩
  · simp only [Rep]
    refine ⟨a, rfl, ?_⟩
    rcases sq with q | q
    · refine .inl ?_
      rcases q with q | ⟨o, q⟩
      · rcases only a with z | ⟨o, xs, z⟩
        · rw [q] at z; cases z
        · rw [q] at z; cases z
      · refine .inr ⟨o, ?_⟩
        have e : hide H (fun _ => False) a = some (.frz o (.lst (ns.map V.int))) := by
          rw [hide_at fun z => z]
          exact q
        simp only [e]
    · exact .inr q
  · rw [hF]
    intro v H' _ r
    have r' : Rep fa K (hide H' fun _ => False) (.bl true) v := r
    simpa only [Rep] using r'
end Rt
end
section
set_option linter.all false
set_option autoImplicit false
set_option Elab.async false
set_option maxRecDepth 100000
set_option maxHeartbeats 2000000
namespace Rt
open PySem PySem.Spec PyProof.Rows L2
open PySem.W (Frag nsIn findIn keepIn subIn typeIn hasDictIn clsIn mroIn codeIn exmOne ks_superIn)
/-! ## What the head leaves, checked -/
def scN : Str := "ScheduleError"
def gaN (K : Frag) (l : List Str) (i : Nat) : Addr := match l[i]? with
  | some x => He.ga K x
  | none => 0
mutual
/-- the constant is the tree -/
def conB (K : Frag) : D → Value → Bool
  | .int i, .int j _ => decide (i = j)
  | .str x, .str y _ => decide (x = y)
  | .bl b, .bool c => b == c
  | .non, .none => true
  | .tup ds, .ref a => (match K.lookup a with
    | some ⟨.type c, _, .seq its _, _⟩ => decide (c = "tuple") && (decide (its.size ≤ sizeLine) && conBL K ds its.toList)
    | _ => false)
  | _, _ => false
def conBL (K : Frag) : List D → List Value → Bool
  | [], [] => true
  | d :: ds, u :: us => conB K d u && conBL K ds us
  | _, _ => false
end
mutual
theorem conB_ok {fa : Nat → Addr} {K : Frag} : ∀ (d : D) (u : Value), conB K d u = true → ∃ v, RelV v u ∧ ∀ Z, Rep fa K Z d v
  | .int i, u, h => by
    cases u <;> simp only [conB, decide_eq_true_eq, Bool.false_eq_true] at h
    subst h
    exact ⟨.int i, ⟨_, rfl⟩, fun Z => by simp only [Rep]⟩
  | .str i, u, h => by
    cases u <;> simp only [conB, decide_eq_true_eq, Bool.false_eq_true] at h
    subst h
    exact ⟨.str i, ⟨_, rfl⟩, fun Z => by simp only [Rep]⟩
  | .bl i, u, h => by
    cases u <;> simp only [conB, beq_iff_eq, Bool.false_eq_true] at h
    subst h
    exact ⟨.bl i, rfl, fun Z => by simp only [Rep]⟩
  | .non, u, h => by
    cases u <;> simp only [conB, Bool.false_eq_true] at h
    exact ⟨.non, rfl, fun Z => by simp only [Rep]⟩
  | .tup ds, u, h => by
    cases u with
    | ref a => ?_
    | _ => simp [conB] at h
    simp only [conB] at h
    split at h
    · rename_i c od its n sl e
      simp only [Bool.and_eq_true, decide_eq_true_eq] at h
      obtain ⟨rfl, hz, hl⟩ := h
      obtain ⟨vs, q1, q2⟩ := conBL_ok (fa := fa) ds its.toList hl
      refine ⟨.ref a, rfl, fun Z => ?_⟩
      simp only [Rep]
      exact ⟨a, vs, rfl, .inr ⟨_, its, n, e, rfl, rfl, hz, q1⟩, q2 Z⟩
    · cases h
  | .lst _, u, h => by cases u <;> simp [conB] at h
  | .dct _ _, u, h => by cases u <;> simp [conB] at h
  | .set _, u, h => by cases u <;> simp [conB] at h
  | .rep _, u, h => by cases u <;> simp [conB] at h
  | .fn _, u, h => by cases u <;> simp [conB] at h
  | .scr _, u, h => by cases u <;> simp [conB] at h
theorem conBL_ok {fa : Nat → Addr} {K : Frag} : ∀ (ds : List D) (us : List Value), conBL K ds us = true → ∃ vs, Vals vs us ∧ ∀ Z, RepL fa K Z ds vs
  | [], us, h => by
    cases us with
    | nil => exact ⟨[], .nil, fun Z => by simp [RepL]⟩
    | cons u us => simp [conBL] at h
  | d :: ds, us, h => by
    cases us with
    | nil => simp [conBL] at h
    | cons u us =>
      simp only [conBL, Bool.and_eq_true] at h
      obtain ⟨v, q1, q2⟩ := conB_ok (fa := fa) d u h.1
      obtain ⟨vs, q3, q4⟩ := conBL_ok (fa := fa) ds us h.2
      exact ⟨v :: vs, .cons q1 q3, fun Z => .cons_ (q2 Z) (q4 Z)⟩
end
def conG (K : Frag) (x : Str) (d : D) : Bool := match nsIn K mainGlobals x with
  | some (some u) => conB K d u
  | _ => false
def clsB (K : Frag) (C : Addr) : Bool := match K.lookup C with
  | some ⟨.type t, _, .cls cd, sl⟩ => decide (t = "type") && (match cd.mro, sl.toList with
    | .ref C' :: bm, [_, _, _, _, some (.builtin n), _] => decide (C' = C) && (decide (n = "ValueError.__new__") && (!cd.hasDel && (cd.hasDict && HandSPX.refsVE bm)))
    | _, _ => false)
  | _ => false
theorem clsB_ok {K : Frag} {C : Addr} (h : clsB K C = true) : ∃ nm q N bs bm sn sub ab col dd k0 k1 k2 k3 k5, K.lookup C = some (excClassObj nm q C N bs bm true sn sub ab col dd k0 k1 k2 k3 k5 "ValueError.__new__") ∧ HandSPX.refsVE bm = true := by
  unfold clsB at h
  split at h
  · rename_i t dd cd sl ho
    simp only [Bool.and_eq_true, decide_eq_true_eq] at h
    obtain ⟨rfl, h⟩ := h
    split at h
    · rename_i C' bm k0 k1 k2 k3 n k5 hm hs
      simp only [Bool.and_eq_true, decide_eq_true_eq, Bool.not_eq_true'] at h
      obtain ⟨rfl, rfl, h1, h2, h3⟩ := h
      obtain ⟨nm, bs, mro, ns, qn, hd, sn, sub, ab, col, del⟩ := cd
      dsimp only at hm h1 h2
      subst hm h1 h2
      have es : sl = #[k0, k1, k2, k3, some (.builtin "ValueError.__new__"), k5] := by
        obtain ⟨l⟩ := sl
        simp only at hs
        rw [hs]
      subst es
      exact ⟨nm, qn, ns, bs, bm, sn, sub, ab, col, dd, k0, k1, k2, k3, k5, ho, h3⟩
    · cases h
  · cases h
def errCB (K : Frag) (D0 fI C : Addr) : Bool :=
  clsB K C && (decide (findIn K (.ref C) "__setattr__" = some (some (.builtin "object.__setattr__"))) && (decide (findIn K (.ref C) "__getattribute__" = some (some (.builtin "BaseException.__getattribute__"))) && (decide (findIn K (.ref C) "__getattr__" = some none) &&
  (decide (findIn K (.ref C) "at" = some none) && (decide (findIn K (.ref C) "__init__" = some (some (.ref fI))) && (keepIn K (.ref C) && (decide (subIn K (.ref C) (.type "BaseException") = some true) && (decide (typeIn K (.ref C) = some (.type "type")) && (hasDictIn K C &&
  (decide (ks_superIn K C D0 "__init__" = some (some (.builtin "ValueError.__init__"))) && (decide (mroIn K C (.ref D0) = some true) && decide (subIn K (.ref C) (.type "ValueError") = some true))))))))))))
theorem errCB_ok {K : Frag} {D0 fI C : Addr} (h : errCB K D0 fI C = true) : ErrC K D0 fI C := by
  simp only [errCB, Bool.and_eq_true, decide_eq_true_eq] at h
  obtain ⟨h1, h2, h3, h4, h5, h6, h7, h8, h9, h10, h11, h12, h13⟩ := h
  exact ⟨clsB_ok h1, h2, h3, h4, h5, h6, h7, h8, h9, h10, h11, h12, h13⟩
/-- the base class's __init__ -/
abbrev InV : Type := Option (Str × Arguments × FuncBody × Scope × Addr × Value × Value × Addr)
def initV (K : Frag) (fI : Addr) : InV := match K.lookup fI with
  | some ⟨_, _, .func fd, _⟩ => some (fd.name, fd.params, fd.body, fd.scope, fd.globals, fd.defaults, fd.kwdefaults, fd.builtins)
  | _ => none
def clsInit (st : Stmt) : Stmt := match st with
  | .ClassDef _ _ _ (s :: _) _ _ _ _ _ _ _ => s
  | s => s
def initW (st : Stmt) : InV := some ("__init__", defArgs (clsInit st), .stmts (defBody (clsInit st)), defScope (clsInit st), mainGlobals, .none, .none, builtinsNs)
def errBB (P : Program) (K : Frag) (D0 fI : Addr) : Bool :=
  (match K.lookup fI with
  | some ⟨_, _, .func fd, _⟩ => (match fd.closure, fd.code with
    | [(n, cc)], .ref cda => decide (n = "__class__") && ((match K.lookup cc with
      | some ⟨_, _, .cell (some (.ref d)), _⟩ => decide (d = D0)
      | _ => false) && (codeIn K (.ref cda) fd.qualname && (match K.lookup cda with
      | some ⟨_, _, .fields vs, _⟩ => (match vs[2]? with
        | some (Value.str file _) => (P.main.file : Str) == file
        | _ => false)
      | _ => false)))
    | _, _ => false)
  | _ => false) && ((clsIn K D0).isSome && (decide (nsIn K cStatics "thirdparty.any" = some none) && (decide (nsIn K mainGlobals "super" = some none) && (!(P.main.scope.names.lookup ("super" : Str)).isSome && decide (typeIn K (.ref fI) = some (.type "function"))))))
theorem errBB_ok {P : Program} {K : Frag} {D0 fI : Addr} {h : Heap} {mg : Str → Option Value} (X : K.In h) (G : h.Ns mainGlobals mg) {st : Stmt} (e : initV K fI = initW st) (c : errBB P K D0 fI = true)
    (he : ∃ (p1 p2 q1 q2 q3 q4 q5 q6 q7 q8 q9 q10 : Pos), (q3.endLine == q5.line) = true ∧ defArgs (clsInit st) = eA p1 p2 ∧ defBody (clsInit st) = eB q1 q2 q3 q4 q5 q6 q7 q8 q9 q10 ∧ defScope (clsInit st) = eS) : ErrB P K mg D0 fI := by
  obtain ⟨p1, p2, q1, q2, q3, q4, q5, q6, q7, q8, q9, q10, hline, w1, w2, w3⟩ := he
  unfold errBB at c
  simp only [Bool.and_eq_true, decide_eq_true_eq, Bool.not_eq_true'] at c
  obtain ⟨c1, c2, c3, c4, c5, c6⟩ := c
  refine ⟨?_, Option.isSome_iff_exists.mp c2, c3, PySem.W.mg_none_of X G c4, c5, c6⟩
  unfold initV at e
  split at c1
  · rename_i oc od fd osl lk
    rw [lk] at e
    unfold initW at e
    rw [w1, w2, w3] at e
    obtain ⟨n1, n2, n3, n4, n5, n6, n7, n8, n9, n10, n11, n12, n13, n14, n15⟩ := fd
    dsimp only at e c1
    simp only [Option.some.injEq, Prod.mk.injEq] at e
    obtain ⟨r1, r2, r3, r4, r5, r6, r7, r8⟩ := e
    subst r1 r2 r3 r4 r5 r6 r7 r8
    split at c1
    · rename_i n cc cda
      simp only [Bool.and_eq_true, decide_eq_true_eq] at c1
      obtain ⟨rfl, d1, d2, d3⟩ := c1
      refine ⟨oc, od, _, _, _, _, cda, _, cc, osl, p1, p2, q1, q2, q3, q4, q5, q6, q7, q8, q9, q10, hline, lk, d2, ?_, ?_⟩
      · split at d3
        · rename_i ccl cdd vs ccs lk2
          split at d3
          · rename_i file tf hv
            exact ⟨ccl, cdd, vs, ccs, file, tf, lk2, hv, d3⟩
          · cases d3
        · cases d3
      · split at d1
        · rename_i cl cld d csl lk3
          have d1' := of_decide_eq_true d1
          subst d1'
          exact ⟨cl, cld, csl, lk3⟩
        · cases d1
    · cases c1
  · cases c1
/-- all of it -/
def factsB (P : Program) (K : Frag) (G : Gi) : Bool :=
  (G.fns.all fun x => decide (nsIn K mainGlobals x = some (some (.ref (He.ga K x))))) && ((bltNames.all fun x => decide (nsIn K mainGlobals x = some none)) && ((!G.gcd || decide (nsIn K mainGlobals "gcd" = some (some (.builtin "math.gcd")))) &&
  ((G.cons.all fun p => conG K p.1 p.2) && ((G.cls.isEmpty || errBB P K (He.ga K scN) (He.ma K (He.ga K scN) "__init__")) && ((G.cls.all fun x => decide (nsIn K mainGlobals x = some (some (.ref (He.ga K x)))) && errCB K (He.ga K scN) (He.ma K (He.ga K scN) "__init__") (He.ga K x)) &&
  ((List.range G.cls.length).all fun c => (List.range G.cls.length).all fun h => decide (exmOne K (.ref (gaN K G.cls c)) (.ref (gaN K G.cls h)) = some (G.up c h))))))))
abbrev AlR : Type := Bool × InV × List He.FnW
def obsR (P : Program) (G : Gi) (fn : List He.DefD) (K : Frag) : AlR := (factsB P K G && fn.all fun d => d.ok K, initV K (He.ma K (He.ga K scN) "__init__"), fn.map fun d => He.fnW K d.at_)
def valR (iv : InV) (fn : List He.DefD) : AlR := (true, iv, fn.map He.DefD.val)
def obsRG (P : Program) (G : Gi) (fn : List He.DefD) (n : Nat) (g : Addr → Option Obj) : AlR := obsR P G fn (He.frG g (cStatics :: He.asD g n))
def hookR (P : Program) (G : Gi) (iv : InV) (fn : List He.DefD) (n : Nat) : PySem.W.Hook where
  α := AlR
  obs := fun s => obsRG P G fn n s.heap.get?
  val := fun _ => valR iv fn
  says := fun _ h => ∃ K : Frag, K.In h ∧ obsR P G fn K = valR iv fn
  of := fun _ _ e => ⟨_, He.frG_in, e⟩
  keeps := fun _ _ _ ⟨K, hK, c⟩ k => ⟨K, PySem.W.Frag.In.keeps hK k, c⟩
theorem obsRG_eq {P : Program} {G : Gi} {iv : InV} {fn : List He.DefD} {n : Nat} {g : Addr → Option Obj} {s : Shared} (h : ∀ a, g a = s.heap.get? a) : obsRG P G fn n g = (hookR P G iv fn n).obs s := by
  have e : g = s.heap.get? := funext h
  rw [e] <;> rfl
theorem lkC_mem : ∀ {l : List (Str × D)} {x : Str} {d : D}, lkC l x = some d → (x, d) ∈ l
  | [], _, _, h => by cases h
  | (y, e) :: r, x, d, h => by
    unfold lkC at h
    split at h
    · rename_i c
      cases h
      rw [eq_of_beq c]
      exact List.mem_cons_self
    · exact List.mem_cons_of_mem _ (lkC_mem h)
theorem mg_of_says {P : Program} {G : Gi} {st : Stmt} {fn : List He.DefD} {K : Frag} {h : Heap} {mg : Str → Option Value} (X : K.In h) (Gm : h.Ns mainGlobals mg) (c : obsR P G fn K = valR (initW st) fn)
    (he : ∃ (p1 p2 q1 q2 q3 q4 q5 q6 q7 q8 q9 q10 : Pos), (q3.endLine == q5.line) = true ∧ defArgs (clsInit st) = eA p1 p2 ∧ defBody (clsInit st) = eB q1 q2 q3 q4 q5 q6 q7 q8 q9 q10 ∧ defScope (clsInit st) = eS) :
    Mg (gaN K G.fns) (gaN K G.cls) (He.ga K scN) (He.ma K (He.ga K scN) "__init__") P K mg G := by
  have c0 : (factsB P K G && fn.all fun d => d.ok K) = true := congrArg (fun z : AlR => z.1) c
  have c1 : initV K (He.ma K (He.ga K scN) "__init__") = initW st := congrArg (fun z : AlR => z.2.1) c
  have f := (Bool.and_eq_true_iff.mp c0).1
  simp only [factsB, Bool.and_eq_true, List.all_eq_true, decide_eq_true_eq, Bool.or_eq_true, Bool.not_eq_true', List.isEmpty_iff, List.mem_range] at f
  obtain ⟨f1, f2, f3, f4, f5, f6, f7⟩ := f
  have gN : ∀ {l : List Str} {i : Nat} {x : Str}, l[i]? = some x → gaN K l i = He.ga K x := fun e => by unfold gaN; rw [e]
  refine ⟨fun i x e => ?_, fun x d e => ?_, fun x e => ?_, fun e => ?_, fun e => ?_, fun i x e => ?_, fun c h hc hh => f7 c hc h hh⟩
  · rw [gN e]
    exact PySem.W.mg_of X Gm (f1 x (List.mem_of_getElem? e))
  · have q := f4 _ (lkC_mem e)
    unfold conG at q
    split at q
    · rename_i u hu
      obtain ⟨v, q1, q2⟩ := conB_ok (fa := gaN K G.fns) d u q
      exact ⟨v, u, PySem.W.mg_of X Gm hu, q1, q2⟩
    · cases q
  · exact PySem.W.mg_none_of X Gm (f2 x (by simpa using e))
  · rcases f3 with z | z
    · rw [e] at z; cases z
    · exact PySem.W.mg_of X Gm z
  · rcases f5 with z | z
    · exact (e z).elim
    · exact errBB_ok X Gm c1 z he
  · rw [gN e]
    obtain ⟨z1, z2⟩ := f6 x (List.mem_of_getElem? e)
    exact ⟨PySem.W.mg_of X Gm z1, errCB_ok z2⟩
theorem def_of_says {P : Program} {G : Gi} {iv : InV} {fn : List He.DefD} {K : Frag} (c : obsR P G fn K = valR iv fn) (i : Nat) {d : He.DefD} (h : fn[i]? = some d) : ∃ fd, FunD K d.name d.qual d.params d.body d.scope (d.dvs K) (d.kws K) (He.fAd K d.at_) fd := by
  have c0 : (factsB P K G && fn.all fun d => d.ok K) = true := congrArg (fun z : AlR => z.1) c
  have c2 := (Bool.and_eq_true_iff.mp c0).2
  have e : fn.map (fun d => He.fnW K d.at_) = fn.map He.DefD.val := congrArg (fun z : AlR => z.2.2) c
  have e2 : (fn.map fun d => He.fnW K d.at_)[i]? = (fn.map He.DefD.val)[i]? := by rw [e]
  rw [List.getElem?_map, List.getElem?_map, h] at e2
  exact He.DefD.funD (Option.some.inj e2) (List.all_eq_true.mp c2 d (List.mem_of_getElem? h))
/-- the law, from its plain form -/
theorem law_end {l : PySem.W.OpenLaw} {n iL : Nat} {q : Program} {loose : List Str} {XP : (Str → Option Value) → Heap → Prop} {d : DefRec} {G : Gi} {st : Stmt} {ds : List Dd} {dL : Dd} {x : Str} {m : Nat} (hn : l.most = some 63) (hdf : d.params.defaults = []) (hm : m ≤ 200)
    (hG : G.fns = ds.map Dd.nm) (good : ∀ d ∈ ds, d.good G) (he : ∃ (p1 p2 q1 q2 q3 q4 q5 q6 q7 q8 q9 q10 : Pos), (q3.endLine == q5.line) = true ∧ defArgs (clsInit st) = eA p1 p2 ∧ defBody (clsInit st) = eB q1 q2 q3 q4 q5 q6 q7 q8 q9 q10 ∧ defScope (clsInit st) = eS)
    (eL : ds[iL]? = some dL) (enm : dL.nm = d.name) (eps : dL.ps = [x])
    (plain : ∀ ns : List Int, ns.length ≤ 63 → run (tblT ds) m iL [.scr ns] = .ok (.bl true, false)) :
    PySem.W.WalkO q loose XP (hookR l.prog G (initW st) (ds.map Dd.at_) n).says l.row.toRowW d [] (fun f vs => PySem.call f vs) := by
  refine walk_G (n := 63) (k := m) (x := x) hn (by decide) hdf ⟨rfl, by show 301 + 3 * m + 5 < 1000; omega, by show 4 + 16 * m + 200 < 9900; omega⟩ fun w mg fl h Y Gm hmg => ?_
  obtain ⟨K, KX, c⟩ := Y
  have M := mg_of_says KX Gm c he
  have gN : ∀ {l : List Str} {i : Nat} {x : Str}, l[i]? = some x → gaN K l i = He.ga K x := fun e => by unfold gaN; rw [e]
  have hF : ∀ (i : Nat) (d : Dd), ds[i]? = some d → ∃ fd, FunD K d.nm d.nm (defArgs d.st) (defBody d.st) (defScope d.st) [] [] (gaN K G.fns i) fd := fun i d e => by
    obtain ⟨fd, F⟩ := def_of_says c i (d := d.at_) (by rw [List.getElem?_map, e]; rfl)
    refine ⟨fd, ?_⟩
    have e2 : gaN K G.fns i = He.fAd K (d.nm, none) := by
      rw [gN (x := d.nm) (by rw [hG, List.getElem?_map, e]; rfl)]
      rfl
    rw [e2]
    exact F
  have fns : ∀ (base : Heap), _ := fun base => all_fns (w := w) (base := base) M hG good hF m iL dL eL
  obtain ⟨fd, F, _, _⟩ := fns h
  have gL : mg d.name = some (.ref (gaN K G.fns iL)) := M.fn iL d.name (by rw [hG, List.getElem?_map, eL, ← enm]; rfl)
  have ef : fl = gaN K G.fns iL := by
    rw [hmg] at gL
    cases gL; rfl
  have gd := good dL (List.mem_of_getElem? eL)
  have bind := FunD.bindsA F gd.bd
  refine ⟨K, fd, spF (gaN K G.fns) (gaN K G.cls) K (run (tblT ds) m iL) 1, KX, fun s u => ?_, fun H a ns hl only sq => law_sp (plain ns hl) only sq, fun base kb gb => ?_⟩
  · have b := bind s [u] (by rw [eps]; rfl)
    rw [eps] at b
    exact b
  · obtain ⟨fd2, F2, G2, _⟩ := fns base
    have e3 : fd2 = fd := by
      obtain ⟨_, _, _, _, _, _, _, _, _, _, _, lk, _⟩ := F.ex
      obtain ⟨_, _, _, _, _, _, _, _, _, _, _, lk2, _⟩ := F2.ex
      rw [lk] at lk2
      cases lk2; rfl
    subst e3
    rw [ef]
    rw [eps] at G2
    exact G2
end Rt
end
section
set_option linter.all false
set_option autoImplicit false
set_option Elab.async false
set_option maxRecDepth 100000
set_option maxHeartbeats 2000000
namespace Rt
open PySem
/-! ## Combinators at work -/
section
variable (σ : Env) (a b : Ex) (t u : Tst)
@[simp] theorem xCon_eq (d : D) : xCon d σ = .ok ⟨d, .fz, []⟩ := nrfl
@[simp] theorem xBin_eq (f : D → D → Option (D × Bool)) : xBin f a b σ = (a σ).bd fun r => (b σ).bd fun s => match f r.d s.d with
  | some (d, fr) => .ok (mk fr d (r.kc ++ s.kc))
  | none => .bad := nrfl
@[simp] theorem xVar_eq (i : Nat) : xVar i σ = match σ[i]? with
  | some (some (d, true)) => .ok ⟨d, .sl i, []⟩
  | some (some (d, false)) => .ok ⟨d, .fz, []⟩
  | _ => .bad := nrfl
@[simp] theorem xNeg_eq : xNeg a σ = (a σ).bd fun r => match r.d with
  | .int i => .ok ⟨.int (-i), .fz, []⟩
  | _ => .bad := nrfl
@[simp] theorem xCmp_eq (o : Cop) : xCmp o a b σ = (a σ).bd fun r => (b σ).bd fun s => match cmpD o r.d s.d with
  | some k => .ok ⟨.bl k, .fz, []⟩
  | none => .bad := nrfl
@[simp] theorem xChain_eq (l : List (Cop × Ex)) : xChain a l σ = (a σ).bd fun r => chainGo r l σ := nrfl
@[simp] theorem chainGo_cons (r : Rv) (o : Cop) (rest : List (Cop × Ex)) : chainGo r ((o, b) :: rest) σ = (b σ).bd fun s => match cmpD o r.d s.d with
    | some k => linkK rest k (chainGo s rest σ)
    | none => .bad := nrfl
@[simp] theorem linkK_nil (k : Bool) (n : R Rv) : linkK [] k n = .ok ⟨.bl k, .fz, []⟩ := nrfl
@[simp] theorem linkK_t (p : Cop × Ex) (l : List (Cop × Ex)) (n : R Rv) : linkK (p :: l) true n = n := nrfl
@[simp] theorem linkK_f (p : Cop × Ex) (l : List (Cop × Ex)) (n : R Rv) : linkK (p :: l) false n = .ok ⟨.bl false, .fz, []⟩ := nrfl
@[simp] theorem tOf_eq : tOf a σ = (a σ).bd fun r => R.op (truth r.d) := nrfl
@[simp] theorem tNot_eq : tNot t σ = (t σ).bd fun k => .ok (!k) := nrfl
@[simp] theorem tAnd_eq : tAnd t u σ = (t σ).bd fun k => match k with | true => u σ | false => .ok false := nrfl
@[simp] theorem tOr_eq : tOr t u σ = (t σ).bd fun k => match k with | true => .ok true | false => u σ := nrfl
@[simp] theorem xNot_eq : xNot a σ = (a σ).bd fun r => match truth r.d with
  | some k => .ok ⟨.bl (!k), .fz, []⟩
  | none => .bad := nrfl
@[simp] theorem xAnd_eq : xAnd a b σ = (a σ).bd fun r => match truth r.d with
  | some true => b σ
  | some false => .ok r
  | none => .bad := nrfl
@[simp] theorem xOr_eq : xOr a b σ = (a σ).bd fun r => match truth r.d with
  | some true => .ok r
  | some false => b σ
  | none => .bad := nrfl
@[simp] theorem xIf_eq : xIf t a b σ = (t σ).bd fun k => match k with | true => a σ | false => b σ := nrfl
@[simp] theorem evs_nil : evs [] σ = .ok [] := nrfl
@[simp] theorem evs_cons (es : List Ex) : evs (a :: es) σ = (a σ).bd fun r => (evs es σ).bd fun rs => .ok (r :: rs) := nrfl
@[simp] theorem xCall_eq (f : Fn) (es : List Ex) : xCall f es σ = (evs es σ).bd fun rs => (f (dL rs)).bd fun p => .ok (mk p.2 p.1 (kpL rs)) := nrfl
@[simp] theorem xBi_eq (f : List D → Option (D × Bool)) (es : List Ex) : xBi f es σ = (evs es σ).bd fun rs => match f (dL rs) with
  | some (d, fr) => .ok (mk fr d (kcL rs))
  | none => .bad := nrfl
@[simp] theorem xCallV_eq (n : Nat) (call : Nat → Fn) (es : List Ex) : xCallV n call a es σ = (a σ).bd fun r => match r.d with
  | .fn i => if i < n then xCall (call i) es σ else .bad
  | _ => .bad := nrfl
@[simp] theorem xIdx_eq : xIdx a b σ = (a σ).bd fun r => (b σ).bd fun s => match dIdx r.d s.d with
  | some d => .ok (mkF d r.kc)
  | none => .bad := nrfl
@[simp] theorem spread_nil : spread [] σ = .ok ([], []) := nrfl
@[simp] theorem spread_f (es : List (Bool × Ex)) : spread ((false, a) :: es) σ = (a σ).bd fun r => (spread es σ).bd fun q => .ok (r.d :: q.1, r.kp ++ q.2) := nrfl
@[simp] theorem xLst_eq (es : List (Bool × Ex)) : xLst es σ = (spread es σ).bd fun q => if q.1.length ≤ line then .ok (mkN (.lst q.1) q.2) else .bad := nrfl
@[simp] theorem xTup_eq (es : List (Bool × Ex)) : xTup es σ = (spread es σ).bd fun q => if q.1.length ≤ line then .ok (mkF (.tup q.1) q.2) else .bad := nrfl
@[simp] theorem evO_none : evO none σ = .ok none := nrfl
@[simp] theorem evO_some : evO (some a) σ = (a σ).bd fun r => match r.d with
    | .int i => .ok (some i)
    | _ => .bad := nrfl
@[simp] theorem xSlice_eq (lo hi : Option Ex) : xSlice a lo hi σ = (a σ).bd fun r => (evO lo σ).bd fun l => (evO hi σ).bd fun h => match dSlice r.d l h with
  | some (d, fr) => .ok (mk fr d r.kc)
  | none => .bad := nrfl
@[simp] theorem iSeq_eq : iSeq a σ = (a σ).bd fun r => match r.d with
  | .lst xs => (noDep xs r.kc).bd fun q => .ok (q.1, r.kp)
  | .tup xs => (noDep xs r.kc).bd fun q => .ok (q.1, r.kp)
  | _ => .bad := nrfl
@[simp] theorem iRng1_eq : iRng1 a σ = (a σ).bd fun r => match r.d with
  | .int n => if okRng n then .ok ((upto 0 n.toNat).map .int, []) else .bad
  | _ => .bad := nrfl
@[simp] theorem iRng2_eq : iRng2 a b σ = (a σ).bd fun r => (b σ).bd fun s => match r.d, s.d with
  | .int m, .int n => if okRng m && okRng n then .ok ((upto m (n - m).toNat).map .int, []) else .bad
  | _, _ => .bad := nrfl
@[simp] theorem iEnum_eq : iEnum a σ = (a σ).bd fun r => match r.d with
  | .lst xs => (noDep xs r.kc).bd fun q => .ok (numbered 0 q.1, r.kp)
  | .tup xs => (noDep xs r.kc).bd fun q => .ok (numbered 0 q.1, r.kp)
  | _ => .bad := nrfl
@[simp] theorem iZip_eq : iZip a b σ = (a σ).bd fun r => (b σ).bd fun s => match r.d, s.d with
  | .lst xs, .lst ys => (noDep xs r.kc).bd fun q => (noDep ys s.kc).bd fun q' => .ok (paired q.1 q'.1, r.kp ++ s.kp)
  | .tup xs, .tup ys => (noDep xs r.kc).bd fun q => (noDep ys s.kc).bd fun q' => .ok (paired q.1 q'.1, r.kp ++ s.kp)
  | .tup xs, .lst ys => (noDep xs r.kc).bd fun q => (noDep ys s.kc).bd fun q' => .ok (paired q.1 q'.1, r.kp ++ s.kp)
  | _, _ => .bad := nrfl
@[simp] theorem noDep_nil (xs : List D) : noDep xs [] = .ok (xs, []) := nrfl
@[simp] theorem gName_eq (i : Nat) (d : D) : gName i d σ = if i < σ.length then some (σ.set i (some (d, false))) else none := nrfl
@[simp] theorem gAll_nil : gAll [] [] σ = some σ := nrfl
@[simp] theorem gAll_cons (g : Tg) (gs : List Tg) (d : D) (ds : List D) : gAll (g :: gs) (d :: ds) σ = (g d σ).bind fun σ' => gAll gs ds σ' := nrfl
@[simp] theorem gTup_eq (gs : List Tg) (ds : List D) : gTup gs (.tup ds) σ = gAll gs ds σ := nrfl
@[simp] theorem gTup_eqL (gs : List Tg) (ds : List D) : gTup gs (.lst ds) σ = gAll gs ds σ := nrfl
@[simp] theorem kp_fz (d : D) (p : List Nat) : Rv.kp ⟨d, .fz, p⟩ = p := nrfl
@[simp] theorem kp_nw (d : D) (p : List Nat) : Rv.kp ⟨d, .nw, p⟩ = p := nrfl
@[simp] theorem kp_sl (d : D) (p : List Nat) (i : Nat) : Rv.kp ⟨d, .sl i, p⟩ = [i] := nrfl
@[simp] theorem kc_fz (d : D) (p : List Nat) : Rv.kc ⟨d, .fz, p⟩ = p := nrfl
@[simp] theorem kc_nw (d : D) (p : List Nat) : Rv.kc ⟨d, .nw, p⟩ = p := nrfl
@[simp] theorem kc_sl (d : D) (p : List Nat) (i : Nat) : Rv.kc ⟨d, .sl i, p⟩ = [] := nrfl
@[simp] theorem isNw_fz (d : D) (p : List Nat) : Rv.isNw ⟨d, .fz, p⟩ = false := nrfl
@[simp] theorem isNw_nw (d : D) (p : List Nat) : Rv.isNw ⟨d, .nw, p⟩ = true := nrfl
@[simp] theorem isNw_sl (d : D) (p : List Nat) (i : Nat) : Rv.isNw ⟨d, .sl i, p⟩ = false := nrfl
@[simp] theorem mkF_nil (d : D) : mkF d [] = ⟨d, .fz, []⟩ := nrfl
@[simp] theorem mkN_nil (d : D) : mkN d [] = ⟨d, .nw, []⟩ := nrfl
@[simp] theorem mkF_int (i : Int) (p : List Nat) : mkF (.int i) p = ⟨.int i, .fz, []⟩ := by cases p <;> rfl
@[simp] theorem mkF_bl (i : Bool) (p : List Nat) : mkF (.bl i) p = ⟨.bl i, .fz, []⟩ := by cases p <;> rfl
@[simp] theorem mkF_non (p : List Nat) : mkF .non p = ⟨.non, .fz, []⟩ := by cases p <;> rfl
@[simp] theorem mkF_rep (d : D) (p : List Nat) : mkF (.rep d) p = ⟨.rep d, .fz, []⟩ := by cases p <;> rfl
@[simp] theorem mk_t (d : D) (p : List Nat) : mk true d p = mkN d p := nrfl
@[simp] theorem mk_f (d : D) (p : List Nat) : mk false d p = mkF d p := nrfl
@[simp] theorem dL_nil : dL [] = [] := nrfl
@[simp] theorem dL_cons (r : Rv) (rs : List Rv) : dL (r :: rs) = r.d :: dL rs := nrfl
@[simp] theorem kpL_nil : kpL [] = [] := nrfl
@[simp] theorem kpL_cons (r : Rv) (rs : List Rv) : kpL (r :: rs) = r.kp ++ kpL rs := nrfl
@[simp] theorem kcL_nil : kcL [] = [] := nrfl
@[simp] theorem kcL_cons (r : Rv) (rs : List Rv) : kcL (r :: rs) = r.kc ++ kcL rs := nrfl
/-! statements -/
variable (f g : Sm) (e : Ex)
@[simp] theorem sPass_eq : sPass σ = .nx σ := nrfl
@[simp] theorem sSeq_eq : sSeq f g σ = (f σ).bd g := nrfl
@[simp] theorem sExpr_eq : sExpr e σ = (e σ).to σ fun _ => .nx σ := nrfl
@[simp] theorem sRet_eq : sRet e σ = (e σ).to σ fun r => if fineAt [] σ r.kp then .rt r.d (match r.t with | .fz => false | _ => true) else .bad := nrfl
@[simp] theorem sRetN_eq : sRetN σ = .rt .non false := nrfl
@[simp] theorem sSet_eq (i : Nat) : sSet i e σ = (e σ).to σ fun r => frzO r.kp σ fun σ' => if i < σ.length then .nx (σ'.set i (some (r.d, r.isNw))) else .bad := nrfl
@[simp] theorem sTg_eq (g : Tg) : sTg g e σ = (e σ).to σ fun r => frzO r.kp σ fun σ' => match g r.d σ' with
  | some σ'' => .nx σ''
  | none => .bad := nrfl
@[simp] theorem sIf_eq : sIf t f g σ = (t σ).to σ fun k => match k with | true => f σ | false => g σ := nrfl
@[simp] theorem sApp_eq (i : Nat) : sApp i e σ = match σ[i]? with
  | some (some (.lst _, true)) => (e σ).to σ fun r => frzO r.kp σ fun σ' => (match σ'[i]? with
    | some (some (.lst xs, true)) => if xs.length < line then .nx (σ'.set i (some (.lst (xs ++ [r.d]), true))) else .bad
    | _ => .bad)
  | _ => .bad := nrfl
@[simp] theorem sFor_eq (g : Tg) (it : Itr) : sFor g it f σ = (it σ).to σ fun q => frzO q.2 σ fun σ' => forGo g f q.1 σ' := nrfl
@[simp] theorem forGo_nil (g : Tg) : forGo g f [] σ = .nx σ := nrfl
theorem forGo_cons (g : Tg) (d : D) (ds : List D) : forGo g f (d :: ds) σ = match g d σ with
    | none => .bad
    | some σ' => (f σ').bd (forGo g f ds) := rfl
@[simp] theorem sRaise_eq (c : Nat) : sRaise c e σ = (e σ).to σ fun r => match r.d with
  | .int i => .ex c (.int i) σ
  | _ => .bad := nrfl
@[simp] theorem sTry_eq (n : Nat) (hs : List Hd) : sTry n f hs σ = match f σ with
  | .ex c a σ' => if c < n then pick hs c a σ' else .bad
  | o => o := nrfl
@[simp] theorem pick_nil (c : Nat) (a : D) : pick [] c a σ = .ex c a σ := nrfl
@[simp] theorem pick_cons (h : Hd) (hs : List Hd) (c : Nat) (a : D) : pick (h :: hs) c a σ = if h.1 c then .rt (h.2 a) false else pick hs c a σ := nrfl
@[simp] theorem fine_nil (own : List Nat) : fineAt own σ [] = true := nrfl
@[simp] theorem fine_cons (own : List Nat) (i : Nat) (l : List Nat) : fineAt own σ (i :: l) = ((!own.contains i && (match σ[i]? with
  | some (some (_, true)) => true
  | _ => false)) && fineAt own σ l) := nrfl
end
/-! operations -/
@[simp] theorem dAdd_int (i j : Int) : dAdd (.int i) (.int j) = some (.int (i + j), false) := nrfl
@[simp] theorem dSub_int (i j : Int) : dSub (.int i) (.int j) = some (.int (i - j), false) := nrfl
theorem dMul_int (i j : Int) : dMul (.int i) (.int j) = if wideOk i j then some (.int (i * j), false) else none := rfl
theorem wide_r {i j : Int} (h : -(2 ^ 64) < j) (k : j < 2 ^ 64 - 1) : wideOk i j = true := by
  have e : below j 18446744073709551614 = true := below_iff.mpr (by omega)
  unfold wideOk
  rw [e]
  simp
theorem wide_l {i j : Int} (h : -(2 ^ 64) < i) (k : i < 2 ^ 64 - 1) : wideOk i j = true := by
  have e : below i 18446744073709551614 = true := below_iff.mpr (by omega)
  unfold wideOk
  rw [e]
  simp
theorem mul_r {i j : Int} (h : -(2 ^ 64) < j) (k : j < 2 ^ 64 - 1) : dMul (.int i) (.int j) = some (.int (i * j), false) := by rw [dMul_int, if_pos (wide_r h k)]
theorem mul_l {i j : Int} (h : -(2 ^ 64) < i) (k : i < 2 ^ 64 - 1) : dMul (.int i) (.int j) = some (.int (i * j), false) := by rw [dMul_int, if_pos (wide_l h k)]
theorem div_s {i j : Int} (h : 0 < j) (k : j < 2 ^ 64 - 1) : dDiv (.int i) (.int j) = some (.int (i / j), false) := by
  have e1 : posI j = true := posI_iff.mpr h
  have e2 : below j 18446744073709551614 = true := below_iff.mpr (by omega)
  show (if posI j && (below j 18446744073709551614 || decide (j.natAbs.log2 < 9000)) then _ else _) = _
  rw [e1, e2]
  rfl
theorem okRng_of {i : Int} (h : -4611686018427387904 ≤ i) (k : i ≤ 4611686018427387903) : okRng i = true := below_iff.mpr (by omega)
theorem dMod_int (i j : Int) : dMod (.int i) (.int j) = if 0 < j then some (.int (i % j), false) else none := rfl
theorem mod_s {i j : Int} (h : 0 < j) : dMod (.int i) (.int j) = some (.int (i % j), false) := by rw [dMod_int, if_pos h]
@[simp] theorem cmp_eqI (i j : Int) : cmpD .eq (.int i) (.int j) = some (decide (i = j)) := nrfl
@[simp] theorem cmp_neI (i j : Int) : cmpD .ne (.int i) (.int j) = some (!decide (i = j)) := nrfl
@[simp] theorem cmp_ltI (i j : Int) : cmpD .lt (.int i) (.int j) = some (decide (i < j)) := nrfl
@[simp] theorem cmp_leI (i j : Int) : cmpD .le (.int i) (.int j) = some (decide (i ≤ j)) := nrfl
@[simp] theorem cmp_gtI (i j : Int) : cmpD .gt (.int i) (.int j) = some (decide (j < i)) := nrfl
@[simp] theorem cmp_geI (i j : Int) : cmpD .ge (.int i) (.int j) = some (decide (j ≤ i)) := nrfl
@[simp] theorem truth_bl (b : Bool) : truth (.bl b) = some b := nrfl
@[simp] theorem truth_int (i : Int) : truth (.int i) = some (i != 0) := nrfl
@[simp] theorem bInt_int (i : Int) : bInt [.int i] = some (.int i, false) := nrfl
@[simp] theorem bInt_bl (b : Bool) : bInt [.bl b] = some (.int (if b then 1 else 0), false) := nrfl
@[simp] theorem bAbs_int (i : Int) : bAbs [.int i] = some (.int (i.natAbs : Int), false) := nrfl
@[simp] theorem bLen_lst (xs : List D) : bLen [.lst xs] = some (.int xs.length, false) := nrfl
@[simp] theorem bLen_tup (xs : List D) : bLen [.tup xs] = some (.int xs.length, false) := nrfl
@[simp] theorem bLen_scr (xs : List Int) : bLen [.scr xs] = some (.int xs.length, false) := nrfl
@[simp] theorem bMin_2 (i j : Int) : bMin [.int i, .int j] = some (.int (min i j), false) := nrfl
@[simp] theorem bMax_2 (i j : Int) : bMax [.int i, .int j] = some (.int (max i j), false) := nrfl
theorem asInts_map : ∀ (is : List Int), asInts (is.map .int) = some is
  | [] => rfl
  | i :: is => by simp [asInts, asInts_map is]
@[simp] theorem bSum_map (is : List Int) : bSum [.lst (is.map .int)] = some (.int is.sum, false) := by simp [bSum, asInts_map]
theorem place_nn {n : Nat} {i : Int} (h : 0 ≤ i) (k : i < n) : place n i = some i.toNat := by unfold place; rw [if_pos h, if_pos k]
theorem place_neg {n : Nat} {i : Int} (h : i < 0) (k : 0 ≤ i + n) : place n i = some (i + n).toNat := by unfold place; rw [if_neg (by omega), if_pos k]
theorem idx_lst {xs : List D} {i : Int} {k : Nat} {d : D} (h : place xs.length i = some k) (e : xs[k]? = some d) : dIdx (.lst xs) (.int i) = some d := by
  show (place xs.length i).bind (fun k => xs[k]?) = _
  rw [h]; exact e
theorem idx_tup {xs : List D} {i : Int} {k : Nat} {d : D} (h : place xs.length i = some k) (e : xs[k]? = some d) : dIdx (.tup xs) (.int i) = some d := by
  show (place xs.length i).bind (fun k => xs[k]?) = _
  rw [h]; exact e
theorem idx_scr {xs : List Int} {i : Int} {k : Nat} {d : Int} (h : place xs.length i = some k) (e : xs[k]? = some d) : dIdx (.scr xs) (.int i) = some (.int d) := by
  show (place xs.length i).bind (fun k => xs[k]?.map D.int) = _
  rw [h]
  show xs[k]?.map D.int = _
  rw [e]; rfl
/-- a call at some depth -/
theorem run_at {T : Nat → Option Df} {n i : Nat} {f : Df} (h : T i = some f) (ds : List D) (l : ds.length = f.arity) : run T (n + 1) i ds = ends (f.body (run T n) (begin_ f.slots ds)) := by
  unfold run
  rw [h]
  show (if ds.length = f.arity then _ else _) = _
  rw [if_pos l]
end Rt
end
section
set_option linter.all false
set_option maxRecDepth 100000
set_option autoImplicit false
set_option Elab.async false
set_option maxHeartbeats 2000000
namespace Rt
open PySem
theorem idx_ints {xs : List Int} {i : Int} (h : 0 ≤ i) (k : i < xs.length) : dIdx (.lst (xs.map .int)) (.int i) = some (.int (xs.getD i.toNat 0)) := by
  refine idx_lst (k := i.toNat) (by rw [List.length_map]; exact place_nn h k) ?_
  have lt : i.toNat < xs.length := by omega
  rw [List.getElem?_map, List.getElem?_eq_getElem lt]
  simp [List.getD_eq_getElem?_getD, List.getElem?_eq_getElem lt]
def B_mix : Sm :=
  (sSeq (sSet 3 (xCon (.int 0)))
  (sSeq (sIf (tOf (xCmp .gt (xBi bLen [(xVar 0)]) (xCon (.int 0))))
  (sSet 3 (xIdx (xVar 0) (xBin dMod (xBi bInt [(xVar 1)]) (xBi bLen [(xVar 0)]))))
  sPass)
  (sSeq (sIf (tOf (xCmp .lt (xVar 1) (xBi bLen [(xVar 0)])))
  (sRet (xBin dMod (xBi bInt [(xVar 3)]) (xVar 2)))
  sPass)
  (sRet (xBin dMod (xBi bInt [(xBin dDiv (xBi bInt [(xBin dAdd (xBin dMul (xVar 3) (xCon (.int 7919))) (xBin dMul (xVar 1) (xCon (.int 104729))))]) (xCon (.int 3)))]) (xVar 2))))))
def mixI (xs : List Int) (k many : Int) : Int :=
  if k < xs.length then (if 0 < xs.length then xs.getD (k % xs.length).toNat 0 else 0) % many else (((if 0 < xs.length then xs.getD (k % xs.length).toNat 0 else 0) * 7919 + k * 104729) / 3) % many
theorem mixI_nn {xs : List Int} {k many : Int} (h : 0 < many) : 0 ≤ mixI xs k many := by unfold mixI; split <;> exact Int.emod_nonneg _ (by omega)
theorem mixI_lt {xs : List Int} {k many : Int} (h : 0 < many) : mixI xs k many < many := by unfold mixI; split <;> exact Int.emod_lt_of_pos _ h
theorem mix_body (xs : List Int) (k many : Int) (hk : 0 ≤ k) (hm : 0 < many) : ends (B_mix (begin_ 4 [.lst (xs.map .int), .int k, .int many])) = .ok (.int (mixI xs k many), false) := by
  by_cases h : 0 < xs.length
  · have h' : (0 : Int) < xs.length := by omega
    have b1 := Int.emod_nonneg k (show (xs.length : Int) ≠ 0 by omega)
    have b2 := Int.emod_lt_of_pos k h'
    by_cases h2 : k < xs.length
    · simp [B_mix, begin_, h, h2, mod_s h', mod_s hm, idx_ints b1 b2, mixI]
    · simp [B_mix, begin_, h, h2, mod_s h', mod_s hm, idx_ints b1 b2, mul_r, div_s, mixI]
  · have h2 : ¬ k < xs.length := by omega
    simp [B_mix, begin_, h, h2, mod_s hm, mul_r, div_s, mixI]
def B_draws : Sm :=
  (sSeq (sSet 1 (xLst []))
  (sSeq (sFor (gName 2) (iRng1 (xBi bMin [(xCon (.int 63)), (xBi bLen [(xVar 0)])]))
  (sSeq (sSet 3 (xBi bAbs [(xIdx (xVar 0) (xVar 2))]))
  (sIf (tOf (xCmp .ge (xVar 3) (xBin dPow (xCon (.int 10)) (xCon (.int 18)))))
  (sFor (gName 4) (iRng1 (xCon (.int 60)))
  (sIf (tOf (xCmp .gt (xVar 3) (xCon (.int 0))))
  (sSeq (sApp 1 (xBin dMod (xBi bInt [(xVar 3)]) (xCon (.int 65536))))
  (sSet 3 (xBin dDiv (xVar 3) (xCon (.int 65536)))))
  sPass))
  (sSeq (sSet 5 (xBin dMod (xBi bInt [(xBin dAdd (xBin dMul (xVar 3) (xCon (.int 48271))) (xBin dMul (xBin dAdd (xVar 2) (xCon (.int 1))) (xCon (.int 69621))))]) (xCon (.int 2147483647))))
  (sSeq (sSet 5 (xBin dMod (xBi bInt [(xBin dAdd (xBin dAdd (xBin dMul (xVar 5) (xCon (.int 16807))) (xBin dMul (xCon (.int 11)) (xVar 2))) (xCon (.int 5)))]) (xCon (.int 2147483629))))
  (sSeq (sApp 1 (xBin dMod (xBi bInt [(xVar 5)]) (xCon (.int 65536))))
  (sApp 1 (xBin dMod (xBi bInt [(xBin dDiv (xVar 5) (xCon (.int 65536)))]) (xCon (.int 32768))))))))))
  (sRet (xVar 1))))
/-- the loop over the digits -/
theorem digits_loop (s : List Int) (k : D) (o5 : Slot) : ∀ (l : List Int) (xs : List Int) (rest : Int) (o4 : Slot), xs.length + l.length ≤ line → ∃ (ys : List Int) (r2 : Int) (p4 : Slot), ys.length ≤ xs.length + l.length ∧
    forGo (gName 4) (sIf (tOf (xCmp .gt (xVar 3) (xCon (.int 0))))
      (sSeq (sApp 1 (xBin dMod (xBi bInt [(xVar 3)]) (xCon (.int 65536))))
      (sSet 3 (xBin dDiv (xVar 3) (xCon (.int 65536)))))
      sPass) (l.map .int) [some (.scr s, false), some (.lst (xs.map .int), true), some (k, false), some (.int rest, false), o4, o5] =
      .nx [some (.scr s, false), some (.lst (ys.map .int), true), some (k, false), some (.int r2, false), p4, o5]
  | [], xs, rest, o4, h => ⟨xs, rest, o4, by simp, rfl⟩
  | i :: l, xs, rest, o4, h => by
    simp only [List.length_cons] at h
    by_cases h0 : 0 < rest
    · obtain ⟨ys, r2, p4, h1, h2⟩ := digits_loop s k o5 l (xs ++ [rest % 65536]) (rest / 65536) (some (.int i, false)) (by simp; omega)
      refine ⟨ys, r2, p4, by simp at h1 ⊢; omega, ?_⟩
      rw [← h2]
      rw [List.map_cons, forGo_cons]
      have hl : xs.length < line := by omega
      simp [h0, hl, mod_s, div_s]
    · obtain ⟨ys, r2, p4, h1, h2⟩ := digits_loop s k o5 l xs rest (some (.int i, false)) (by omega)
      refine ⟨ys, r2, p4, by simp; omega, ?_⟩
      rw [← h2]
      rw [List.map_cons, forGo_cons]
      simp [h0]
theorem idx_script {xs : List Int} {i : Int} (h : 0 ≤ i) (k : i < xs.length) : dIdx (.scr xs) (.int i) = some (.int (xs.getD i.toNat 0)) := by
  refine idx_scr (k := i.toNat) (place_nn h k) ?_
  have lt : i.toNat < xs.length := by omega
  simp [List.getD_eq_getElem?_getD, List.getElem?_eq_getElem lt]
theorem line_val : line = 16777216 := rfl
theorem upto_length (lo : Int) (n : Nat) : (upto lo n).length = n := by simp [upto]
theorem pow18 : dPow (.int 10) (.int 18) = some (.int 1000000000000000000, false) := by rfl
theorem okRng60 : okRng 60 = true := okRng_of (by decide) (by decide)
theorem draws_loop (s : List Int) : ∀ (l : List Int) (xs : List Int) (o2 o3 o4 o5 : Slot), (∀ i ∈ l, 0 ≤ i ∧ i < s.length) → xs.length + 60 * l.length ≤ 100000 → ∃ (ys : List Int) (p2 p3 p4 p5 : Slot), ys.length ≤ xs.length + 60 * l.length ∧
    forGo (gName 2) (sSeq (sSet 3 (xBi bAbs [(xIdx (xVar 0) (xVar 2))]))
  (sIf (tOf (xCmp .ge (xVar 3) (xBin dPow (xCon (.int 10)) (xCon (.int 18)))))
  (sFor (gName 4) (iRng1 (xCon (.int 60)))
  (sIf (tOf (xCmp .gt (xVar 3) (xCon (.int 0))))
  (sSeq (sApp 1 (xBin dMod (xBi bInt [(xVar 3)]) (xCon (.int 65536))))
  (sSet 3 (xBin dDiv (xVar 3) (xCon (.int 65536)))))
  sPass))
  (sSeq (sSet 5 (xBin dMod (xBi bInt [(xBin dAdd (xBin dMul (xVar 3) (xCon (.int 48271))) (xBin dMul (xBin dAdd (xVar 2) (xCon (.int 1))) (xCon (.int 69621))))]) (xCon (.int 2147483647))))
  (sSeq (sSet 5 (xBin dMod (xBi bInt [(xBin dAdd (xBin dAdd (xBin dMul (xVar 5) (xCon (.int 16807))) (xBin dMul (xCon (.int 11)) (xVar 2))) (xCon (.int 5)))]) (xCon (.int 2147483629))))
  (sSeq (sApp 1 (xBin dMod (xBi bInt [(xVar 5)]) (xCon (.int 65536))))
  (sApp 1 (xBin dMod (xBi bInt [(xBin dDiv (xVar 5) (xCon (.int 65536)))]) (xCon (.int 32768)))))))))
      (l.map .int) [some (.scr s, false), some (.lst (xs.map .int), true), o2, o3, o4, o5] =
      .nx [some (.scr s, false), some (.lst (ys.map .int), true), p2, p3, p4, p5]
  | [], xs, o2, o3, o4, o5, _, _ => ⟨xs, o2, o3, o4, o5, by simp, rfl⟩
  | i :: l, xs, o2, o3, o4, o5, hl, hz => by
    simp only [List.length_cons] at hz
    obtain ⟨h0, h1⟩ := hl i List.mem_cons_self
    have hl2 : ∀ j ∈ l, 0 ≤ j ∧ j < s.length := fun j hj => hl j (List.mem_cons_of_mem _ hj)
    have e := idx_script h0 h1
    generalize s.getD i.toNat 0 = c at e
    by_cases hb : (1000000000000000000 : Int) ≤ (c.natAbs : Int)
    · obtain ⟨ys, r2, p4, g1, g2⟩ := digits_loop s (.int i) o5 (upto 0 60) xs (c.natAbs : Int) o4 (by rw [upto_length, line_val]; omega)
      obtain ⟨zs, q2, q3, q4, q5, g3, g4⟩ := draws_loop s l ys (some (.int i, false)) (some (.int r2, false)) p4 o5 hl2 (by rw [upto_length] at g1; omega)
      refine ⟨zs, q2, q3, q4, q5, by rw [upto_length] at g1; simp only [List.length_cons]; omega, ?_⟩
      rw [← g4, List.map_cons, forGo_cons]
      simp [e, pow18, hb, okRng60, -List.map_map, g2]
    · have hl3 : xs.length < line := by rw [line_val]; omega
      have hl4 : xs.length + 1 < line := by rw [line_val]; omega
      obtain ⟨zs, q2, q3, q4, q5, g3, g4⟩ := draws_loop s l (xs ++ [((((c.natAbs : Int) * 48271 + (i + 1) * 69621) % 2147483647 * 16807 + 11 * i + 5) % 2147483629) % 65536, ((((c.natAbs : Int) * 48271 + (i + 1) * 69621) % 2147483647 * 16807 + 11 * i + 5) % 2147483629 / 65536) % 32768]) (some (.int i, false)) (some (.int (c.natAbs : Int), false)) o4 (some (.int ((((c.natAbs : Int) * 48271 + (i + 1) * 69621) % 2147483647 * 16807 + 11 * i + 5) % 2147483629), false)) hl2 (by simp; omega)
      refine ⟨zs, q2, q3, q4, q5, by simp at g3 ⊢; omega, ?_⟩
      rw [← g4, List.map_cons, forGo_cons]
      simp [e, pow18, hb, mul_r, mul_l, mod_s, div_s, hl3, hl4]
theorem draws_body (s : List Int) (h : s.length ≤ 63) : ∃ ys : List Int, ys.length ≤ 3780 ∧ ends (B_draws (begin_ 6 [.scr s])) = .ok (.lst (ys.map .int), true) := by
  obtain ⟨ys, p2, p3, p4, p5, g1, g2⟩ := draws_loop s (upto 0 s.length) [] none none none none (fun i hi => by
    simp only [upto, List.mem_map, List.mem_range] at hi
    obtain ⟨k, hk, rfl⟩ := hi
    omega) (by rw [upto_length]; simp; omega)
  refine ⟨ys, by rw [upto_length] at g1; simp at g1; omega, ?_⟩
  have em : min (63 : Int) s.length = s.length := by omega
  have er : okRng (s.length : Int) = true := okRng_of (by omega) (by omega)
  simp only [List.map_nil] at g2
  simp [B_draws, begin_, em, er, -List.map_map, g2]
end Rt
end
section
set_option linter.all false
set_option autoImplicit false
set_option Elab.async false
set_option maxRecDepth 100000
set_option maxHeartbeats 2000000
namespace Rt
open PySem
/-! ## Lists of ints: compared, shown, filtered -/
theorem pyL_ints : ∀ (l : List Int), D.pyL (l.map .int) = l.map PyData.int
  | [] => nrfl
  | i :: l => by simp [D.pyL, D.py, pyL_ints l]
theorem plain_ints : ∀ (l : List Int), PyData.plainAll (l.map .int) = true
  | [] => nrfl
  | i :: l => by simp [PyData.plainAll, PyData.plain, plain_ints l]
theorem depth_ints : ∀ (l : List Int), PyData.depthAll (l.map .int) = 0
  | [] => nrfl
  | i :: l => by simp [PyData.depthAll, PyData.depth, depth_ints l]
theorem eqv_ints : ∀ (a b : List Int), PyData.eqvAll (a.map .int) (b.map .int) = decide (a = b)
  | [], [] => by simp [PyData.eqvAll]
  | [], _ :: _ => by simp [PyData.eqvAll]
  | _ :: _, [] => by simp [PyData.eqvAll]
  | i :: a, j :: b => by
    simp only [List.map_cons, PyData.eqvAll, PyData.eqv, eqv_ints a b]
    by_cases h : i = j <;> simp [h]
theorem eq_lists (a b : List Int) : dEq (.lst (a.map .int)) (.lst (b.map .int)) = some (decide (a = b)) := by
  show (if okEq (D.lst (a.map .int)).py (D.lst (b.map .int)).py then some (PyData.eqv (D.lst (a.map .int)).py (D.lst (b.map .int)).py) else none) = _
  have e1 : ∀ l : List Int, (D.lst (l.map .int)).py = .list (l.map .int) := fun l => by simp [D.py, pyL_ints]
  rw [e1, e1]
  have ok : okEq (.list (a.map .int)) (.list (b.map .int)) = true := by simp [okEq, PyData.plain, plain_ints, PyData.depth, depth_ints]
  rw [if_pos ok]
  simp [PyData.eqv, eqv_ints]
theorem cmp_neL (a b : List Int) : cmpD .ne (.lst (a.map .int)) (.lst (b.map .int)) = some (!decide (a = b)) := by
  show (dEq _ _).map not = _
  rw [eq_lists]; rfl
mutual
theorem sameP_refl : ∀ (p : PyData), p.plain = true → sameP p p = true
  | .none, _ => nrfl
  | .bool b, _ => by simp [sameP]
  | .int i, _ => by simp [sameP]
  | .str x, _ => by simp [sameP]
  | .list xs, h => by simpa [sameP] using samePL_refl xs (by simpa [PyData.plain] using h)
  | .tuple xs, h => by simpa [sameP] using samePL_refl xs (by simpa [PyData.plain] using h)
  | .dict _, h => by simp [PyData.plain] at h
theorem samePL_refl : ∀ (ps : List PyData), PyData.plainAll ps = true → samePL ps ps = true
  | [], _ => nrfl
  | p :: ps, h => by
    have h2 : p.plain = true ∧ PyData.plainAll ps = true := by simpa [PyData.plainAll] using h
    simp [samePL, sameP_refl p h2.1, samePL_refl ps h2.2]
end
theorem cmp_neR (d : D) (h : okRep d.py = true) : cmpD .ne (D.rep d) (D.rep d) = some false := by
  simp only [okRep, Bool.and_eq_true] at h
  show (if sameP d.py d.py || sameD d.py d.py then some true else none).map not = _
  rw [sameP_refl _ h.1.1.1, Bool.true_or, if_pos rfl]
  rfl
theorem bRepr_of {d : D} (h : okRep d.py = true) : bRepr [d] = some (D.rep d, false) := by
  show (if okRep d.py || okRepD d then some (D.rep d, false) else none) = _
  rw [h, Bool.true_or, if_pos rfl]
theorem sameD_self {d : D} (h : okRepD d = true) : sameD d.py d.py = true := by
  cases d <;> simp only [okRepD, Bool.false_eq_true] at h
  rename_i ks vs
  simp only [okKv, Bool.and_eq_true, List.all_eq_true] at h
  have pa : ∀ (f : PyData × PyData → PyData) (l : List (PyData × PyData)), (∀ x ∈ l, (f x).plain = true) → samePL (l.map f) (l.map f) = true := fun f l => by
    induction l with
    | nil => intro _; rfl
    | cons x l ih =>
      intro k
      simp only [List.map_cons, samePL, Bool.and_eq_true]
      exact ⟨sameP_refl _ (k x List.mem_cons_self), ih fun y hy => k y (List.mem_cons_of_mem _ hy)⟩
  simp only [D.py, sameD, Bool.and_eq_true]
  exact ⟨pa _ _ fun x hx => (h.1.1.1 x hx).1, pa _ _ fun x hx => (h.1.1.1 x hx).2⟩
theorem cmp_neRD (d : D) (h : okRepD d = true) : cmpD .ne (D.rep d) (D.rep d) = some false := by
  show (if sameP d.py d.py || sameD d.py d.py then some true else none).map not = _
  rw [sameD_self h, Bool.or_true, if_pos rfl]
  rfl
theorem bRepr_ofD {d : D} (h : okRepD d = true) : bRepr [d] = some (D.rep d, false) := by
  show (if okRep d.py || okRepD d then some (D.rep d, false) else none) = _
  rw [h, Bool.or_true, if_pos rfl]
theorem log2_small {i : Int} (h : -(2 ^ 60) < i ∧ i < 2 ^ 60) : i.natAbs.log2 < 60 := by
  by_cases h0 : i.natAbs = 0
  · rw [h0]; decide
  · exact (Nat.log2_lt h0).mpr (by omega)
theorem rep_ints : ∀ (l : List Int), (∀ i ∈ l, -(2 ^ 60) < i ∧ i < 2 ^ 60) → PyData.showableAll (l.map .int) = true ∧ repWL (l.map .int) ≤ 70 * l.length
  | [], _ => ⟨nrfl, by simp [repWL]⟩
  | i :: l, h => by
    obtain ⟨h1, h2⟩ := rep_ints l fun j hj => h j (List.mem_cons_of_mem _ hj)
    have hi := log2_small (h i List.mem_cons_self)
    refine ⟨?_, ?_⟩
    · simp only [List.map_cons, PyData.showableAll, PyData.showable, h1, Bool.and_true, decide_eq_true_eq]
      omega
    · simp only [List.map_cons, repWL, repW, List.length_cons]
      omega
theorem okRep_list (l : List Int) (h : ∀ i ∈ l, -(2 ^ 60) < i ∧ i < 2 ^ 60) (z : l.length ≤ 100000) : okRep (D.lst (l.map .int)).py = true := by
  obtain ⟨h1, h2⟩ := rep_ints l h
  have e : (D.lst (l.map .int)).py = .list (l.map .int) := by simp [D.py, pyL_ints]
  rw [e]
  simp only [okRep, PyData.plain, plain_ints, PyData.showable, h1, PyData.depth, depth_ints, repW, Bool.true_and, Bool.and_true, Bool.and_eq_true, decide_eq_true_eq, line_val]
  exact ⟨by decide, decide_eq_true (by omega)⟩
theorem okRep_int (i : Int) (h : -(2 ^ 60) < i ∧ i < 2 ^ 60) : okRep (D.int i).py = true := by
  have hi := log2_small h
  simp only [D.py, okRep, PyData.plain, PyData.showable, PyData.depth, repW, Bool.true_and, Bool.and_true, Bool.and_eq_true, decide_eq_true_eq, line_val]
  omega
theorem okRep_bl (b : Bool) : okRep (D.bl b).py = true := by cases b <;> decide
/-! comprehensions -/
@[simp] theorem xLC_eq (own : List Nat) (it : Itr) (g : Tg) (t : Tst) (e : Ex) (σ : Env) : xLC own it g t e σ = (it σ).bd fun q =>
  match lcGo own g t e (wipeE own σ) q.1 with
  | .ok w => if w.1.length ≤ line then .ok (mkN (.lst w.1) w.2) else .bad
  | _ => .bad := nrfl
@[simp] theorem wipeE_nil (σ : Env) : wipeE [] σ = σ := nrfl
@[simp] theorem wipeE_cons (i : Nat) (l : List Nat) (σ : Env) : wipeE (i :: l) σ = (wipeE l σ).set i none := nrfl
@[simp] theorem lcGo_nil (own : List Nat) (g : Tg) (t : Tst) (e : Ex) (σ : Env) : lcGo own g t e σ [] = .ok ([], []) := nrfl
theorem lcGo_cons (own : List Nat) (g : Tg) (t : Tst) (e : Ex) (σ : Env) (x : D) (xs : List D) : lcGo own g t e σ (x :: xs) = match g x σ with
    | none => .bad
    | some σ' => match t σ' with
      | .ok true => (match e σ' with
        | .ok r => if fineAt own σ' r.kp then (lcGo own g t e σ xs).bd fun q => .ok (r.d :: q.1, r.kp ++ q.2) else .bad
        | _ => .bad)
      | .ok false => lcGo own g t e σ xs
      | _ => .bad := nrfl
@[simp] theorem tYesD_eq (σ : Env) : tYesD σ = .ok true := nrfl
/-- [x for x in l if x <= b] -/
theorem lc_filter {i j : Nat} {σ : Env} {b : Int} (hi : i < σ.length) (hj : σ[j]? = some (some (.int b, false))) (ij : i ≠ j) : ∀ l : List Int,
    lcGo [i] (gName i) (tOf (xCmp .le (xVar i) (xVar j))) (xVar i) σ (l.map .int) = .ok ((l.filter fun x => decide (x ≤ b)).map .int, [])
  | [] => nrfl
  | x :: l => by
    have s1 : (σ.set i (some (D.int x, false)))[i]? = some (some (.int x, false)) := List.getElem?_set_self hi
    have s2 : (σ.set i (some (D.int x, false)))[j]? = some (some (.int b, false)) := by rw [List.getElem?_set_ne ij]; exact hj
    rw [List.map_cons, lcGo_cons]
    by_cases h : x ≤ b
    · simp [hi, s1, s2, h, lc_filter hi hj ij l]
    · simp [hi, s1, s2, h, lc_filter hi hj ij l]
theorem upto_nat (m : Nat) : (upto 0 m).map D.int = (List.range m).map fun (k : Nat) => D.int k := by
  unfold upto
  rw [List.map_map]
  congr 1
  funext k
  simp
/-- a comprehension whose turns are told -/
theorem lc_map {own : List Nat} {g : Tg} {e : Ex} {σ : Env} {β : Type} {f : β → D} {v : β → D} (l : List β) (h : ∀ b ∈ l, ∃ σ', g (f b) σ = some σ' ∧ e σ' = .ok ⟨v b, .fz, []⟩) : lcGo own g tYesD e σ (l.map f) = .ok (l.map v, []) := by
  induction l with
  | nil => exact nrfl
  | cons b l ih =>
    obtain ⟨σ', h1, h2⟩ := h b List.mem_cons_self
    rw [List.map_cons, lcGo_cons, h1]
    simp [h2, ih fun c hc => h c (List.mem_cons_of_mem _ hc)]
theorem cut_to (xs : List D) (k : Nat) (h : k ≤ xs.length) : cutL xs none (some (k : Int)) = xs.take k := by
  unfold cutL sEnd
  have e : min (k : Int).toNat xs.length = k := by simp; omega
  simp [e]
end Rt
end
section
set_option linter.all false
set_option autoImplicit false
set_option Elab.async false
set_option maxRecDepth 100000
set_option maxHeartbeats 2000000
namespace Rt
open PySem
/-! ## in -/
theorem any_ints (i : Int) : ∀ l : List Int, ((l.map PyData.int).any fun z => PyData.eqv z (.int i)) = decide (i ∈ l)
  | [] => by simp
  | j :: l => by
    rw [List.map_cons, List.any_cons, any_ints i l]
    simp only [PyData.eqv, List.mem_cons]
    by_cases h : j = i
    · subst h; simp
    · have h2 : ¬ i = j := fun e => h e.symm
      simp [h, h2]
theorem okIn_ints (i : Int) (l : List Int) : okIn (.int i) (l.map .int) = true := by
  simp [okIn, D.py, pyL_ints, PyData.plain, plain_ints, PyData.depth, depth_ints]
theorem in_ints (i : Int) (l : List Int) : dIn (.int i) (.lst (l.map .int)) = some (decide (i ∈ l)) := by
  show (if okIn (.int i) (l.map .int) then some ((D.pyL (l.map .int)).any fun z => PyData.eqv z (D.int i).py) else none) = _
  rw [if_pos (okIn_ints i l), pyL_ints]
  show some ((l.map PyData.int).any fun z => PyData.eqv z (.int i)) = _
  rw [any_ints]
theorem cmp_inI (i : Int) (l : List Int) : cmpD .inn (.int i) (.lst (l.map .int)) = some (decide (i ∈ l)) := in_ints i l
theorem cmp_ninI (i : Int) (l : List Int) : cmpD .nin (.int i) (.lst (l.map .int)) = some (!decide (i ∈ l)) := by
  show (dIn _ _).map not = _
  rw [in_ints]; rfl
/-! ## What may be shown -/
structure Sh (k w : Nat) (d : D) : Prop where
  pl : d.py.plain = true
  sh : d.py.showable = true
  dp : d.py.depth ≤ k
  wd : repW d.py ≤ w
structure ShL (k w : Nat) (ds : List D) : Prop where
  pl : PyData.plainAll (D.pyL ds) = true
  sh : PyData.showableAll (D.pyL ds) = true
  dp : PyData.depthAll (D.pyL ds) ≤ k
  wd : repWL (D.pyL ds) ≤ w
theorem sh_int {i : Int} (h : -(2 ^ 60) < i ∧ i < 2 ^ 60) : Sh 0 70 (.int i) := by
  have hi := log2_small h
  refine ⟨nrfl, ?_, by simp [D.py, PyData.depth], ?_⟩
  · simp only [D.py, PyData.showable, decide_eq_true_eq]; omega
  · simp only [D.py, repW]; omega
theorem shl_nil : ShL 0 0 [] := ⟨nrfl, nrfl, by simp [D.pyL, PyData.depthAll], by simp [D.pyL, repWL]⟩
theorem Sh.mono {k w k' w' : Nat} {d : D} (h : Sh k w d) (a : k ≤ k') (b : w ≤ w') : Sh k' w' d := ⟨h.pl, h.sh, Nat.le_trans h.dp a, Nat.le_trans h.wd b⟩
theorem shl_cons {k w u : Nat} {d : D} {ds : List D} (h : Sh k w d) (hs : ShL k u ds) : ShL k (w + 2 + u) (d :: ds) := by
  refine ⟨?_, ?_, ?_, ?_⟩
  · simp [D.pyL, PyData.plainAll, h.pl, hs.pl]
  · simp [D.pyL, PyData.showableAll, h.sh, hs.sh]
  · have a := h.dp; have b := hs.dp
    simp only [D.pyL, PyData.depthAll]; omega
  · have a := h.wd; have b := hs.wd
    simp only [D.pyL, repWL]; omega
theorem ShL.mono {k w k' w' : Nat} {d : List D} (h : ShL k w d) (a : k ≤ k') (b : w ≤ w') : ShL k' w' d := ⟨h.pl, h.sh, Nat.le_trans h.dp a, Nat.le_trans h.wd b⟩
theorem sh_tup {k w : Nat} {ds : List D} (h : ShL k w ds) : Sh (k + 1) (w + 3) (.tup ds) := by
  refine ⟨?_, ?_, ?_, ?_⟩
  · simpa [D.py, PyData.plain] using h.pl
  · simpa [D.py, PyData.showable] using h.sh
  · have a := h.dp
    simp only [D.py, PyData.depth]; omega
  · have a := h.wd
    simp only [D.py, repW]; omega
theorem sh_lst {k w : Nat} {ds : List D} (h : ShL k w ds) : Sh (k + 1) (w + 3) (.lst ds) := by
  refine ⟨?_, ?_, ?_, ?_⟩
  · simpa [D.py, PyData.plain] using h.pl
  · simpa [D.py, PyData.showable] using h.sh
  · have a := h.dp
    simp only [D.py, PyData.depth]; omega
  · have a := h.wd
    simp only [D.py, repW]; omega
theorem shl_map {k w : Nat} {β : Type} {f : β → D} : ∀ (l : List β), (∀ x ∈ l, Sh k w (f x)) → ShL k ((w + 2) * l.length) (l.map f)
  | [], _ => ⟨nrfl, nrfl, by simp [D.pyL, PyData.depthAll], by simp [D.pyL, repWL]⟩
  | x :: l, h => by
    have := shl_cons (h x List.mem_cons_self) (shl_map l fun y hy => h y (List.mem_cons_of_mem _ hy))
    refine this.mono (Nat.le_refl _) ?_
    rw [List.length_cons, Nat.mul_succ]; omega
theorem Sh.ok {k w : Nat} {d : D} (h : Sh k w d) (a : k ≤ 60) (b : w ≤ 16777216) : okRep d.py = true := by
  have hd := h.dp; have hw := h.wd
  show (d.py.plain && d.py.showable && decide (d.py.depth ≤ 60) && decide (repW d.py ≤ line)) = true
  rw [h.pl, h.sh, decide_eq_true (by omega), decide_eq_true (by rw [line_val]; omega)]
  rfl
theorem cmp_eqR (d : D) (h : okRep d.py = true) : cmpD .eq (D.rep d) (D.rep d) = some true := by
  simp only [okRep, Bool.and_eq_true] at h
  show (if sameP d.py d.py || sameD d.py d.py then some true else none) = _
  rw [sameP_refl _ h.1.1.1, Bool.true_or, if_pos rfl]
/-! ## Pairs of ints -/
def PR (p : Int × Int) : D := .tup [.int p.1, .int p.2]
theorem sh_pr {p : Int × Int} (h : (-(2 ^ 60) < p.1 ∧ p.1 < 2 ^ 60) ∧ -(2 ^ 60) < p.2 ∧ p.2 < 2 ^ 60) : Sh 1 147 (PR p) :=
  (sh_tup (shl_cons (sh_int h.1) (shl_cons (sh_int h.2) shl_nil))).mono (Nat.le_refl _) (by decide)
theorem okRep_prs (l : List (Int × Int)) (h : ∀ p ∈ l, (-(2 ^ 60) < p.1 ∧ p.1 < 2 ^ 60) ∧ -(2 ^ 60) < p.2 ∧ p.2 < 2 ^ 60) (z : l.length ≤ 100000) : okRep (D.lst (l.map PR)).py = true :=
  (sh_lst (shl_map l fun p hp => sh_pr (h p hp))).ok (by decide) (by omega)
theorem paired_map : ∀ (a b : List Int), paired (a.map .int) (b.map .int) = (a.zip b).map PR
  | [], _ => rfl
  | _ :: _, [] => rfl
  | x :: a, y :: b => by
    show _ :: paired (a.map .int) (b.map .int) = _
    rw [paired_map a b]; rfl
theorem cmp_neN {xs : List D} {k w : Nat} (h : ShL k w xs) : cmpD .ne (.lst xs) (.lst []) = some (!xs.isEmpty) := by
  show (dEq (.lst xs) (.lst [])).map not = _
  have e : dEq (.lst xs) (.lst []) = some xs.isEmpty := by
    show (if okEq (D.lst xs).py (D.lst []).py then some (PyData.eqv (D.lst xs).py (D.lst []).py) else none) = _
    have ok : okEq (D.lst xs).py (D.lst []).py = true := by
      simp [okEq, D.py, D.pyL, PyData.plain, h.pl, PyData.plainAll, PyData.depth, PyData.depthAll]
    rw [if_pos ok]
    congr 1
    cases xs <;> simp [D.py, D.pyL, PyData.eqv, PyData.eqvAll]
  rw [e]; rfl
/-! ## Places -/
@[simp] theorem spread_t (a : Ex) (es : List (Bool × Ex)) (σ : Env) : spread ((true, a) :: es) σ = (a σ).bd fun r => (match r.d with
    | .lst xs => (spread es σ).bd fun q => .ok (xs ++ q.1, r.kc ++ q.2)
    | .tup xs => (spread es σ).bd fun q => .ok (xs ++ q.1, r.kc ++ q.2)
    | _ => .bad) := nrfl
theorem idx_map {β : Type} [Inhabited β] {f : β → D} {xs : List β} {i : Int} (h : 0 ≤ i) (k : i < xs.length) : dIdx (.lst (xs.map f)) (.int i) = some (f (xs.getD i.toNat default)) := by
  refine idx_lst (k := i.toNat) (by rw [List.length_map]; exact place_nn h k) ?_
  have lt : i.toNat < xs.length := by omega
  rw [List.getElem?_map, List.getElem?_eq_getElem lt]
  simp [List.getD_eq_getElem?_getD, List.getElem?_eq_getElem lt]
theorem idx_end (xs : List D) (a : D) : dIdx (.lst (xs ++ [a])) (.int (-1)) = some a := by
  refine idx_lst (k := xs.length) ?_ ?_
  · have : (xs ++ [a]).length = xs.length + 1 := by simp
    rw [this, place_neg (by omega) (by omega)]
    congr 1
    omega
  · simp
theorem pair_0 (a b : D) : dIdx (.tup [a, b]) (.int 0) = some a := by rfl
theorem pair_1 (a b : D) : dIdx (.tup [a, b]) (.int 1) = some b := by rfl
theorem le2_ : (2 : Nat) ≤ line := by decide
theorem cut_from (xs : List D) (k : Nat) : cutL xs (some (k : Int)) none = xs.drop k := by
  show (xs.drop (if 0 ≤ (k : Int) then min (k : Int).toNat xs.length else ((k : Int) + xs.length).toNat)).take (xs.length - (if 0 ≤ (k : Int) then min (k : Int).toNat xs.length else ((k : Int) + xs.length).toNat)) = _
  rw [if_pos (by omega), Int.toNat_natCast]
  by_cases h : k ≤ xs.length
  · rw [Nat.min_eq_left h]
    exact List.take_of_length_le (by simp)
  · rw [Nat.min_eq_right (by omega), List.drop_length, List.drop_eq_nil_of_le (by omega)]
    simp
theorem numbered_map {β : Type} (f : β → D) : ∀ (l : List β) (k : Nat), numbered k (l.map f) = (l.zipIdx k).map fun p => .tup [.int p.2, f p.1]
  | [], k => rfl
  | x :: l, k => by
    show .tup [.int k, f x] :: numbered (k + 1) (l.map f) = _
    rw [numbered_map f l (k + 1)]; rfl
/-! ## Comprehensions, loops -/
theorem lc_fm {own : List Nat} {g : Tg} {t : Tst} {e : Ex} {σ : Env} {β : Type} (f : β → D) (p : β → Bool) (v : β → D) (l : List β) (h : ∀ b ∈ l, ∃ σ', g (f b) σ = some σ' ∧ t σ' = .ok (p b) ∧ (p b = true → e σ' = .ok ⟨v b, .fz, []⟩)) : lcGo own g t e σ (l.map f) = .ok ((l.filter p).map v, []) := by
  induction l with
  | nil => exact nrfl
  | cons b l ih =>
    obtain ⟨σ', h1, h2, h3⟩ := h b List.mem_cons_self
    have ih' := ih fun c hc => h c (List.mem_cons_of_mem _ hc)
    rw [List.map_cons, lcGo_cons, h1]
    cases hp : p b with
    | true =>
      rw [hp] at h2
      simp [h2, h3 hp, ih', hp]
    | false =>
      rw [hp] at h2
      simp [h2, ih', hp]
theorem seq_r (a b c : Sm) : sSeq (sSeq a b) c = sSeq a (sSeq b c) := by
  funext σ
  show ((a σ).bd b).bd c = (a σ).bd fun σ => (b σ).bd c
  cases a σ <;> rfl
def stp (g : Tg) (b : Sm) (d : D) : Sm := fun σ => match g d σ with
  | none => .bad
  | some σ' => b σ'
theorem forGo_stp (g : Tg) (b : Sm) (d : D) (ds : List D) (σ : Env) : forGo g b (d :: ds) σ = (stp g b d σ).bd (forGo g b ds) := by
  rw [forGo_cons, stp]
  cases g d σ <;> rfl
theorem for_ind {g : Tg} {b : Sm} {β : Type} {f : β → D} {l : List β} (R : List β → Env → Prop) (h : ∀ pre x post σ, l = pre ++ x :: post → R pre σ → ∃ σ', stp g b (f x) σ = .nx σ' ∧ R (pre ++ [x]) σ') {σ : Env} (h0 : R [] σ) : ∃ σ', forGo g b (l.map f) σ = .nx σ' ∧ R l σ' := by
  have key : ∀ (post pre : List β) (σ : Env), l = pre ++ post → R pre σ → ∃ σ', forGo g b (post.map f) σ = .nx σ' ∧ R l σ' := by
    intro post
    induction post with
    | nil =>
      intro pre σ e r
      rw [List.append_nil] at e
      subst e
      exact ⟨σ, rfl, r⟩
    | cons x post ih =>
      intro pre σ e r
      obtain ⟨σ', e1, r1⟩ := h pre x post σ e r
      obtain ⟨σ'', e2, r2⟩ := ih (pre ++ [x]) σ' (by rw [e, List.append_assoc]; rfl) r1
      refine ⟨σ'', ?_, r2⟩
      rw [List.map_cons, forGo_stp, e1, O.bd_nx, e2]
  exact key l [] σ rfl h0
theorem for_upto {g : Tg} {b : Sm} {lo : Int} {n : Nat} (R : Nat → Env → Prop) (h : ∀ i σ, i < n → R i σ → ∃ σ', stp g b (.int (lo + (i : Int))) σ = .nx σ' ∧ R (i + 1) σ') {σ : Env} (h0 : R 0 σ) : ∃ σ', forGo g b ((upto lo n).map .int) σ = .nx σ' ∧ R n σ' := by
  have e : (upto lo n).map D.int = (List.range n).map fun (k : Nat) => D.int (lo + (k : Int)) := by
    unfold upto
    rw [List.map_map]; rfl
  rw [e]
  obtain ⟨σ', e1, r⟩ := for_ind (g := g) (b := b) (f := fun (k : Nat) => D.int (lo + (k : Int))) (l := List.range n) (fun pre σ => R pre.length σ) (fun pre x post σ q r => by
    have hl := congrArg List.length q
    simp at hl
    have hx : x = pre.length := by
      have := congrArg (fun l => l[pre.length]?) q
      simp at this
      rw [List.getElem?_range (by omega)] at this
      exact (Option.some.inj this).symm
    subst hx
    obtain ⟨σ', a, b⟩ := h pre.length σ (by omega) r
    exact ⟨σ', a, by simpa using b⟩) (σ := σ) h0
  exact ⟨σ', e1, by simpa using r⟩
theorem while_ind {t : Tst} {b : Sm} {n : Nat} (hn : n < fuel) (R : Nat → Env → Prop) (h : ∀ i σ, i < n → R i σ → t σ = .ok true ∧ ∃ σ', b σ = .nx σ' ∧ R (i + 1) σ') (hz : ∀ σ, R n σ → t σ = .ok false) {σ : Env} (h0 : R 0 σ) : ∃ σ', sWhile t b σ = .nx σ' ∧ R n σ' := by
  have key : ∀ (k i fu : Nat) (σ : Env), i + k = n → k < fu → R i σ → ∃ σ', whileGo t b fu σ = .nx σ' ∧ R n σ' := by
    intro k
    induction k with
    | zero =>
      intro i fu σ e l r
      obtain ⟨fu, rfl⟩ : ∃ m, fu = m + 1 := ⟨fu - 1, by omega⟩
      have e : i = n := by omega
      subst e
      refine ⟨σ, ?_, r⟩
      show (t σ).to σ _ = _
      rw [hz σ r]; rfl
    | succ k ih =>
      intro i fu σ e l r
      obtain ⟨fu, rfl⟩ : ∃ m, fu = m + 1 := ⟨fu - 1, by omega⟩
      obtain ⟨e1, σ', e2, r2⟩ := h i σ (by omega) r
      obtain ⟨σ'', e3, r3⟩ := ih (i + 1) fu σ' (by omega) (by omega) r2
      refine ⟨σ'', ?_, r3⟩
      show (t σ).to σ _ = _
      rw [e1]
      show (b σ).bd (whileGo t b fu) = _
      rw [e2]; exact e3
  exact key n 0 fuel σ (by omega) hn h0
theorem bMax_ints (a : Int) (l : List Int) : bMax [.lst (.int a :: l.map .int)] = some (.int (l.foldl max a), false) := by
  have : asInts (.int a :: l.map .int) = some (a :: l) := asInts_map (a :: l)
  simp only [bMax, this, greatI, Option.map_some]
theorem bMin_ints (a : Int) (l : List Int) : bMin [.lst (.int a :: l.map .int)] = some (.int (l.foldl min a), false) := by
  have : asInts (.int a :: l.map .int) = some (a :: l) := asInts_map (a :: l)
  simp only [bMin, this, leastI, Option.map_some]
@[simp] theorem sPut_eq (i : Nat) (k e : Ex) (σ : Env) : sPut i k e σ = match σ[i]? with
  | some (some (.lst _, true)) => (e σ).to σ fun r => (k σ).to σ fun s => frzO r.kp σ fun σ' => (match s.d, σ'[i]? with
    | .int j, some (some (.lst xs, true)) => (match place xs.length j with
      | some n => .nx (σ'.set i (some (.lst (xs.set n r.d), true)))
      | none => .bad)
    | _, _ => .bad)
  | some (some (.dct _ _, true)) => (e σ).to σ fun r => (k σ).to σ fun s => frzO r.kp σ fun σ' => (match σ'[i]? with
    | some (some (.dct ks vs, true)) => if isKey s.d && decide (ks.length < line) then .nx (σ'.set i (some (.dct (dkPut ks vs s.d r.d).1 (dkPut ks vs s.d r.d).2, true))) else .bad
    | _ => .bad)
  | _ => .bad := nrfl
@[simp] theorem sExt_eq (i : Nat) (e : Ex) (σ : Env) : sExt i e σ = match σ[i]? with
  | some (some (.lst _, true)) => (e σ).to σ fun r => (match r.d with
    | .lst ys => frzO r.kc σ fun σ' => (match σ'[i]? with
      | some (some (.lst xs, true)) => if xs.length + ys.length ≤ line then .nx (σ'.set i (some (.lst (xs ++ ys), true))) else .bad
      | _ => .bad)
    | _ => .bad)
  | _ => .bad := nrfl
@[simp] theorem sRem_eq (i : Nat) (e : Ex) (σ : Env) : sRem i e σ = match σ[i]? with
  | some (some (.lst _, true)) => (e σ).to σ fun r => (match r.d with
    | .int k => frzO r.kp σ fun σ' => (match σ'[i]? with
      | some (some (.lst xs, true)) => (match asInts xs with
        | some is => (match firstAt k is with
          | some j => .nx (σ'.set i (some (.lst ((is.eraseIdx j).map .int), true)))
          | none => .bad)
        | none => .bad)
      | _ => .bad)
    | _ => .bad)
  | _ => .bad := nrfl
@[simp] theorem xGet_eq (a : Ex) (es : List Ex) (σ : Env) : xGet a es σ = (a σ).bd fun r => match r.d with
  | .dct ks vs => (evs es σ).bd fun rs => (match dGet ks vs (dL rs) with
    | some d => .ok (mkF d (r.kp ++ kpL rs))
    | none => .bad)
  | _ => .bad := nrfl
@[simp] theorem iSeqF_eq (a : Ex) (σ : Env) : iSeqF a σ = (a σ).bd fun r => match r.d, r.t with
  | .lst xs, .nw => .ok (xs, r.p)
  | _, _ => .bad := nrfl
@[simp] theorem xDC_eq (own : List Nat) (it : Itr) (g : Tg) (t : Tst) (k e : Ex) (σ : Env) : xDC own it g t k e σ = (it σ).bd fun q =>
  match dcGo g t k e (wipeE own σ) q.1 [] [] with
  | .ok w => .ok (mkN (.dct w.1 w.2) [])
  | _ => .bad := nrfl
@[simp] theorem xLC2_eq (own js : List Nat) (it : Itr) (g : Tg) (t : Tst) (it1 : Itr) (g1 : Tg) (t1 : Tst) (e : Ex) (σ : Env) : xLC2 own js it g t it1 g1 t1 e σ = (it σ).bd fun q =>
  match lc2Go js g t it1 g1 t1 e (wipeE own σ) q.1 with
  | .ok w => if w.length ≤ line then .ok (mkN (.lst w) []) else .bad
  | _ => .bad := nrfl
/-! dicts of ints by ints -/
def getP : List (Int × Int) → Int → Option Int
  | [], _ => none
  | p :: l, k => if p.1 = k then some p.2 else getP l k
def putP : List (Int × Int) → Int → Int → List (Int × Int)
  | [], k, v => [(k, v)]
  | p :: l, k, v => if p.1 = k then (k, v) :: l else p :: putP l k v
def DP (l : List (Int × Int)) : D := .dct (l.map fun p => .int p.1) (l.map fun p => .int p.2)
theorem dkGet_DP (k : Int) : ∀ l : List (Int × Int), dkGet (l.map fun p => D.int p.1) (l.map fun p => D.int p.2) (.int k) = (getP l k).map .int
  | [] => rfl
  | p :: l => by
    show (if sameKey (.int p.1) (.int k) then some (D.int p.2) else dkGet (l.map fun p => D.int p.1) (l.map fun p => D.int p.2) (.int k)) = _
    rw [dkGet_DP k l]
    show _ = (if p.1 = k then some p.2 else getP l k).map D.int
    by_cases c : p.1 = k
    · rw [if_pos c, if_pos (by simp [sameKey, c])]; rfl
    · rw [if_neg c, if_neg (by simp [sameKey, c])]
theorem dkPut_DP (k v : Int) (l : List (Int × Int)) (nd : l.Pairwise (·.1 ≠ ·.1)) : dkPut (l.map fun p => D.int p.1) (l.map fun p => D.int p.2) (.int k) (.int v) = ((putP l k v).map (fun p => D.int p.1), (putP l k v).map fun p => D.int p.2) := by
  have a : ∀ l : List (Int × Int), ((l.map fun p => D.int p.1).any fun z => sameKey z (.int k)) = l.any fun p => decide (p.1 = k) := fun l => by
    rw [List.any_map]; rfl
  have s1 : ∀ l : List (Int × Int), (∀ p ∈ l, p.1 ≠ k) → dkSet (l.map fun p => D.int p.1) (l.map fun p => D.int p.2) (.int k) (.int v) = l.map fun p => D.int p.2 := fun l => by
    induction l with
    | nil => intro _; rfl
    | cons p l ih =>
      intro h
      show (if sameKey (.int p.1) (.int k) then D.int v else .int p.2) :: dkSet _ _ _ _ = _
      rw [ih fun q hq => h q (List.mem_cons_of_mem _ hq), if_neg (by simp [sameKey, h p List.mem_cons_self])]; rfl
  have s2 : ∀ l : List (Int × Int), l.Pairwise (·.1 ≠ ·.1) → (l.any fun p => decide (p.1 = k)) = true → dkSet (l.map fun p => D.int p.1) (l.map fun p => D.int p.2) (.int k) (.int v) = ((putP l k v).map fun p => D.int p.2) ∧ ((putP l k v).map fun p => D.int p.1) = l.map fun p => D.int p.1 := fun l => by
    induction l with
    | nil => intro _ h; cases h
    | cons p l ih =>
      intro nd h
      have nd' := List.pairwise_cons.mp nd
      unfold putP
      show (if sameKey (.int p.1) (.int k) then D.int v else .int p.2) :: dkSet _ _ _ _ = _ ∧ _
      by_cases c : p.1 = k
      · rw [if_pos (by simp [sameKey, c]), if_pos c, s1 l fun q hq e => nd'.1 q hq (c.trans e.symm)]
        exact ⟨rfl, by rw [List.map_cons, List.map_cons, c]⟩
      · rw [if_neg (by simp [sameKey, c]), if_neg c]
        rw [List.any_cons, decide_eq_false c, Bool.false_or] at h
        obtain ⟨i1, i2⟩ := ih nd'.2 h
        exact ⟨by rw [i1]; rfl, by rw [List.map_cons, i2]; rfl⟩
  have s3 : ∀ l : List (Int × Int), (l.any fun p => decide (p.1 = k)) = false → putP l k v = l ++ [(k, v)] := fun l => by
    induction l with
    | nil => intro _; rfl
    | cons p l ih =>
      intro h
      rw [List.any_cons, Bool.or_eq_false_iff] at h
      unfold putP
      rw [if_neg (of_decide_eq_false h.1), ih h.2]; rfl
  unfold dkPut
  rw [a]
  cases q : l.any fun p => decide (p.1 = k) with
  | true =>
    rw [if_pos rfl]
    obtain ⟨i1, i2⟩ := s2 l nd q
    rw [i1, i2]
  | false =>
    rw [if_neg (by simp), s3 l q]
    simp
theorem okRepD_DP (l : List (Int × Int)) (h : ∀ p ∈ l, (-(2 ^ 60) < p.1 ∧ p.1 < 2 ^ 60) ∧ -(2 ^ 60) < p.2 ∧ p.2 < 2 ^ 60) (z : l.length ≤ 10000) : okRepD (DP l) = true := by
  have e : (D.pyL (l.map fun p => D.int p.1)).zip (D.pyL (l.map fun p => D.int p.2)) = l.map fun p => (PyData.int p.1, PyData.int p.2) := by
    clear h z
    induction l with
    | nil => rfl
    | cons p l ih =>
      simp only [List.map_cons, D.pyL, D.py, List.zip_cons_cons]
      rw [ih]
  show okKv ((D.pyL (l.map fun p => D.int p.1)).zip (D.pyL (l.map fun p => D.int p.2))) = true
  rw [e]
  have si : ∀ i : Int, (-(2 ^ 60) < i ∧ i < 2 ^ 60) → (PyData.int i).showable = true ∧ repW (.int i) ≤ 70 := fun i hi => by
    have g := sh_int hi
    have g1 := g.sh
    have g2 := g.wd
    simp only [D.py] at g1 g2
    exact ⟨g1, by omega⟩
  have ha : ∀ l : List (Int × Int), (∀ p ∈ l, (-(2 ^ 60) < p.1 ∧ p.1 < 2 ^ 60) ∧ -(2 ^ 60) < p.2 ∧ p.2 < 2 ^ 60) → (l.map fun p => (PyData.int p.1, PyData.int p.2)).all (fun kv => kv.1.plain && kv.2.plain) = true ∧ PyData.showableKv (l.map fun p => (PyData.int p.1, PyData.int p.2)) = true ∧ PyData.depthKv (l.map fun p => (PyData.int p.1, PyData.int p.2)) ≤ 1 ∧ repWK (l.map fun p => (PyData.int p.1, PyData.int p.2)) ≤ 144 * l.length := fun l => by
    induction l with
    | nil => intro _; exact ⟨rfl, by simp [PyData.showableKv], by simp [PyData.depthKv], by simp [repWK]⟩
    | cons p l ih =>
      intro h
      obtain ⟨i1, i2, i3, i4⟩ := ih fun q hq => h q (List.mem_cons_of_mem _ hq)
      have hp := h p List.mem_cons_self
      obtain ⟨a1, a2⟩ := si _ hp.1
      obtain ⟨b1, b2⟩ := si _ hp.2
      refine ⟨?_, ?_, ?_, ?_⟩
      · rw [List.map_cons, List.all_cons, i1]; rfl
      · simp only [List.map_cons, PyData.showableKv, a1, b1, i2]; rfl
      · simp only [List.map_cons, PyData.depthKv, PyData.depth]; omega
      · simp only [List.map_cons, repWK, List.length_cons]; omega
  obtain ⟨h1, h2, h3, h4⟩ := ha l h
  have h2' : PyData.showable (.dict (l.map fun p => (PyData.int p.1, PyData.int p.2))) = true := by simp only [PyData.showable, h2]
  have h3' : (PyData.dict (l.map fun p => (PyData.int p.1, PyData.int p.2))).depth ≤ 60 := by simp only [PyData.depth]; omega
  unfold okKv
  rw [h1, h2', decide_eq_true h3', decide_eq_true (by rw [line_val]; omega)]; rfl
@[simp] theorem xDct0_eq (σ : Env) : xDct0 σ = .ok ⟨.dct [] [], .nw, []⟩ := nrfl
@[simp] theorem xMt_eq (f : List D → List D → Option (D × Bool)) (a : Ex) (es : List Ex) (σ : Env) : xMt f a es σ = (a σ).bd fun r => match r.d with
  | .lst xs => (evs es σ).bd fun rs => (match f xs (dL rs) with
    | some (d, fr) => .ok (mk fr d (r.kc ++ kcL rs))
    | none => .bad)
  | _ => .bad := nrfl
@[simp] theorem iRng3_eq (a b c : Ex) (σ : Env) : iRng3 a b c σ = (a σ).bd fun r => (b σ).bd fun s => (c σ).bd fun t => match r.d, s.d, t.d with
  | .int i, .int j, .int k => (match stepI i j k with
    | some l => .ok (l.map .int, [])
    | none => .bad)
  | _, _, _ => .bad := nrfl
@[simp] theorem xLRg1_eq (a : Ex) (σ : Env) : xLRg1 a σ = (a σ).bd fun r => match r.d with
  | .int n => if okRl n then .ok ⟨.lst ((upto 0 n.toNat).map .int), .nw, []⟩ else .bad
  | _ => .bad := nrfl
theorem okRl_of {i : Int} (h : 0 ≤ i) (k : i ≤ 16777216) : okRl i = true := by
  unfold okRl
  rw [decide_eq_true h, below_iff.mpr (by omega)]; rfl
theorem mIndex_ints (l : List Int) (k : Int) : mIndex (l.map .int) [.int k] = (firstAt k l).map fun j => (.int (j : Nat), false) := by
  simp [mIndex, asInts_map]
theorem mCount_ints (l : List Int) (k : Int) : mCount (l.map .int) [.int k] = some (.int (l.count k : Nat), false) := by
  simp [mCount, asInts_map]
theorem idx2 (a b m : Int) (h : 0 ≤ m) (k : m < 2) : dIdx (.lst [.int a, .int b]) (.int m) = some (.int ([a, b].getD m.toNat 0)) := idx_ints (xs := [a, b]) h (by simpa using k)
theorem idx3 (a b c m : Int) (h : 0 ≤ m) (k : m < 3) : dIdx (.lst [.int a, .int b, .int c]) (.int m) = some (.int ([a, b, c].getD m.toNat 0)) := idx_ints (xs := [a, b, c]) h (by simpa using k)
theorem getD2 (a b m : Int) (h : 0 ≤ m) (k : m < 2) : [a, b].getD m.toNat 0 = a ∨ [a, b].getD m.toNat 0 = b := by
  have : m = 0 ∨ m = 1 := by omega
  rcases this with rfl | rfl <;> simp
theorem getD3 (a b c m : Int) (h : 0 ≤ m) (k : m < 3) : [a, b, c].getD m.toNat 0 = a ∨ [a, b, c].getD m.toNat 0 = b ∨ [a, b, c].getD m.toNat 0 = c := by
  have : m = 0 ∨ m = 1 ∨ m = 2 := by omega
  rcases this with rfl | rfl | rfl <;> simp
/-! ## One part, then the rest -/
theorem seq_ex {U V : Sm} {σ : Env} {Q : Env → Prop} {r : R (D × Bool)} (h : ∃ σ', U σ = .nx σ' ∧ Q σ') (k : ∀ σ', Q σ' → ends (V σ') = r) : ends (sSeq U V σ) = r := by
  obtain ⟨σ', e, q⟩ := h
  rw [sSeq_eq, e, O.bd_nx]
  exact k σ' q
theorem seq_e {U V : Sm} {σ σ' : Env} {r : R (D × Bool)} (h : U σ = .nx σ') (k : ends (V σ') = r) : ends (sSeq U V σ) = r := by
  rw [sSeq_eq, h, O.bd_nx]
  exact k
theorem seq_nx {U V : Sm} {σ : Env} {Q S : Env → Prop} (h : ∃ σ', U σ = .nx σ' ∧ Q σ') (k : ∀ σ', Q σ' → ∃ σ'', V σ' = .nx σ'' ∧ S σ'') : ∃ σ'', sSeq U V σ = .nx σ'' ∧ S σ'' := by
  obtain ⟨σ', e, q⟩ := h
  rw [sSeq_eq, e, O.bd_nx]
  exact k σ' q
theorem seq_nx1 {U V : Sm} {σ σ' : Env} {S : Env → Prop} (h : U σ = .nx σ') (k : ∃ σ'', V σ' = .nx σ'' ∧ S σ'') : ∃ σ'', sSeq U V σ = .nx σ'' ∧ S σ'' := by
  rw [sSeq_eq, h, O.bd_nx]
  exact k
end Rt
end
section
set_option linter.all false
set_option autoImplicit false
set_option Elab.async false
set_option maxRecDepth 100000
set_option maxHeartbeats 2000000
namespace Rt
open PySem
/-! ## Lists of pairs of ints: plain, compared, sorted, cut -/
theorem py_pr (p : Int × Int) : (PR p).py = .tuple [.int p.1, .int p.2] := by simp [PR, D.py, D.pyL]
theorem pyL_prs : ∀ L : List (Int × Int), D.pyL (L.map PR) = L.map fun p => PyData.tuple [.int p.1, .int p.2]
  | [] => rfl
  | p :: L => by
    show (PR p).py :: D.pyL (L.map PR) = _
    rw [pyL_prs L, py_pr]; rfl
theorem plain_prs : ∀ L : List (Int × Int), PyData.plainAll (D.pyL (L.map PR)) = true
  | [] => by simp [D.pyL, PyData.plainAll]
  | p :: L => by
    show PyData.plainAll ((PR p).py :: D.pyL (L.map PR)) = true
    rw [py_pr]
    simp [PyData.plainAll, PyData.plain, plain_prs L]
theorem depth_prs : ∀ L : List (Int × Int), PyData.depthAll (D.pyL (L.map PR)) ≤ 1
  | [] => by simp [D.pyL, PyData.depthAll]
  | p :: L => by
    show PyData.depthAll ((PR p).py :: D.pyL (L.map PR)) ≤ 1
    have := depth_prs L
    rw [py_pr]
    simp only [PyData.depthAll, PyData.depth]
    omega
theorem eqv_prs : ∀ L M : List (Int × Int), PyData.eqvAll (D.pyL (L.map PR)) (D.pyL (M.map PR)) = decide (L = M)
  | [], [] => by simp [D.pyL, PyData.eqvAll]
  | [], q :: M => by
    show PyData.eqvAll [] ((PR q).py :: D.pyL (M.map PR)) = _
    simp [PyData.eqvAll]
  | p :: L, [] => by
    show PyData.eqvAll ((PR p).py :: D.pyL (L.map PR)) [] = _
    simp [PyData.eqvAll]
  | p :: L, q :: M => by
    show PyData.eqvAll ((PR p).py :: D.pyL (L.map PR)) ((PR q).py :: D.pyL (M.map PR)) = _
    have e : PyData.eqv (PR p).py (PR q).py = decide (p = q) := by
      rw [py_pr, py_pr]
      obtain ⟨p1, p2⟩ := p
      obtain ⟨q1, q2⟩ := q
      simp only [PyData.eqv, PyData.eqvAll, Prod.mk.injEq, Bool.and_true, Bool.decide_and]
      rfl
    simp only [PyData.eqvAll, e, eqv_prs L M, List.cons.injEq]
    by_cases h : p = q <;> simp [h]
theorem okEq_prs (L M : List (Int × Int)) : okEq (D.lst (L.map PR)).py (D.lst (M.map PR)).py = true := by
  have d := depth_prs L
  have h : decide ((D.lst (L.map PR)).py.depth ≤ 60) = true := decide_eq_true (by simp only [D.py, PyData.depth]; omega)
  unfold okEq
  rw [h]
  simp [D.py, PyData.plain, plain_prs]
theorem dEq_prs (L M : List (Int × Int)) : dEq (.lst (L.map PR)) (.lst (M.map PR)) = some (decide (L = M)) := by
  show (if okEq (D.lst (L.map PR)).py (D.lst (M.map PR)).py then some (PyData.eqv (D.lst (L.map PR)).py (D.lst (M.map PR)).py) else none) = _
  rw [if_pos (okEq_prs L M)]
  congr 1
  have e := eqv_prs L M
  simpa [D.py, PyData.eqv] using e
theorem cmp_nePR (L M : List (Int × Int)) : cmpD .ne (.lst (L.map PR)) (.lst (M.map PR)) = some (!decide (L = M)) := by
  show (dEq _ _).map not = _
  rw [dEq_prs]; rfl
theorem cmp_eqPR (L M : List (Int × Int)) : cmpD .eq (.lst (L.map PR)) (.lst (M.map PR)) = some (decide (L = M)) := dEq_prs L M
theorem cmp_neN_pr (L : List (Int × Int)) : cmpD .ne (.lst (L.map PR)) (.lst []) = some (!L.isEmpty) := by
  have := cmp_nePR L []
  rw [List.map_nil] at this
  rw [this]
  cases L <;> rfl
theorem asInts_pr (p : Int × Int) (l : List D) : asInts (PR p :: l) = none := rfl
theorem alike_pr (p q : Int × Int) : PySem.W.alike (PR p).py (PR q).py = true := by
  rw [py_pr, py_pr]; simp [PySem.W.alike, PySem.W.alikeAll]
theorem okSort_prs (L : List (Int × Int)) : okSort (L.map PR) = true := by
  have d := depth_prs L
  have d' : PyData.depthAll (D.pyL (L.map PR)) ≤ 50 := by omega
  have t : (L.map PR).all (fun x => tupC x.py) = true := by
    rw [List.all_eq_true]
    intro x hx
    obtain ⟨p, _, rfl⟩ := List.mem_map.mp hx
    rw [py_pr]; rfl
  have a : ((L.map PR).all fun x => (L.map PR).all fun y => PySem.W.alike x.py y.py) = true := by
    rw [List.all_eq_true]
    intro x hx
    rw [List.all_eq_true]
    intro y hy
    obtain ⟨p, _, rfl⟩ := List.mem_map.mp hx
    obtain ⟨q, _, rfl⟩ := List.mem_map.mp hy
    exact alike_pr p q
  unfold okSort
  rw [plain_prs, a, t, decide_eq_true d']
  rfl
def leP (p q : Int × Int) : Bool := decide (p.1 < q.1 ∨ (p.1 = q.1 ∧ p.2 ≤ q.2))
theorem leD_pr (p q : Int × Int) : leD (PR p) (PR q) = leP p q :=
  congrFun (congrFun (PySem.W.dataLe_ii (β := Int × Int) (fun p => p.1) (fun p => p.2)) p) q
theorem sort_prs (L : List (Int × Int)) : bSorted [.lst (L.map PR)] = some (.lst ((L.mergeSort leP).map PR), true) := by
  cases L with
  | nil =>
    have : ([] : List (Int × Int)).mergeSort leP = [] := by simp
    rw [this]; rfl
  | cons p L =>
    have e : bSorted [.lst ((p :: L).map PR)] = (if okSort ((p :: L).map PR) then some (.lst (((p :: L).map PR).mergeSort leD), true) else none) := rfl
    rw [e, if_pos (okSort_prs _)]
    rw [← List.map_mergeSort (r := leP) (s := leD) (f := PR) (l := p :: L) (fun a _ b _ => (leD_pr a b).symm)]
theorem sort_prs_id {L : List (Int × Int)} (h : L.Pairwise fun p q => leP p q = true) : bSorted [.lst (L.map PR)] = some (.lst (L.map PR), true) := by
  rw [sort_prs, List.mergeSort_of_pairwise h]
/-! cuts -/
theorem cut_all (n : Nat) (lo hi : Option Int) : ∃ i j : Nat, ∀ {α : Type} (xs : List α), xs.length = n → cutL xs lo hi = (xs.drop i).take j :=
  ⟨sEnd n 0 lo, sEnd n n hi - sEnd n 0 lo, fun xs h => by unfold cutL; rw [h]⟩
theorem cut_map {β : Type} (f : β → D) (l : List β) (lo hi : Option Int) : cutL (l.map f) lo hi = (cutL l lo hi).map f := by
  obtain ⟨i, j, h⟩ := cut_all l.length lo hi
  rw [h _ (by simp), h _ rfl, List.map_take, List.map_drop]
theorem cut_sub {β : Type} {l : List β} {lo hi : Option Int} {x : β} (h : x ∈ cutL l lo hi) : x ∈ l := by
  obtain ⟨i, j, e⟩ := cut_all l.length lo hi
  rw [e _ rfl] at h
  exact List.mem_of_mem_drop (List.mem_of_mem_take h)
theorem cut_len {β : Type} (l : List β) (lo hi : Option Int) : (cutL l lo hi).length ≤ l.length := by
  obtain ⟨i, j, e⟩ := cut_all l.length lo hi
  rw [e _ rfl, List.length_take, List.length_drop]
  omega
theorem cut_last {β : Type} (l : List β) (x : β) : cutL (l ++ [x]) none (some (-1)) = l := by
  have n : (l ++ [x]).length = l.length + 1 := by simp
  have m : (-1 + ((l.length : Int) + 1)).toNat = l.length := by omega
  unfold cutL sEnd
  rw [n]
  simp [m]
theorem set_last {α : Type} {xs : List α} {x v : α} : (xs ++ [x]).set xs.length v = xs ++ [v] := by simp
theorem place_last (n : Nat) : place (n + 1) (-1) = some n := by
  rw [place_neg (by omega) (by omega)]
  congr 1
  omega
theorem dAdd_lst {xs ys : List D} (h : xs.length + ys.length ≤ line) : dAdd (.lst xs) (.lst ys) = some (.lst (xs ++ ys), true) := if_pos h
@[simp] theorem dSlice_lst (xs : List D) (lo hi : Option Int) : dSlice (.lst xs) lo hi = some (.lst (cutL xs lo hi), true) := nrfl
theorem immL_prs : ∀ l : List (Int × Int), D.immL (l.map PR) = true
  | [] => rfl
  | p :: l => by
    show (D.imm (PR p) && D.immL (l.map PR)) = true
    rw [immL_prs l]; rfl
theorem mkN_prs (l : List (Int × Int)) (p : List Nat) : mkN (.lst (l.map PR)) p = ⟨.lst (l.map PR), .nw, []⟩ := by
  cases p with
  | nil => rfl
  | cons i p =>
    show (⟨.lst (l.map PR), .nw, if D.immL (l.map PR) then [] else _⟩ : Rv) = _
    rw [immL_prs]; rfl
theorem immL_ints : ∀ l : List Int, D.immL (l.map D.int) = true
  | [] => rfl
  | p :: l => by
    show (D.imm (D.int p) && D.immL (l.map D.int)) = true
    rw [immL_ints l]; rfl
theorem mkN_ints (l : List Int) (p : List Nat) : mkN (.lst (l.map D.int)) p = ⟨.lst (l.map D.int), .nw, []⟩ := by
  cases p with
  | nil => rfl
  | cons i p =>
    show (⟨.lst (l.map D.int), .nw, if D.immL (l.map D.int) then [] else _⟩ : Rv) = _
    rw [immL_ints]; rfl
/-- a loop that returns at the first x with c x -/
theorem for_find {g : Tg} {b : Sm} {β : Type} {f : β → D} (c : β → Bool) (v : β → D) (R : Env → Prop) : ∀ {l : List β} {σ : Env}, (∀ x ∈ l, ∀ σ, R σ → (c x = true → stp g b (f x) σ = .rt (v x) false) ∧ (c x = false → ∃ σ', stp g b (f x) σ = .nx σ' ∧ R σ')) → R σ →
    (∀ x, l.find? c = some x → forGo g b (l.map f) σ = .rt (v x) false) ∧ (l.find? c = none → ∃ σ', forGo g b (l.map f) σ = .nx σ' ∧ R σ')
  | [], σ, _, h0 => ⟨(fun x e => by cases e), fun _ => ⟨σ, rfl, h0⟩⟩
  | y :: l, σ, h, h0 => by
    obtain ⟨a1, a2⟩ := h y List.mem_cons_self σ h0
    rw [List.map_cons, forGo_stp]
    cases q : c y with
    | true =>
      rw [List.find?_cons, q, a1 q]
      exact ⟨(fun x e => by cases e; rfl), fun e => by cases e⟩
    | false =>
      obtain ⟨σ', e, r⟩ := a2 q
      rw [List.find?_cons, q, e]
      exact for_find c v R (fun x hx => h x (List.mem_cons_of_mem _ hx)) r
end Rt
end
section
set_option linter.all false
set_option autoImplicit false
set_option Elab.async false
set_option maxRecDepth 100000
set_option maxHeartbeats 2000000
set_option exponentiation.threshold 20000
namespace Rt
open PySem
/-! ## Fractions in least terms are rational numbers -/
def dF (x : Rat) : D := .tup [.int x.num, .int x.den]
def Sz (k : Nat) (x : Rat) : Prop := x.num.natAbs < 2 ^ k ∧ x.den < 2 ^ k
theorem log2_le {n k : Nat} (h : n < 2 ^ k) : n.log2 ≤ k := by
  by_cases h0 : n = 0
  · subst h0; exact Nat.zero_le _
  · have := (Nat.log2_lt h0).mpr h; omega
theorem wide_sz {i j : Int} {a b : Nat} (h : i.natAbs < 2 ^ a) (k : j.natAbs < 2 ^ b) (z : a + b < 1000000) : wideOk i j = true := by
  have h1 := log2_le h
  have h2 := log2_le k
  have e : decide (i.natAbs.log2 + j.natAbs.log2 < 1000000) = true := decide_eq_true (by omega)
  unfold wideOk
  rw [e, Bool.or_true]
theorem mul_sz {i j : Int} {a b : Nat} (h : i.natAbs < 2 ^ a) (k : j.natAbs < 2 ^ b) (z : a + b < 1000000) : dMul (.int i) (.int j) = some (.int (i * j), false) := by rw [dMul_int, if_pos (wide_sz h k z)]
theorem div_sz {i j : Int} {a : Nat} (h : 0 < j) (k : j.natAbs < 2 ^ a) (z : a < 9000) : dDiv (.int i) (.int j) = some (.int (i / j), false) := by
  have e1 : posI j = true := posI_iff.mpr h
  have e2 : decide (j.natAbs.log2 < 9000) = true := decide_eq_true (by have := log2_le k; omega)
  show (if posI j && (below j 18446744073709551614 || decide (j.natAbs.log2 < 9000)) then _ else _) = _
  rw [e1, e2, Bool.or_true]
  rfl
theorem low_num {a b : Int} (hb : 0 < b) : (Rat.divInt a b).num = a / (Int.gcd a b : Int) := by
  rw [Rat.num_divInt, Int.sign_eq_one_of_pos hb, Int.one_mul, Int.gcd_comm]
theorem low_den {a b : Int} (hb : 0 < b) : ((Rat.divInt a b).den : Int) = b / (Int.gcd a b : Int) := by
  rw [Rat.den_divInt, if_neg (by omega), Int.gcd_comm, Int.natCast_ediv]
  congr 1
  omega
theorem gcd_pos {a b : Int} (hb : 0 < b) : 0 < Int.gcd a b := Int.gcd_pos_of_ne_zero_right _ (by omega)
theorem gcd_sz {a b : Int} {k : Nat} (hb : 0 < b) (h : b.natAbs < 2 ^ k) : (Int.gcd a b : Int).natAbs < 2 ^ k := by
  have : Int.gcd a b ≤ b.natAbs := Nat.le_of_dvd (by omega) (Int.gcd_dvd_natAbs_right a b)
  simp
  omega
def B_frac : Sm :=
  (sSeq (sIf (tOf (xCmp .lt (xVar 1) (xCon (.int 0))))
  (sPar 0 1 (xNeg (xVar 0)) (xNeg (xVar 1)))
  sPass)
  (sSeq (sSet 2 (xBi bGcd [(xVar 0), (xVar 1)]))
  (sRet (xTup [(false, (xBin dDiv (xVar 0) (xVar 2))), (false, (xBin dDiv (xVar 1) (xVar 2)))]))))
theorem bGcd_2 (i j : Int) : bGcd [.int i, .int j] = some (.int (Int.gcd i j : Nat), false) := rfl
theorem le2' : (2 : Nat) ≤ line := by decide
theorem frac_body {a b : Int} (hb : 0 < b) (sz : b.natAbs < 2 ^ 8000) : ends (B_frac (begin_ 3 [.int a, .int b])) = .ok (dF (Rat.divInt a b), false) := by
  have h0 : ¬ b < 0 := by omega
  have g : (0 : Int) < (Int.gcd a b : Nat) := by have := gcd_pos (a := a) hb; omega
  have gs := gcd_sz (a := a) hb sz
  have d1 := div_sz (i := a) g gs (by decide)
  have d2 := div_sz (i := b) g gs (by decide)
  unfold dF
  rw [low_num hb, low_den hb]
  generalize (2 ^ 8000 : Nat) = Z at *
  simp [B_frac, begin_, h0, bGcd_2, d1, d2, le2']
/-! the divisor by Euclid -/
def B_gcdL : Sm := (sTg (gTup [(gName 0), (gName 1)]) (xLst [(false, (xVar 1)), (false, (xBin dMod (xBi bInt [(xVar 0)]) (xVar 1)))]))
def B_gcdT : Tst := tOf (xCmp .ne (xVar 1) (xCon (.int 0)))
theorem gcd_step {a b : Int} (hb : 0 < b) (n : Nat) : whileGo B_gcdT B_gcdL (n + 1) [some (.int a, false), some (.int b, false)] = whileGo B_gcdT B_gcdL n [some (.int b, false), some (.int (a % b), false)] := by
  have h0 : b ≠ 0 := by omega
  show (B_gcdT _).to _ _ = _
  simp [B_gcdT, B_gcdL, h0, mod_s hb, le2']
theorem gcd_end (a : Int) (n : Nat) : whileGo B_gcdT B_gcdL (n + 1) [some (.int a, false), some (.int 0, false)] = .nx [some (.int a, false), some (.int 0, false)] := by
  show (B_gcdT _).to _ _ = _
  simp [B_gcdT]
theorem gcd_mod (a b : Int) : Int.gcd b (a % b) = Int.gcd a b := by
  rw [Int.gcd_comm, Int.emod_def, Int.gcd_sub_mul_left_left]
theorem gcd_loop : ∀ (k : Nat) (a b : Int) (n : Nat), 0 ≤ b → b < 2 ^ k → 2 * k + 1 ≤ n → ∃ g : Int, g.natAbs = Int.gcd a b ∧ whileGo B_gcdT B_gcdL n [some (.int a, false), some (.int b, false)] = .nx [some (.int g, false), some (.int 0, false)]
  | 0, a, b, n + 1, h0, h1, _ => by
    have : b = 0 := by simp at h1; omega
    subst this
    exact ⟨a, by simp, gcd_end a n⟩
  | k + 1, a, b, n + 3, h0, h1, h2 => by
    by_cases hb : b = 0
    · subst hb
      exact ⟨a, by simp, gcd_end a _⟩
    · have pb : 0 < b := by omega
      have r0 := Int.emod_nonneg a hb
      have r1 := Int.emod_lt_of_pos a pb
      rw [gcd_step pb]
      by_cases hr : a % b = 0
      · rw [hr]
        refine ⟨b, ?_, gcd_end b _⟩
        rw [← gcd_mod, hr]
        simp
      · have pr : 0 < a % b := by omega
        have s0 := Int.emod_nonneg b hr
        have s1 := Int.emod_lt_of_pos b pr
        have s2 : b % (a % b) + (a % b) ≤ b := by
          have e := Int.emod_add_mul_ediv b (a % b)
          have q : 1 ≤ b / (a % b) := by
            exact Int.le_ediv_of_mul_le pr (by omega)
          have m : (a % b) * 1 ≤ (a % b) * (b / (a % b)) := Int.mul_le_mul_of_nonneg_left q (by omega)
          omega
        rw [gcd_step pr]
        obtain ⟨g, g1, g2⟩ := gcd_loop k (a % b) (b % (a % b)) (n + 1) s0 (by rw [Int.pow_succ] at h1; omega) (by omega)
        exact ⟨g, by rw [g1, gcd_mod, gcd_mod], g2⟩
def B_gcd : Sm :=
  (sSeq (sWhile (tOf (xCmp .ne (xVar 1) (xCon (.int 0))))
  (sTg (gTup [(gName 0), (gName 1)]) (xLst [(false, (xVar 1)), (false, (xBin dMod (xBi bInt [(xVar 0)]) (xVar 1)))])))
  (sRet (xBi bAbs [(xVar 0)])))
theorem gcd_body {a b : Int} (hb : 0 ≤ b) (sz : b < 2 ^ 8000) : ends (B_gcd (begin_ 2 [.int a, .int b])) = .ok (.int (Int.gcd a b : Nat), false) := by
  obtain ⟨g, g1, g2⟩ := gcd_loop 8000 a b fuel hb sz (by decide)
  have e : B_gcd (begin_ 2 [.int a, .int b]) = (whileGo B_gcdT B_gcdL fuel [some (.int a, false), some (.int b, false)]).bd (sRet (xBi bAbs [(xVar 0)])) := rfl
  rw [e, g2]
  simp [g1]
def B_low (f : Fn) : Sm :=
  (sSeq (sSet 2 (xCall f [(xVar 0), (xVar 1)]))
  (sSeq (sIf (tOf (xCmp .lt (xVar 1) (xCon (.int 0))))
  (sSet 2 (xNeg (xVar 2)))
  sPass)
  (sRet (xTup [(false, (xBi bInt [(xBin dDiv (xVar 0) (xVar 2))])), (false, (xBi bInt [(xBin dDiv (xVar 1) (xVar 2))]))]))))
theorem low_body {f : Fn} {a b : Int} (hb : 0 < b) (sz : b.natAbs < 2 ^ 8000) (hf : f [.int a, .int b] = .ok (.int (Int.gcd a b : Nat), false)) : ends (B_low f (begin_ 3 [.int a, .int b])) = .ok (dF (Rat.divInt a b), false) := by
  have h0 : ¬ b < 0 := by omega
  have g : (0 : Int) < (Int.gcd a b : Nat) := by have := gcd_pos (a := a) hb; omega
  have gs := gcd_sz (a := a) hb sz
  have d1 := div_sz (i := a) g gs (by decide)
  have d2 := div_sz (i := b) g gs (by decide)
  unfold dF
  rw [low_num hb, low_den hb]
  generalize (2 ^ 8000 : Nat) = Z at *
  simp [B_low, begin_, h0, hf, d1, d2, le2']
/-! sizes -/
theorem sz_low {a b : Int} {k : Nat} (hb : 0 < b) (ha : a.natAbs < 2 ^ k) (h : b.natAbs < 2 ^ k) : Sz k (Rat.divInt a b) := by
  have g := gcd_pos (a := a) hb
  have e1 := low_num (a := a) hb
  have e2 := low_den (a := a) hb
  refine ⟨?_, ?_⟩
  · rw [e1]
    have : (a / (Int.gcd a b : Int)).natAbs ≤ a.natAbs := Int.natAbs_ediv_le_natAbs _ _
    omega
  · have : (b / (Int.gcd a b : Int)) ≤ b := Int.ediv_le_self _ (by omega)
    omega
theorem Sz.mono {k l : Nat} {x : Rat} (h : Sz k x) (z : k ≤ l) : Sz l x :=
  have := Nat.pow_le_pow_right (n := 2) (by decide) z
  ⟨Nat.lt_of_lt_of_le h.1 this, Nat.lt_of_lt_of_le h.2 this⟩
theorem two_pow_add (k l : Nat) : 2 ^ (k + l) = 2 ^ k * 2 ^ l := Nat.pow_add ..
theorem den_pos' (x : Rat) : (0 : Int) < x.den := by have := x.den_pos; omega
theorem eq_div (x : Rat) : x = Rat.divInt x.num x.den := (Rat.num_divInt_den x).symm
theorem mul_div (x y : Rat) : Rat.divInt (x.num * y.num) ((x.den : Int) * y.den) = x * y := by
  rw [← Rat.divInt_mul_divInt, Rat.num_divInt_den, Rat.num_divInt_den]
theorem add_div (x y : Rat) : Rat.divInt (x.num * y.den + y.num * x.den) ((x.den : Int) * y.den) = x + y := by
  have hx := den_pos' x
  have hy := den_pos' y
  rw [← Rat.divInt_add_divInt _ _ (by omega) (by omega), Rat.num_divInt_den, Rat.num_divInt_den]
theorem sub_div (x y : Rat) : Rat.divInt (x.num * y.den - y.num * x.den) ((x.den : Int) * y.den) = x - y := by
  have hx := den_pos' x
  have hy := den_pos' y
  rw [← Rat.divInt_sub_divInt _ _ (by omega) (by omega), Rat.num_divInt_den, Rat.num_divInt_den]
theorem natAbs_mul_lt {i j : Int} {a b : Nat} (h : i.natAbs < 2 ^ a) (k : j.natAbs < 2 ^ b) : (i * j).natAbs < 2 ^ (a + b) := by
  rw [Int.natAbs_mul, Nat.pow_add]
  exact Nat.mul_lt_mul'' h k
theorem sz_mul {k l : Nat} {x y : Rat} (h : Sz k x) (g : Sz l y) : Sz (k + l) (x * y) := by
  rw [← mul_div]
  exact sz_low (Int.mul_pos (den_pos' x) (den_pos' y)) (natAbs_mul_lt h.1 g.1) (natAbs_mul_lt (by simpa using h.2) (by simpa using g.2))
theorem sz_add {k l : Nat} {x y : Rat} (h : Sz k x) (g : Sz l y) : Sz (k + l + 1) (x + y) := by
  rw [← add_div]
  have a1 := natAbs_mul_lt h.1 (show ((y.den : Int)).natAbs < 2 ^ l by simpa using g.2)
  have a2 := natAbs_mul_lt (show ((x.den : Int)).natAbs < 2 ^ k by simpa using h.2) g.1
  have a3 := natAbs_mul_lt (show ((x.den : Int)).natAbs < 2 ^ k by simpa using h.2) (show ((y.den : Int)).natAbs < 2 ^ l by simpa using g.2)
  rw [Int.mul_comm] at a2
  refine sz_low (Int.mul_pos (den_pos' x) (den_pos' y)) ?_ ?_ <;> rw [Nat.pow_succ] <;> omega
theorem sz_sub {k l : Nat} {x y : Rat} (h : Sz k x) (g : Sz l y) : Sz (k + l + 1) (x - y) := by
  rw [← sub_div]
  have a1 := natAbs_mul_lt h.1 (show ((y.den : Int)).natAbs < 2 ^ l by simpa using g.2)
  have a2 := natAbs_mul_lt (show ((x.den : Int)).natAbs < 2 ^ k by simpa using h.2) g.1
  have a3 := natAbs_mul_lt (show ((x.den : Int)).natAbs < 2 ^ k by simpa using h.2) (show ((y.den : Int)).natAbs < 2 ^ l by simpa using g.2)
  rw [Int.mul_comm] at a2
  refine sz_low (Int.mul_pos (den_pos' x) (den_pos' y)) ?_ ?_ <;> rw [Nat.pow_succ] <;> omega
/-! the four ways to reckon -/
def B_plus (f : Fn) : Sm :=
  (sRet (xCall f [(xBin dAdd (xBin dMul (xIdx (xVar 0) (xCon (.int 0))) (xIdx (xVar 1) (xCon (.int 1)))) (xBin dMul (xIdx (xVar 1) (xCon (.int 0))) (xIdx (xVar 0) (xCon (.int 1))))), (xBin dMul (xIdx (xVar 0) (xCon (.int 1))) (xIdx (xVar 1) (xCon (.int 1))))]))
def B_minus (f : Fn) : Sm :=
  (sRet (xCall f [(xBin dSub (xBin dMul (xIdx (xVar 0) (xCon (.int 0))) (xIdx (xVar 1) (xCon (.int 1)))) (xBin dMul (xIdx (xVar 1) (xCon (.int 0))) (xIdx (xVar 0) (xCon (.int 1))))), (xBin dMul (xIdx (xVar 0) (xCon (.int 1))) (xIdx (xVar 1) (xCon (.int 1))))]))
def B_times (f : Fn) : Sm :=
  (sRet (xCall f [(xBin dMul (xIdx (xVar 0) (xCon (.int 0))) (xIdx (xVar 1) (xCon (.int 0)))), (xBin dMul (xIdx (xVar 0) (xCon (.int 1))) (xIdx (xVar 1) (xCon (.int 1))))]))
def B_less : Sm :=
  (sRet (xCmp .lt (xBin dMul (xIdx (xVar 0) (xCon (.int 0))) (xIdx (xVar 1) (xCon (.int 1)))) (xBin dMul (xIdx (xVar 1) (xCon (.int 0))) (xIdx (xVar 0) (xCon (.int 1))))))
theorem dF_0 (x : Rat) : dIdx (dF x) (.int 0) = some (.int x.num) := by rfl
theorem dF_1 (x : Rat) : dIdx (dF x) (.int 1) = some (.int x.den) := by rfl
theorem mkF_dF (x : Rat) (p : List Nat) : mkF (dF x) p = ⟨dF x, .fz, []⟩ := by cases p <;> rfl
/-- a function that brings to least terms -/
def Low (f : Fn) : Prop := ∀ a b : Int, 0 < b → b.natAbs < 2 ^ 8000 → f [.int a, .int b] = .ok (dF (Rat.divInt a b), false)
section
variable {f : Fn} {x y : Rat} (hx : Sz 4000 x) (hy : Sz 4000 y)
include hx hy
theorem den_sz : ((x.den : Int) * y.den).natAbs < 2 ^ 8000 := natAbs_mul_lt (a := 4000) (b := 4000) (by simpa using hx.2) (by simpa using hy.2)
theorem den_p : 0 < (x.den : Int) * y.den := Int.mul_pos (den_pos' x) (den_pos' y)
theorem times_body (hf : Low f) : ends (B_times f (begin_ 2 [dF x, dF y])) = .ok (dF (x * y), false) := by
  have m1 := mul_sz hx.1 hy.1 (by decide)
  have m2 := mul_sz (show ((x.den : Int)).natAbs < 2 ^ 4000 by simpa using hx.2) (show ((y.den : Int)).natAbs < 2 ^ 4000 by simpa using hy.2) (by decide)
  have q := hf (x.num * y.num) _ (den_p hx hy) (den_sz hx hy)
  rw [mul_div] at q
  simp [B_times, begin_, dF_0, dF_1, m1, m2, q, mkF_dF]
theorem plus_body (hf : Low f) : ends (B_plus f (begin_ 2 [dF x, dF y])) = .ok (dF (x + y), false) := by
  have m1 := mul_sz hx.1 (show ((y.den : Int)).natAbs < 2 ^ 4000 by simpa using hy.2) (by decide)
  have m3 := mul_sz hy.1 (show ((x.den : Int)).natAbs < 2 ^ 4000 by simpa using hx.2) (by decide)
  have m2 := mul_sz (show ((x.den : Int)).natAbs < 2 ^ 4000 by simpa using hx.2) (show ((y.den : Int)).natAbs < 2 ^ 4000 by simpa using hy.2) (by decide)
  have q := hf (x.num * y.den + y.num * x.den) _ (den_p hx hy) (den_sz hx hy)
  rw [add_div] at q
  simp [B_plus, begin_, dF_0, dF_1, m1, m2, m3, q, mkF_dF]
theorem minus_body (hf : Low f) : ends (B_minus f (begin_ 2 [dF x, dF y])) = .ok (dF (x - y), false) := by
  have m1 := mul_sz hx.1 (show ((y.den : Int)).natAbs < 2 ^ 4000 by simpa using hy.2) (by decide)
  have m3 := mul_sz hy.1 (show ((x.den : Int)).natAbs < 2 ^ 4000 by simpa using hx.2) (by decide)
  have m2 := mul_sz (show ((x.den : Int)).natAbs < 2 ^ 4000 by simpa using hx.2) (show ((y.den : Int)).natAbs < 2 ^ 4000 by simpa using hy.2) (by decide)
  have q := hf (x.num * y.den - y.num * x.den) _ (den_p hx hy) (den_sz hx hy)
  rw [sub_div] at q
  simp [B_minus, begin_, dF_0, dF_1, m1, m2, m3, q, mkF_dF]
theorem less_body : ends (B_less (begin_ 2 [dF x, dF y])) = .ok (.bl (decide (x < y)), false) := by
  have m1 := mul_sz hx.1 (show ((y.den : Int)).natAbs < 2 ^ 4000 by simpa using hy.2) (by decide)
  have m3 := mul_sz hy.1 (show ((x.den : Int)).natAbs < 2 ^ 4000 by simpa using hx.2) (by decide)
  have e : decide (x < y) = decide (x.num * y.den < y.num * x.den) := by rw [decide_eq_decide]; exact Rat.lt_iff x y
  simp [B_less, begin_, dF_0, dF_1, m1, m3, e]
end
end Rt
end
section
set_option linter.all false
set_option autoImplicit false
set_option Elab.async false
set_option maxRecDepth 100000
set_option maxHeartbeats 2000000
namespace Rt
open PySem
/-! ## The least one of a list -/
theorem argBest_le (bt : Nat → Nat → Bool) : ∀ k, argBest bt k ≤ k
  | 0 => Nat.le_refl _
  | k + 1 => by
    unfold argBest
    split
    · exact Nat.le_refl _
    · exact Nat.le_succ_of_le (argBest_le bt k)
theorem argBest_least {bt : Nat → Nat → Bool} (irr : ∀ i, bt i i = false) (tr : ∀ i j k, bt i j = false → bt k j = true → bt i k = false) : ∀ k i, i ≤ k → bt i (argBest bt k) = false
  | 0, i, h => by
    have : i = 0 := by omega
    subst this
    exact irr 0
  | k + 1, i, h => by
    unfold argBest
    by_cases c : bt (k + 1) (argBest bt k) = true
    · rw [if_pos c]
      by_cases e : i = k + 1
      · subst e; exact irr _
      · exact tr i (argBest bt k) (k + 1) (argBest_least irr tr k i (by omega)) c
    · rw [if_neg c]
      by_cases e : i = k + 1
      · subst e; simpa using c
      · exact argBest_least irr tr k i (by omega)
/-! ## Triples of ints -/
abbrev T3 := Int × Int × Int
def TR (p : T3) : D := .tup [.int p.1, .int p.2.1, .int p.2.2]
theorem tr0 (p : T3) : dIdx (TR p) (.int 0) = some (.int p.1) := rfl
theorem tr1 (p : T3) : dIdx (TR p) (.int 1) = some (.int p.2.1) := rfl
theorem tr2 (p : T3) : dIdx (TR p) (.int 2) = some (.int p.2.2) := rfl
theorem py_tr (p : T3) : (TR p).py = .tuple [.int p.1, .int p.2.1, .int p.2.2] := by simp [TR, D.py, D.pyL]
def lt3 (p q : T3) : Bool := decide (p.1 < q.1 ∨ (p.1 = q.1 ∧ (p.2.1 < q.2.1 ∨ (p.2.1 = q.2.1 ∧ p.2.2 < q.2.2))))
theorem ltD_tr (p q : T3) : ltD (TR p) (TR q) = lt3 p q := by
  unfold ltD
  rw [py_tr, py_tr, PySem.W.dataLt_tuple, PySem.W.dataLt_cons (by simp [PySem.W.alike]), PySem.W.dataLt_cons (by simp [PySem.W.alike]), PySem.W.dataLt_cons (by simp [PySem.W.alike]), PySem.W.dataLt_int, PySem.W.dataLt_int, PySem.W.dataLt_int]
  rw [PyProof.Rows.lex_irrefl]
  unfold lt3
  simp only [PyData.eqv, beq_iff_eq]
  by_cases h1 : p.1 = q.1 <;> by_cases h2 : p.2.1 = q.2.1 <;> by_cases h3 : p.2.2 = q.2.2 <;> simp [h1, h2, h3]
theorem plain_trs : ∀ L : List T3, PyData.plainAll (D.pyL (L.map TR)) = true
  | [] => by simp [D.pyL, PyData.plainAll]
  | p :: L => by
    show PyData.plainAll ((TR p).py :: D.pyL (L.map TR)) = true
    rw [py_tr]
    simp [PyData.plainAll, PyData.plain, plain_trs L]
theorem depth_trs : ∀ L : List T3, PyData.depthAll (D.pyL (L.map TR)) ≤ 1
  | [] => by simp [D.pyL, PyData.depthAll]
  | p :: L => by
    show PyData.depthAll ((TR p).py :: D.pyL (L.map TR)) ≤ 1
    have := depth_trs L
    rw [py_tr]
    simp only [PyData.depthAll, PyData.depth]
    omega
theorem okSort_trs (L : List T3) : okSort (L.map TR) = true := by
  have d := depth_trs L
  have d' : PyData.depthAll (D.pyL (L.map TR)) ≤ 50 := by omega
  have t : (L.map TR).all (fun x => tupC x.py) = true := by
    rw [List.all_eq_true]
    intro x hx
    obtain ⟨p, _, rfl⟩ := List.mem_map.mp hx
    rw [py_tr]; rfl
  have a : ((L.map TR).all fun x => (L.map TR).all fun y => PySem.W.alike x.py y.py) = true := by
    rw [List.all_eq_true]
    intro x hx
    rw [List.all_eq_true]
    intro y hy
    obtain ⟨p, _, rfl⟩ := List.mem_map.mp hx
    obtain ⟨q, _, rfl⟩ := List.mem_map.mp hy
    rw [py_tr, py_tr]; simp [PySem.W.alike, PySem.W.alikeAll]
  unfold okSort
  rw [plain_trs, a, t, decide_eq_true d']
  rfl
def placeT (L : List T3) : Nat := argBest (fun i k => lt3 (L.getD i (0, 0, 0)) (L.getD k (0, 0, 0))) (L.length - 1)
def mnT (L : List T3) : T3 := L.getD (placeT L) (0, 0, 0)
theorem mnT_spec {L : List T3} (h : L ≠ []) : mnT L ∈ L ∧ ∀ q ∈ L, lt3 q (mnT L) = false := by
  have pos : 0 < L.length := List.length_pos_iff.mpr h
  have lt : placeT L < L.length := by
    have := argBest_le (fun i k => lt3 (L.getD i (0, 0, 0)) (L.getD k (0, 0, 0))) (L.length - 1)
    unfold placeT
    omega
  have g : ∀ i (h : i < L.length), L.getD i (0, 0, 0) = L[i] := fun i h => by rw [List.getD_eq_getElem?_getD, List.getElem?_eq_getElem h]; rfl
  refine ⟨by unfold mnT; rw [g _ lt]; exact List.getElem_mem lt, fun q hq => ?_⟩
  obtain ⟨i, hi, rfl⟩ := List.mem_iff_getElem.mp hq
  have := argBest_least (bt := fun i k => lt3 (L.getD i (0, 0, 0)) (L.getD k (0, 0, 0))) (fun i => by unfold lt3; simp) (fun i j k h1 h2 => by
    unfold lt3 at *
    rw [decide_eq_false_iff_not] at *
    rw [decide_eq_true_eq] at h2
    omega) (L.length - 1) i (by omega)
  rw [← g i hi]
  exact this
theorem argBest_congr {b c : Nat → Nat → Bool} : ∀ k, (∀ i j, i ≤ k → j ≤ k → b i j = c i j) → argBest b k = argBest c k
  | 0, _ => rfl
  | k + 1, h => by
    unfold argBest
    rw [argBest_congr k fun i j hi hj => h i j (by omega) (by omega), h (k + 1) (argBest c k) (Nat.le_refl _) (Nat.le_succ_of_le (argBest_le c k))]
theorem bMin_trs {L : List T3} (h : L ≠ []) : bMin [.lst (L.map TR)] = some (TR (mnT L), false) := by
  have pos : 0 < L.length := List.length_pos_iff.mpr h
  have e0 : asInts (L.map TR) = none := by
    cases L with
    | nil => exact absurd rfl h
    | cons p L => rfl
  have e : bMin [.lst (L.map TR)] = (if okSort (L.map TR) then (bestAt ltD (L.map TR)).map fun d => (d, false) else none) := by
    show (match asInts (L.map TR) with
      | some is => _
      | none => _) = _
    rw [e0]
  rw [e, if_pos (okSort_trs L)]
  have g : ∀ i, i < L.length → (L.map TR).getD i .non = TR (L.getD i (0, 0, 0)) := fun i h => by
    rw [List.getD_eq_getElem?_getD, List.getElem?_map, List.getElem?_eq_getElem h, List.getD_eq_getElem?_getD, List.getElem?_eq_getElem h]; rfl
  have eb : bestAt ltD (L.map TR) = some (TR (mnT L)) := by
    unfold bestAt
    rw [List.length_map, argBest_congr (c := fun i k => lt3 (L.getD i (0, 0, 0)) (L.getD k (0, 0, 0))) (L.length - 1) fun i j hi hj => by rw [g i (by omega), g j (by omega), ltD_tr]]
    have lt : placeT L < L.length := by
      have := argBest_le (fun i k => lt3 (L.getD i (0, 0, 0)) (L.getD k (0, 0, 0))) (L.length - 1)
      unfold placeT
      omega
    show (L.map TR)[placeT L]? = _
    rw [List.getElem?_map, List.getElem?_eq_getElem lt]
    unfold mnT
    rw [List.getD_eq_getElem?_getD, List.getElem?_eq_getElem lt]
    rfl
  rw [eb]; rfl
theorem sh_tr {p : T3} (h : (-(2 ^ 60) < p.1 ∧ p.1 < 2 ^ 60) ∧ (-(2 ^ 60) < p.2.1 ∧ p.2.1 < 2 ^ 60) ∧ -(2 ^ 60) < p.2.2 ∧ p.2.2 < 2 ^ 60) : Sh 1 219 (TR p) :=
  (sh_tup (shl_cons (sh_int h.1) (shl_cons (sh_int h.2.1) (shl_cons (sh_int h.2.2) shl_nil)))).mono (Nat.le_refl _) (by decide)
theorem immL_trs : ∀ l : List T3, D.immL (l.map TR) = true
  | [] => rfl
  | p :: l => by
    show (D.imm (TR p) && D.immL (l.map TR)) = true
    rw [immL_trs l]; rfl
theorem mkN_trs (l : List T3) (p : List Nat) : mkN (.lst (l.map TR)) p = ⟨.lst (l.map TR), .nw, []⟩ := by
  cases p with
  | nil => rfl
  | cons i p =>
    show (⟨.lst (l.map TR), .nw, if D.immL (l.map TR) then [] else _⟩ : Rv) = _
    rw [immL_trs]; rfl
theorem idx_tr {l : List T3} {i : Int} (h : 0 ≤ i) (k : i < l.length) : dIdx (.lst (l.map TR)) (.int i) = some (TR (l.getD i.toNat (0, 0, 0))) := by
  have lt : i.toNat < l.length := by omega
  refine idx_lst (k := i.toNat) (by rw [List.length_map]; exact place_nn h k) ?_
  rw [List.getElem?_map, List.getElem?_eq_getElem lt, List.getD_eq_getElem?_getD, List.getElem?_eq_getElem lt]
  rfl
theorem cmp_neN_tr (L : List T3) : cmpD .ne (.lst (L.map TR)) (.lst []) = some (!L.isEmpty) := by
  show (dEq (.lst (L.map TR)) (.lst [])).map not = _
  have e : dEq (.lst (L.map TR)) (.lst []) = some L.isEmpty := by
    show (if okEq (D.lst (L.map TR)).py (D.lst []).py then some (PyData.eqv (D.lst (L.map TR)).py (D.lst []).py) else none) = _
    have ok : okEq (D.lst (L.map TR)).py (D.lst []).py = true := by
      simp [okEq, D.py, D.pyL, PyData.plain, plain_trs, PyData.plainAll, PyData.depth, PyData.depthAll]
    rw [if_pos ok]
    congr 1
    cases L with
    | nil => simp [D.py, D.pyL, PyData.eqv, PyData.eqvAll]
    | cons x L => simp [D.py, D.pyL, PyData.eqv, PyData.eqvAll]
  rw [e]; rfl
end Rt
end
section
set_option linter.all false
set_option autoImplicit false
set_option Elab.async false
set_option maxRecDepth 100000
set_option maxHeartbeats 4000000
namespace Rt
open PySem
abbrev P2 := Int × Int
/-! the least pair -/
def lt2 (p q : P2) : Bool := decide (p.1 < q.1 ∨ (p.1 = q.1 ∧ p.2 < q.2))
theorem ltD_pr (p q : P2) : ltD (PR p) (PR q) = lt2 p q := by
  unfold ltD
  rw [py_pr, py_pr, PySem.W.dataLt_tuple, PySem.W.dataLt_cons (by simp [PySem.W.alike]), PySem.W.dataLt_cons (by simp [PySem.W.alike]), PySem.W.dataLt_int, PySem.W.dataLt_int]
  rw [PyProof.Rows.lex_irrefl]
  unfold lt2
  simp only [PyData.eqv, beq_iff_eq]
  by_cases h1 : p.1 = q.1 <;> by_cases h2 : p.2 = q.2 <;> simp [h1, h2]
def placeP (L : List P2) : Nat := argBest (fun i k => lt2 (L.getD i (0, 0)) (L.getD k (0, 0))) (L.length - 1)
def mnP (L : List P2) : P2 := L.getD (placeP L) (0, 0)
theorem mnP_spec {L : List P2} (h : L ≠ []) : mnP L ∈ L ∧ ∀ q ∈ L, lt2 q (mnP L) = false := by
  have pos : 0 < L.length := List.length_pos_iff.mpr h
  have lt : placeP L < L.length := by
    have := argBest_le (fun i k => lt2 (L.getD i (0, 0)) (L.getD k (0, 0))) (L.length - 1)
    unfold placeP
    omega
  have g : ∀ i (h : i < L.length), L.getD i (0, 0) = L[i] := fun i h => by rw [List.getD_eq_getElem?_getD, List.getElem?_eq_getElem h]; rfl
  refine ⟨by unfold mnP; rw [g _ lt]; exact List.getElem_mem lt, fun q hq => ?_⟩
  obtain ⟨i, hi, rfl⟩ := List.mem_iff_getElem.mp hq
  have := argBest_least (bt := fun i k => lt2 (L.getD i (0, 0)) (L.getD k (0, 0))) (fun i => by unfold lt2; simp) (fun i j k h1 h2 => by
    unfold lt2 at *
    rw [decide_eq_false_iff_not] at *
    rw [decide_eq_true_eq] at h2
    omega) (L.length - 1) i (by omega)
  rw [← g i hi]
  exact this
theorem bMin_prs {L : List P2} (h : L ≠ []) : bMin [.lst (L.map PR)] = some (PR (mnP L), false) := by
  have pos : 0 < L.length := List.length_pos_iff.mpr h
  have e0 : asInts (L.map PR) = none := by
    cases L with
    | nil => exact absurd rfl h
    | cons p L => rfl
  have e : bMin [.lst (L.map PR)] = (if okSort (L.map PR) then (bestAt ltD (L.map PR)).map fun d => (d, false) else none) := by
    show (match asInts (L.map PR) with
      | some is => _
      | none => _) = _
    rw [e0]
  rw [e, if_pos (okSort_prs L)]
  have g : ∀ i, i < L.length → (L.map PR).getD i .non = PR (L.getD i (0, 0)) := fun i h => by
    rw [List.getD_eq_getElem?_getD, List.getElem?_map, List.getElem?_eq_getElem h, List.getD_eq_getElem?_getD, List.getElem?_eq_getElem h]; rfl
  have eb : bestAt ltD (L.map PR) = some (PR (mnP L)) := by
    unfold bestAt
    rw [List.length_map, argBest_congr (c := fun i k => lt2 (L.getD i (0, 0)) (L.getD k (0, 0))) (L.length - 1) fun i j hi hj => by rw [g i (by omega), g j (by omega), ltD_pr]]
    have lt : placeP L < L.length := by
      have := argBest_le (fun i k => lt2 (L.getD i (0, 0)) (L.getD k (0, 0))) (L.length - 1)
      unfold placeP
      omega
    show (L.map PR)[placeP L]? = _
    rw [List.getElem?_map, List.getElem?_eq_getElem lt]
    unfold mnP
    rw [List.getD_eq_getElem?_getD, List.getElem?_eq_getElem lt]
    rfl
  rw [eb]; rfl
/-! greatest, least -/
theorem foldl_max_eq : ∀ (L : List Int) (a x : Int), (x = a ∨ x ∈ L) → a ≤ x → (∀ y ∈ L, y ≤ x) → L.foldl max a = x
  | [], a, x, h, _, _ => by
    rcases h with h | h
    · exact h.symm
    · cases h
  | b :: L, a, x, h, h1, h2 => by
    have hb := h2 b List.mem_cons_self
    rw [List.foldl_cons]
    refine foldl_max_eq L (max a b) x ?_ (by omega) fun y hy => h2 y (List.mem_cons_of_mem _ hy)
    rcases h with h | h
    · exact .inl (by omega)
    · rcases List.mem_cons.mp h with h | h
      · exact .inl (by omega)
      · exact .inr h
theorem foldl_min_eq : ∀ (L : List Int) (a x : Int), (x = a ∨ x ∈ L) → x ≤ a → (∀ y ∈ L, x ≤ y) → L.foldl min a = x
  | [], a, x, h, _, _ => by
    rcases h with h | h
    · exact h.symm
    · cases h
  | b :: L, a, x, h, h1, h2 => by
    have hb := h2 b List.mem_cons_self
    rw [List.foldl_cons]
    refine foldl_min_eq L (min a b) x ?_ (by omega) fun y hy => h2 y (List.mem_cons_of_mem _ hy)
    rcases h with h | h
    · exact .inl (by omega)
    · rcases List.mem_cons.mp h with h | h
      · exact .inl (by omega)
      · exact .inr h
theorem bMax_is {L : List Int} {x : Int} (h : x ∈ L) (k : ∀ y ∈ L, y ≤ x) : bMax [.lst (L.map .int)] = some (.int x, false) := by
  cases L with
  | nil => cases h
  | cons a L =>
    have := bMax_ints a L
    rw [foldl_max_eq L a x (List.mem_cons.mp h) (k a List.mem_cons_self) fun y hy => k y (List.mem_cons_of_mem _ hy)] at this
    exact this
theorem bMin_is {L : List Int} {x : Int} (h : x ∈ L) (k : ∀ y ∈ L, x ≤ y) : bMin [.lst (L.map .int)] = some (.int x, false) := by
  cases L with
  | nil => cases h
  | cons a L =>
    have := bMin_ints a L
    rw [foldl_min_eq L a x (List.mem_cons.mp h) (k a List.mem_cons_self) fun y hy => k y (List.mem_cons_of_mem _ hy)] at this
    exact this
theorem firstAt_is : ∀ (L : List Int) (v : Int) (i : Nat) (h : i < L.length), L[i] = v → (∀ j (hj : j < i), L[j]'(by omega) ≠ v) → firstAt v L = some i
  | a :: L, v, 0, _, e, _ => by
    have : a = v := e
    rw [firstAt, if_pos this]
  | a :: L, v, i + 1, h, e, n => by
    have na : a ≠ v := n 0 (by omega)
    rw [firstAt, if_neg na, firstAt_is L v i (by simpa using h) e fun j hj => n (j + 1) (by omega)]
    rfl
theorem leP_trans (a b c : P2) (h1 : leP a b = true) (h2 : leP b c = true) : leP a c = true := by
  unfold leP at *
  rw [decide_eq_true_eq] at *
  omega
theorem leP_total (a b : P2) : (leP a b || leP b a) = true := by
  unfold leP
  rw [Bool.or_eq_true, decide_eq_true_eq, decide_eq_true_eq]
  omega
theorem asBools_map {β : Type} (f : β → Bool) : ∀ (l : List β), asBools (l.map fun x => D.bl (f x)) = some (l.map f)
  | [] => rfl
  | x :: l => by
    show (asBools (l.map fun x => D.bl (f x))).map (f x :: ·) = _
    rw [asBools_map f l]; rfl
theorem bAll_map {β : Type} (l : List β) (f : β → Bool) : bAll [.lst (l.map fun x => D.bl (f x))] = some (.bl (l.all f), false) := by
  show (asBools (l.map fun x => D.bl (f x))).map _ = _
  rw [asBools_map]
  simp
theorem bAny_map {β : Type} (l : List β) (f : β → Bool) : bAny [.lst (l.map fun x => D.bl (f x))] = some (.bl (l.any f), false) := by
  show (asBools (l.map fun x => D.bl (f x))).map _ = _
  rw [asBools_map]
  simp
theorem lc_all {own : List Nat} {g : Tg} {e : Ex} {σ : Env} {β : Type} (f : β → D) (v : β → D) (l : List β) (h : ∀ b ∈ l, ∃ σ', g (f b) σ = some σ' ∧ e σ' = .ok ⟨v b, .fz, []⟩) : lcGo own g tYesD e σ (l.map f) = .ok (l.map v, []) := by
  have := lc_fm (own := own) (g := g) (t := tYesD) (e := e) (σ := σ) f (fun _ => true) v l fun b hb => by
    obtain ⟨σ', h1, h2⟩ := h b hb
    exact ⟨σ', h1, rfl, fun _ => h2⟩
  rwa [List.filter_eq_self.mpr (fun _ _ => rfl)] at this
theorem uset_len : ∀ l : List Int, (usetI l).length ≤ l.length
  | [] => Nat.le_refl _
  | i :: l => by
    have a := uset_len l
    have b : ∀ (l : List Int), (insU i l).length ≤ l.length + 1 := fun l => by
      induction l with
      | nil => simp [insU]
      | cons j l ih =>
        unfold insU
        split
        · simp
        · split
          · simp
          · simp only [List.length_cons]; omega
    have := b (usetI l)
    rw [usetI, List.length_cons]; omega
theorem bsset (l : List Int) (h : l.length < 64) : bSSet [.lst (l.map .int)] = some (.lst ((usetI l).map .int), true) := by
  unfold bSSet
  simp only [asInts_map]
  rw [if_pos h]
theorem find_first : ∀ {L : List Int} {f : Int → Bool} {c : Int}, L.Pairwise (· < ·) → c ∈ L → f c = true → (∀ m ∈ L, m < c → f m = false) → L.find? f = some c
  | [], _, _, _, h, _, _ => by cases h
  | x :: L, f, c, hp, hc, h1, h2 => by
    have hp' := List.pairwise_cons.mp hp
    rw [List.find?_cons]
    rcases List.mem_cons.mp hc with rfl | hc
    · rw [h1]
    · rw [h2 x List.mem_cons_self (hp'.1 c hc)]
      exact find_first hp'.2 hc h1 fun m hm => h2 m (List.mem_cons_of_mem _ hm)
theorem bsum (l : List Int) : bSum [.lst (l.map D.int)] = some (.int l.sum, false) := by
  simp [bSum, asInts_map]
theorem stp_of {g : Tg} {b : Sm} {d : D} {σ σ' : Env} (h : g d σ = some σ') : stp g b d σ = b σ' := by
  show (match g d σ with | none => O.bad | some σ' => b σ') = _
  rw [h]
theorem go_step {wt : Tst} {wb : Sm} {fu : Nat} {σ σ' : Env} (t : wt σ = .ok true) (b : wb σ = .nx σ') : whileGo wt wb (fu + 1) σ = whileGo wt wb fu σ' := by
  show (wt σ).to σ _ = _
  rw [t]
  show (wb σ).bd (whileGo wt wb fu) = _
  rw [b]; rfl
theorem go_end {wt : Tst} {wb : Sm} {fu : Nat} {σ : Env} (t : wt σ = .ok false) : whileGo wt wb (fu + 1) σ = .nx σ := by
  show (wt σ).to σ _ = _
  rw [t]; rfl
theorem lc_fmN {own : List Nat} {g : Tg} {t : Tst} {e : Ex} {σ : Env} {β : Type} (f : β → D) (p : β → Bool) (v : β → D) (l : List β) (h : ∀ b ∈ l, ∃ σ', g (f b) σ = some σ' ∧ t σ' = .ok (p b) ∧ (p b = true → e σ' = .ok ⟨v b, .nw, []⟩)) : lcGo own g t e σ (l.map f) = .ok ((l.filter p).map v, []) := by
  induction l with
  | nil => rfl
  | cons b l ih =>
    obtain ⟨σ', e1, e2, e3⟩ := h b List.mem_cons_self
    have ih := ih fun x hx => h x (List.mem_cons_of_mem _ hx)
    rw [List.map_cons]
    unfold lcGo
    rw [e1]
    dsimp only
    rw [e2]
    cases q : p b with
    | false => rw [List.filter_cons, if_neg (by rw [q]; simp)]; exact ih
    | true =>
      rw [List.filter_cons, if_pos q, List.map_cons]
      dsimp only
      rw [e3 q]
      dsimp only
      rw [ih]
      rfl
theorem lc_allN {own : List Nat} {g : Tg} {e : Ex} {σ : Env} {β : Type} (f : β → D) (v : β → D) (l : List β) (h : ∀ b ∈ l, ∃ σ', g (f b) σ = some σ' ∧ e σ' = .ok ⟨v b, .nw, []⟩) : lcGo own g tYesD e σ (l.map f) = .ok (l.map v, []) := by
  have := lc_fmN (own := own) (g := g) (t := tYesD) (e := e) (σ := σ) f (fun _ => true) v l fun b hb => by
    obtain ⟨σ', h1, h2⟩ := h b hb
    exact ⟨σ', h1, rfl, fun _ => h2⟩
  rwa [List.filter_eq_self.mpr (fun _ _ => rfl)] at this
theorem cut_tm {α : Type} (xs : List α) {t m : Int} (t0 : 0 ≤ t) (m0 : 0 ≤ m) : cutL xs (some t) (some (t + m)) = (xs.drop t.toNat).take m.toNat := by
  show (xs.drop (if 0 ≤ t then min t.toNat xs.length else _)).take ((if 0 ≤ t + m then min (t + m).toNat xs.length else _) - (if 0 ≤ t then min t.toNat xs.length else _)) = _
  rw [if_pos t0, if_pos (by omega), show (t + m).toNat = t.toNat + m.toNat by omega]
  by_cases h : t.toNat ≤ xs.length
  · rw [Nat.min_eq_left h]
    by_cases k : t.toNat + m.toNat ≤ xs.length
    · rw [Nat.min_eq_left k]; congr 1; omega
    · rw [Nat.min_eq_right (by omega), List.take_of_length_le (by rw [List.length_drop]; omega), List.take_of_length_le (by rw [List.length_drop]; omega)]
  · rw [Nat.min_eq_right (by omega : xs.length ≤ t.toNat + m.toNat), Nat.min_eq_right (by omega : xs.length ≤ t.toNat), List.drop_length, List.drop_eq_nil_of_le (by omega : xs.length ≤ t.toNat)]
    simp
theorem mkN_lls {β : Type} (f : β → D) (l : List β) : mkN (.lst (l.map f)) [] = ⟨.lst (l.map f), .nw, []⟩ := rfl
end Rt
end
section
set_option linter.all false
set_option autoImplicit false
set_option maxRecDepth 100000
namespace K12
abbrev P2 := Int × Int
def Hb (b : P2) (x : Int) : Prop := b.2 ∣ x - b.1
structure Bt (b : P2) : Prop where
  p1 : 1 ≤ b.2
  p2 : b.2 ≤ 1000
  o0 : 0 ≤ b.1
  o1 : b.1 < b.2
theorem mod_iff {o p x : Int} (o0 : 0 ≤ o) (o1 : o < p) : x % p = o ↔ p ∣ x - o := by
  have e := Int.emod_eq_of_lt o0 o1
  constructor
  · intro h
    exact Int.dvd_of_emod_eq_zero (Int.emod_eq_emod_iff_emod_sub_eq_zero.mp (h.trans e.symm))
  · intro h
    exact (Int.emod_eq_emod_iff_emod_sub_eq_zero.mpr (Int.emod_eq_zero_of_dvd h)).trans e
theorem hb_iff {b : P2} (g : Bt b) {x : Int} : x % b.2 = b.1 ↔ Hb b x := mod_iff g.o0 g.o1
/-! Euclid, with one coefficient -/
def cfGo : Nat → Int → Int → Int → Int → Int × Int
  | 0, l, _, f, _ => (l, f)
  | n + 1, l, r, f, s => if 0 < r then cfGo n r (l - l / r * r) s (f - l / r * s) else (l, f)
theorem sub_mod (l r : Int) : l - l / r * r = l % r := by rw [Int.emod_def, Int.mul_comm]
theorem gcd_mod (a b : Int) : Int.gcd b (a % b) = Int.gcd a b := by
  rw [Int.gcd_comm, Int.emod_def, Int.gcd_sub_mul_left_left]
theorem cf_spec : ∀ (n : Nat) (l r f s one two u v : Int), 0 ≤ r → r < n → 0 ≤ l → l = f * one + u * two → r = s * one + v * two → (cfGo n l r f s).1 = (Int.gcd l r : Int) ∧ ∃ w, (Int.gcd l r : Int) = (cfGo n l r f s).2 * one + w * two
  | 0, l, r, f, s, one, two, u, v, h0, h1, _, _, _ => by omega
  | n + 1, l, r, f, s, one, two, u, v, h0, h1, hl, h2, h3 => by
    unfold cfGo
    by_cases c : 0 < r
    · rw [if_pos c]
      have m0 := Int.emod_nonneg l (by omega : r ≠ 0)
      have m1 := Int.emod_lt_of_pos l c
      have e : l - l / r * r = (f - l / r * s) * one + (u - l / r * v) * two := by
        rw [Int.sub_mul, Int.sub_mul, Int.mul_assoc, Int.mul_assoc]
        have : l / r * r = l / r * (s * one) + l / r * (v * two) := by rw [← Int.mul_add, ← h3]
        omega
      have ih := cf_spec n r (l - l / r * r) s (f - l / r * s) one two v (u - l / r * v) (by rw [sub_mod]; exact m0) (by rw [sub_mod]; omega) h0 h3 e
      rw [show (Int.gcd r (l - l / r * r) : Int) = (Int.gcd l r : Int) by rw [sub_mod, gcd_mod]] at ih
      exact ih
    · rw [if_neg c]
      have : r = 0 := by omega
      subst this
      have g : (Int.gcd l 0 : Int) = l := by rw [Int.gcd_zero_right]; omega
      rw [g]
      exact ⟨rfl, u, h2⟩
def cf (a b : Int) : Int := (cfGo 1001 a b 1 0).2
theorem cf_eq {a b : Int} (ha : 0 ≤ a) (hb : 0 ≤ b) (h2 : b ≤ 1000) : (cfGo 1001 a b 1 0).1 = (Int.gcd a b : Int) ∧ ∃ w, (Int.gcd a b : Int) = cf a b * a + w * b :=
  cf_spec 1001 a b 1 0 a b 0 1 hb (by omega) ha (by omega) (by omega)
theorem gcd_p {a b : Int} (ha : 1 ≤ a) : 0 < (Int.gcd a b : Int) := by
  have : 0 < Int.gcd a b := Int.gcd_pos_of_ne_zero_left _ (by omega)
  omega
theorem per_lcm {x y : Int} (hx : 1 ≤ x) (hy : 1 ≤ y) : x / (Int.gcd x y : Int) * y = (Int.lcm x y : Int) := by
  have g0 := gcd_p (a := x) (b := y) hx
  have gx : (Int.gcd x y : Int) ∣ x := Int.gcd_dvd_left ..
  have e1 : (Int.gcd x y : Int) * (x / (Int.gcd x y : Int) * y) = x * y := by rw [← Int.mul_assoc, Int.mul_ediv_cancel' gx]
  have e2 : (Int.gcd x y : Int) * (Int.lcm x y : Int) = x * y := by
    have := Int.gcd_mul_lcm x y
    have h : ((Int.gcd x y * Int.lcm x y : Nat) : Int) = ((x.natAbs * y.natAbs : Nat) : Int) := by rw [this]
    rw [Int.natCast_mul, Int.natCast_mul] at h
    rw [h, Int.natAbs_of_nonneg (by omega), Int.natAbs_of_nonneg (by omega)]
  exact Int.eq_of_mul_eq_mul_left (by omega) (e1.trans e2.symm)
theorem whole_lcm {x y : Int} (hx : 1 ≤ x) (hy : 1 ≤ y) : x * y / (Int.gcd x y : Int) = (Int.lcm x y : Int) := by
  have gx : (Int.gcd x y : Int) ∣ x := Int.gcd_dvd_left ..
  rw [← per_lcm hx hy, Int.mul_comm x y, Int.mul_ediv_assoc _ gx, Int.mul_comm]
theorem lcm_p {x y : Int} (hx : 1 ≤ x) (hy : 1 ≤ y) : 1 ≤ (Int.lcm x y : Int) := by
  have : 0 < Int.lcm x y := Int.lcm_pos (by omega) (by omega)
  omega
/-! two beats -/
def mg (a b : P2) : Option P2 := if (b.1 - a.1) % (Int.gcd a.2 b.2 : Int) = 0 then some ((a.1 + (b.1 - a.1) / (Int.gcd a.2 b.2 : Int) * cf a.2 b.2 * a.2) % (a.2 / (Int.gcd a.2 b.2 : Int) * b.2), a.2 / (Int.gcd a.2 b.2 : Int) * b.2) else none
theorem mg_none {a b : P2} (h : ¬ (Int.gcd a.2 b.2 : Int) ∣ b.1 - a.1) : mg a b = none ∧ ¬ ∃ x, Hb a x ∧ Hb b x := by
  refine ⟨if_neg fun q => h (Int.dvd_of_emod_eq_zero q), fun ⟨x, h1, h2⟩ => h ?_⟩
  have d1 : (Int.gcd a.2 b.2 : Int) ∣ x - a.1 := Int.dvd_trans (Int.gcd_dvd_left ..) h1
  have d2 : (Int.gcd a.2 b.2 : Int) ∣ x - b.1 := Int.dvd_trans (Int.gcd_dvd_right ..) h2
  have := Int.dvd_sub d1 d2
  rw [show x - a.1 - (x - b.1) = b.1 - a.1 by omega] at this
  exact this
theorem mg_some {a b : P2} (ha : 1 ≤ a.2) (hb : 1 ≤ b.2) (hb2 : b.2 ≤ 1000) (h : (Int.gcd a.2 b.2 : Int) ∣ b.1 - a.1) : ∃ c, mg a b = some (c, (Int.lcm a.2 b.2 : Int)) ∧ 0 ≤ c ∧ c < (Int.lcm a.2 b.2 : Int) ∧ ∀ x, (Hb a x ∧ Hb b x) ↔ (Int.lcm a.2 b.2 : Int) ∣ x - c := by
  obtain ⟨_, w, hw⟩ := cf_eq (a := a.2) (b := b.2) (by omega) (by omega) hb2
  have lp := lcm_p ha hb
  have pe := per_lcm ha hb
  unfold mg
  rw [if_pos (Int.emod_eq_zero_of_dvd h), pe]
  generalize hc : a.1 + (b.1 - a.1) / (Int.gcd a.2 b.2 : Int) * cf a.2 b.2 * a.2 = c0
  have g0 := gcd_p (a := a.2) (b := b.2) ha
  obtain ⟨q, hq⟩ := h
  rw [hq, Int.mul_ediv_cancel_left _ (by omega : (Int.gcd a.2 b.2 : Int) ≠ 0)] at hc
  have c1 : a.2 ∣ c0 - a.1 := ⟨q * cf a.2 b.2, by rw [← hc, Int.mul_comm a.2]; omega⟩
  have c2 : b.2 ∣ c0 - b.1 := by
    refine ⟨-(q * w), ?_⟩
    have e : q * cf a.2 b.2 * a.2 = q * (Int.gcd a.2 b.2 : Int) - q * w * b.2 := by
      rw [hw, Int.mul_add, ← Int.mul_assoc, ← Int.mul_assoc]; omega
    have e2 : b.2 * -(q * w) = -(q * w * b.2) := by rw [Int.mul_neg, Int.mul_comm b.2]
    rw [Int.mul_comm] at hq
    rw [e2, ← hc, e, ← hq]; omega
  have la : a.2 ∣ (Int.lcm a.2 b.2 : Int) := (Int.coe_lcm_dvd_iff.mp (Int.dvd_refl _)).1
  have lb : b.2 ∣ (Int.lcm a.2 b.2 : Int) := (Int.coe_lcm_dvd_iff.mp (Int.dvd_refl _)).2
  have cm : (Int.lcm a.2 b.2 : Int) ∣ c0 - c0 % (Int.lcm a.2 b.2 : Int) := Int.dvd_self_sub_emod
  refine ⟨c0 % (Int.lcm a.2 b.2 : Int), rfl, Int.emod_nonneg _ (by omega), Int.emod_lt_of_pos _ (by omega), fun x => ?_⟩
  have sh : ∀ {m o : Int}, m ∣ (Int.lcm a.2 b.2 : Int) → m ∣ c0 - o → (m ∣ x - o ↔ m ∣ x - c0 % (Int.lcm a.2 b.2 : Int)) := fun {m o} d1 d2 => by
    have d3 := Int.dvd_trans d1 cm
    have d4 := Int.dvd_sub d2 d3
    rw [show c0 - o - (c0 - c0 % (Int.lcm a.2 b.2 : Int)) = c0 % (Int.lcm a.2 b.2 : Int) - o by omega] at d4
    constructor
    · intro k
      have := Int.dvd_sub k d4
      rw [show x - o - (c0 % (Int.lcm a.2 b.2 : Int) - o) = x - c0 % (Int.lcm a.2 b.2 : Int) by omega] at this
      exact this
    · intro k
      have := Int.dvd_add k d4
      rw [show x - c0 % (Int.lcm a.2 b.2 : Int) + (c0 % (Int.lcm a.2 b.2 : Int) - o) = x - o by omega] at this
      exact this
  unfold Hb
  rw [sh la c1, sh lb c2, Int.coe_lcm_dvd_iff]
/-! many beats -/
def mt (l : List P2) : Option P2 := l.foldl (fun o b => o.bind fun a => mg a b) (some (0, 1))
def lcmL (l : List P2) : Int := l.foldl (fun L b => (Int.lcm L b.2 : Int)) 1
def Sp (pre : List P2) : Option P2 → Prop
  | none => ¬ ∃ x, ∀ b ∈ pre, Hb b x
  | some c => (0 ≤ c.1 ∧ c.1 < c.2) ∧ c.2 = lcmL pre ∧ ∀ x, (∀ b ∈ pre, Hb b x) ↔ Hb c x
theorem mt_app (l : List P2) (b : P2) : mt (l ++ [b]) = (mt l).bind fun a => mg a b := by unfold mt; rw [List.foldl_append]; rfl
theorem lcmL_app (l : List P2) (b : P2) : lcmL (l ++ [b]) = (Int.lcm (lcmL l) b.2 : Int) := by unfold lcmL; rw [List.foldl_append]; rfl
theorem all_app {l : List P2} {b : P2} {p : P2 → Prop} : (∀ a ∈ l ++ [b], p a) ↔ (∀ a ∈ l, p a) ∧ p b := by
  simp only [List.mem_append, List.mem_singleton]
  exact ⟨fun h => ⟨fun a m => h a (.inl m), h b (.inr rfl)⟩, fun ⟨h1, h2⟩ a m => m.elim (h1 a) fun e => e ▸ h2⟩
theorem sp_step {pre : List P2} {o : Option P2} {b : P2} (h : Sp pre o) (g : Bt b) : Sp (pre ++ [b]) (o.bind fun a => mg a b) := by
  cases o with
  | none =>
    rintro ⟨x, hx⟩
    exact h ⟨x, (all_app.mp hx).1⟩
  | some c =>
    obtain ⟨h1, h2, h3⟩ := h
    show Sp _ (mg c b)
    by_cases d : (Int.gcd c.2 b.2 : Int) ∣ b.1 - c.1
    · obtain ⟨e, m1, m2, m3, m4⟩ := mg_some (by omega) g.p1 g.p2 d
      rw [m1]
      refine ⟨⟨m2, m3⟩, by rw [lcmL_app, ← h2], fun x => ?_⟩
      rw [all_app, h3 x, m4 x]; rfl
    · obtain ⟨m1, m2⟩ := mg_none d
      rw [m1]
      rintro ⟨x, hx⟩
      rw [all_app, h3 x] at hx
      exact m2 ⟨x, hx⟩
theorem sp_fold : ∀ (rest pre : List P2) (o : Option P2), Sp pre o → (∀ b ∈ rest, Bt b) → Sp (pre ++ rest) (rest.foldl (fun o b => o.bind fun a => mg a b) o)
  | [], pre, o, h, _ => by rw [List.append_nil]; exact h
  | b :: rest, pre, o, h, g => by
    have := sp_fold rest (pre ++ [b]) _ (sp_step h (g b List.mem_cons_self)) fun x hx => g x (List.mem_cons_of_mem _ hx)
    rw [List.append_assoc] at this
    exact this
theorem mt_sp {l : List P2} (g : ∀ b ∈ l, Bt b) : Sp l (mt l) := by
  refine sp_fold l [] _ ⟨⟨by decide, by decide⟩, rfl, fun x => ⟨fun _ => ⟨x, by show x - 0 = 1 * x; omega⟩, fun _ b hb => by cases hb⟩⟩ g
theorem lcmL_pos : ∀ (l : List P2) (L : Int), 1 ≤ L → (∀ b ∈ l, Bt b) → 1 ≤ l.foldl (fun L b => (Int.lcm L b.2 : Int)) L
  | [], L, h, _ => h
  | b :: l, L, h, g => lcmL_pos l _ (lcm_p h (g b List.mem_cons_self).p1) fun x hx => g x (List.mem_cons_of_mem _ hx)
/-- lists part of lists -/
theorem lcmL_dvd_iff : ∀ (l : List P2) (L n : Int), (l.foldl (fun L b => (Int.lcm L b.2 : Int)) L) ∣ n ↔ L ∣ n ∧ ∀ b ∈ l, b.2 ∣ n
  | [], L, n => by simp
  | b :: l, L, n => by
    rw [List.foldl_cons, lcmL_dvd_iff l, Int.coe_lcm_dvd_iff]
    simp only [List.mem_cons, forall_eq_or_imp]
    exact and_assoc
theorem lcmL_sub {s l : List P2} (h : ∀ b ∈ s, b ∈ l) : lcmL s ∣ lcmL l := by
  unfold lcmL
  rw [lcmL_dvd_iff]
  have := (lcmL_dvd_iff l 1 (l.foldl (fun L b => (Int.lcm L b.2 : Int)) 1)).mp (Int.dvd_refl _)
  exact ⟨this.1, fun b hb => this.2 b (h b hb)⟩
/-! Helly -/
def Cp (a b : P2) : Prop := (Int.gcd a.2 b.2 : Int) ∣ a.1 - b.1
theorem key_nat {x y z n : Nat} (hx : 0 < x) (hy : 0 < y) (h1 : Nat.gcd x z ∣ n) (h2 : Nat.gcd y z ∣ n) : Nat.gcd (Nat.lcm x y) z ∣ n := by
  have hh : Nat.gcd (Nat.gcd x y) z = Nat.gcd (Nat.gcd x z) (Nat.gcd y z) := by
    apply Nat.dvd_antisymm
    · have a1 := Nat.gcd_dvd_left (Nat.gcd x y) z
      have a2 := Nat.gcd_dvd_right (Nat.gcd x y) z
      exact Nat.dvd_gcd (Nat.dvd_gcd (Nat.dvd_trans a1 (Nat.gcd_dvd_left ..)) a2) (Nat.dvd_gcd (Nat.dvd_trans a1 (Nat.gcd_dvd_right ..)) a2)
    · have a1 := Nat.gcd_dvd_left (Nat.gcd x z) (Nat.gcd y z)
      have a2 := Nat.gcd_dvd_right (Nat.gcd x z) (Nat.gcd y z)
      exact Nat.dvd_gcd (Nat.dvd_gcd (Nat.dvd_trans a1 (Nat.gcd_dvd_left ..)) (Nat.dvd_trans a2 (Nat.gcd_dvd_left ..))) (Nat.dvd_trans a1 (Nat.gcd_dvd_right ..))
  have dz : Nat.gcd (Nat.lcm x y) z ∣ z := Nat.gcd_dvd_right ..
  have dl : Nat.gcd (Nat.lcm x y) z ∣ Nat.lcm x y := Nat.gcd_dvd_left ..
  have gz : Nat.gcd (Nat.gcd x y) z ∣ z := Nat.gcd_dvd_right ..
  have gg : Nat.gcd (Nat.gcd x y) z ∣ Nat.gcd x y := Nat.gcd_dvd_left ..
  have gx := Nat.dvd_trans gg (Nat.gcd_dvd_left x y)
  have gy := Nat.dvd_trans gg (Nat.gcd_dvd_right x y)
  have e1 : Nat.gcd (Nat.lcm x y) z * Nat.gcd (Nat.gcd x y) z ∣ x * y := by
    have := Nat.mul_dvd_mul dl gg
    rw [Nat.mul_comm (Nat.lcm x y), Nat.gcd_mul_lcm] at this
    exact this
  have e2 : Nat.gcd (Nat.lcm x y) z * Nat.gcd (Nat.gcd x y) z ∣ x * z := by rw [Nat.mul_comm x]; exact Nat.mul_dvd_mul dz gx
  have e3 : Nat.gcd (Nat.lcm x y) z * Nat.gcd (Nat.gcd x y) z ∣ z * y := Nat.mul_dvd_mul dz gy
  have e4 : Nat.gcd (Nat.lcm x y) z * Nat.gcd (Nat.gcd x y) z ∣ z * z := Nat.mul_dvd_mul dz gz
  have e5 : Nat.gcd (Nat.lcm x y) z * Nat.gcd (Nat.gcd x y) z ∣ Nat.gcd x z * Nat.gcd y z := by
    rw [show Nat.gcd x z * Nat.gcd y z = Nat.gcd (x * Nat.gcd y z) (z * Nat.gcd y z) from (Nat.gcd_mul_right ..).symm]
    refine Nat.dvd_gcd ?_ ?_
    · rw [show x * Nat.gcd y z = Nat.gcd (x * y) (x * z) from (Nat.gcd_mul_left ..).symm]; exact Nat.dvd_gcd e1 e2
    · rw [show z * Nat.gcd y z = Nat.gcd (z * y) (z * z) from (Nat.gcd_mul_left ..).symm]; exact Nat.dvd_gcd e3 e4
  rw [← Nat.gcd_mul_lcm (Nat.gcd x z) (Nat.gcd y z), hh, Nat.mul_comm (Nat.gcd (Nat.lcm x y) z)] at e5
  have pos : 0 < Nat.gcd (Nat.gcd x z) (Nat.gcd y z) := Nat.gcd_pos_of_pos_left _ (Nat.gcd_pos_of_pos_left _ hx)
  exact Nat.dvd_trans (Nat.dvd_of_mul_dvd_mul_left pos e5) (Nat.lcm_dvd h1 h2)
theorem key_int {x y z n : Int} (hx : 1 ≤ x) (hy : 1 ≤ y) (h1 : (Int.gcd x z : Int) ∣ n) (h2 : (Int.gcd y z : Int) ∣ n) : (Int.gcd (Int.lcm x y : Int) z : Int) ∣ n := by
  have a1 : Nat.gcd x.natAbs z.natAbs ∣ n.natAbs := Int.ofNat_dvd_left.mp h1
  have a2 : Nat.gcd y.natAbs z.natAbs ∣ n.natAbs := Int.ofNat_dvd_left.mp h2
  exact Int.ofNat_dvd_left.mpr (key_nat (by omega) (by omega) a1 a2)
theorem key_fold : ∀ (l : List P2) (L z n : Int), 1 ≤ L → (∀ b ∈ l, Bt b) → (Int.gcd L z : Int) ∣ n → (∀ a ∈ l, (Int.gcd a.2 z : Int) ∣ n) → (Int.gcd (l.foldl (fun L b => (Int.lcm L b.2 : Int)) L) z : Int) ∣ n
  | [], L, z, n, _, _, h, _ => h
  | b :: l, L, z, n, hL, g, h, k => by
    have p := (g b List.mem_cons_self).p1
    exact key_fold l _ z n (lcm_p hL p) (fun x hx => g x (List.mem_cons_of_mem _ hx)) (key_int hL p h (k b List.mem_cons_self)) fun x hx => k x (List.mem_cons_of_mem _ hx)
theorem helly {l : List P2} {b c : P2} (g : ∀ b ∈ l, Bt b) (h : mt l = some c) (hp : ∀ a ∈ l, Cp a b) : (Int.gcd c.2 b.2 : Int) ∣ b.1 - c.1 := by
  have s := mt_sp g
  rw [h] at s
  obtain ⟨s1, s2, s3⟩ := s
  rw [s2]
  refine key_fold l 1 b.2 _ (by decide) g (by rw [Int.gcd_one_left]; exact ⟨b.1 - c.1, by omega⟩) fun a ha => ?_
  have h1 : a.2 ∣ c.1 - a.1 := (s3 c.1).mpr ⟨0, by omega⟩ a ha
  have h2 : (Int.gcd a.2 b.2 : Int) ∣ c.1 - a.1 := Int.dvd_trans (Int.gcd_dvd_left ..) h1
  have h3 : (Int.gcd a.2 b.2 : Int) ∣ a.1 - b.1 := hp a ha
  have := Int.dvd_neg.mpr (Int.dvd_add h2 h3)
  rw [show -(c.1 - a.1 + (a.1 - b.1)) = b.1 - c.1 by omega] at this
  exact this
theorem hb_cp {a b : P2} {x : Int} (h1 : Hb a x) (h2 : Hb b x) : Cp a b := by
  have d1 : (Int.gcd a.2 b.2 : Int) ∣ x - a.1 := Int.dvd_trans (Int.gcd_dvd_left ..) h1
  have d2 : (Int.gcd a.2 b.2 : Int) ∣ x - b.1 := Int.dvd_trans (Int.gcd_dvd_right ..) h2
  have := Int.dvd_sub d2 d1
  rw [show x - b.1 - (x - a.1) = a.1 - b.1 by omega] at this
  exact this
theorem mt_some_iff {l : List P2} (g : ∀ b ∈ l, Bt b) : (mt l).isSome = true ↔ ∃ x, ∀ b ∈ l, Hb b x := by
  have s := mt_sp g
  cases h : mt l with
  | none => rw [h] at s; exact ⟨fun e => (by cases e), fun e => absurd e s⟩
  | some c => rw [h] at s; exact ⟨fun _ => ⟨c.1, (s.2.2 c.1).mpr ⟨0, by omega⟩⟩, fun _ => rfl⟩
theorem mt_more {l : List P2} {b : P2} (g : ∀ b ∈ l, Bt b) (gb : Bt b) (h : (mt l).isSome = true) : (mt (l ++ [b])).isSome = true ↔ ∀ a ∈ l, Cp a b := by
  constructor
  · intro k
    obtain ⟨x, hx⟩ := (mt_some_iff (all_app.mpr ⟨g, gb⟩)).mp k
    obtain ⟨h1, h2⟩ := all_app.mp hx
    exact fun a ha => hb_cp (h1 a ha) h2
  · intro k
    obtain ⟨c, hc⟩ := Option.isSome_iff_exists.mp h
    have s := mt_sp g
    rw [hc] at s
    obtain ⟨s1, _, _⟩ := s
    obtain ⟨e, m, _⟩ := mg_some (a := c) (b := b) (by omega) gb.p1 gb.p2 (helly g hc k)
    rw [mt_app, hc]
    show (mg c b).isSome = true
    rw [m]; rfl
theorem mt_less {l : List P2} {b : P2} (h : (mt (l ++ [b])).isSome = true) : (mt l).isSome = true := by
  rw [mt_app] at h
  cases q : mt l with
  | none => rw [q] at h; cases h
  | some c => rfl
/-! all lists -/
def allL (l : List P2) : List (List P2) := l.foldl (fun F b => F ++ F.map fun t => t ++ [b]) [[]]
theorem allL_app (l : List P2) (b : P2) : allL (l ++ [b]) = allL l ++ (allL l).map fun t => t ++ [b] := by unfold allL; rw [List.foldl_append]; rfl
theorem rev_ind {α : Type} {p : List α → Prop} (h0 : p []) (h : ∀ l b, p l → p (l ++ [b])) : ∀ l, p l := fun l => by
  have : ∀ r : List α, p r.reverse := fun r => by
    induction r with
    | nil => exact h0
    | cons a r ih => rw [List.reverse_cons]; exact h _ _ ih
  have := this l.reverse
  rw [List.reverse_reverse] at this
  exact this
theorem allL_iff : ∀ (l t : List P2), t ∈ allL l ↔ List.Sublist t l := by
  intro l
  refine rev_ind (p := fun l => ∀ t, t ∈ allL l ↔ List.Sublist t l) ?_ ?_ l
  · intro t
    show t ∈ [[]] ↔ _
    rw [List.mem_singleton, List.sublist_nil]
  · intro l b ih t
    rw [allL_app, List.mem_append, List.mem_map, List.sublist_append_iff, ih]
    constructor
    · rintro (h | ⟨s, hs, rfl⟩)
      · exact ⟨t, [], by simp, h, List.nil_sublist _⟩
      · exact ⟨s, [b], rfl, (ih s).mp hs, List.Sublist.refl _⟩
    · rintro ⟨s, u, rfl, h1, h2⟩
      cases h2 with
      | cons _ h =>
        rw [List.sublist_nil.mp h]
        exact .inl (by simpa using h1)
      | cons_cons _ h =>
        rw [List.sublist_nil.mp h]
        exact .inr ⟨s, (ih s).mpr h1, rfl⟩
theorem allL_len (l : List P2) : (allL l).length = 2 ^ l.length := by
  refine rev_ind (p := fun l => (allL l).length = 2 ^ l.length) rfl ?_ l
  intro l b ih
  rw [allL_app, List.length_append, List.length_map, ih, List.length_append, List.length_singleton, Nat.pow_succ]; omega
def goodL (l : List P2) : List (List P2) := (allL l).filter fun t => (mt t).isSome
theorem good_iff {l t : List P2} : t ∈ goodL l ↔ List.Sublist t l ∧ (mt t).isSome = true := by
  unfold goodL
  rw [List.mem_filter, allL_iff]
theorem good_app {l : List P2} {b : P2} (g : ∀ b ∈ l, Bt b) (gb : Bt b) (p : List P2 → Bool) (hp : ∀ t, List.Sublist t l → (p t = true ↔ ∀ a ∈ t, Cp a b)) : goodL (l ++ [b]) = goodL l ++ ((goodL l).filter p).map fun t => t ++ [b] := by
  unfold goodL
  rw [allL_app, List.filter_append, List.filter_map, List.filter_filter]
  congr 2
  refine List.filter_congr fun t ht => ?_
  have sb := (allL_iff l t).mp ht
  have gt : ∀ a ∈ t, Bt a := fun a ha => g a (sb.subset ha)
  show (mt (t ++ [b])).isSome = (p t && (mt t).isSome)
  rw [Bool.eq_iff_iff, Bool.and_eq_true]
  constructor
  · intro h
    have h2 := mt_less h
    exact ⟨(hp t sb).mpr ((mt_more gt gb h2).mp h), h2⟩
  · rintro ⟨h1, h2⟩
    exact (mt_more gt gb h2).mpr ((hp t sb).mp h1)
end K12
end
section
set_option linter.all false
set_option autoImplicit false
set_option Elab.async false
namespace K13
open K12
abbrev P2 := Int × Int
/-! ## beats that cover so many times in a row cover all -/
abbrev Sq := Int → (Nat → Int) → Int
def dl (t : Nat → Int) (f : Sq) : Sq := fun x y => f (x + 1) y - f x (fun i => y i - t i)
def ann : List (Nat → Int) → Sq → Prop
  | [], f => ∀ x y, f x y = 0
  | t :: ts, f => ann ts (dl t f)
theorem ann_zero : ∀ (ts : List (Nat → Int)) (f : Sq), (∀ x y, f x y = 0) → ann ts f
  | [], _, h => h
  | t :: ts, f, h => ann_zero ts _ fun x y => by unfold dl; rw [h, h]; rfl
theorem dl_comm (t s : Nat → Int) (f : Sq) : dl t (dl s f) = dl s (dl t f) := by
  funext x y
  unfold dl
  have : (fun i => (fun i => y i - t i) i - s i) = fun i => (fun i => y i - s i) i - t i := by funext i; show y i - t i - s i = y i - s i - t i; omega
  rw [this]; omega
theorem ann_dl (s : Nat → Int) : ∀ (ts : List (Nat → Int)) (f : Sq), ann ts f → ann ts (dl s f)
  | [], f, h => fun x y => by unfold dl; rw [h, h]; rfl
  | t :: ts, f, h => by
    show ann ts (dl t (dl s f))
    rw [dl_comm]
    exact ann_dl s ts _ h
theorem ann_l (ts : List (Nat → Int)) : ∀ (ss : List (Nat → Int)) (f : Sq), ann ts f → ann (ss ++ ts) f
  | [], f, h => h
  | s :: ss, f, h => ann_l ts ss _ (ann_dl s ts f h)
theorem ann_r (ss : List (Nat → Int)) : ∀ (ts : List (Nat → Int)) (f : Sq), ann ts f → ann (ts ++ ss) f
  | [], f, h => ann_zero ss f h
  | t :: ts, f, h => ann_r ss ts _ h
theorem ann_sub : ∀ (ts : List (Nat → Int)) (f g : Sq), ann ts f → ann ts g → ann ts (fun x y => f x y - g x y)
  | [], f, g, h, k => fun x y => by show f x y - g x y = 0; rw [h, k]; rfl
  | t :: ts, f, g, h, k => by
    show ann ts (dl t fun x y => f x y - g x y)
    have : dl t (fun x y => f x y - g x y) = fun x y => dl t f x y - dl t g x y := by
      funext x y; show (f (x + 1) y - g (x + 1) y) - (f x (fun i => y i - t i) - g x (fun i => y i - t i)) = (f (x + 1) y - f x (fun i => y i - t i)) - (g (x + 1) y - g x (fun i => y i - t i)); omega
    rw [this]
    exact ann_sub ts _ _ h k
def cs (a : Int) (t : Nat → Int) : Nat → Int
  | 0 => a
  | i + 1 => t i
theorem cs_tail (a : Int) (t y : Nat → Int) : (fun i => (fun i => y i - cs a t i) (i + 1)) = fun i => (fun i => y (i + 1)) i - t i := rfl
theorem ann_fst (c : Int → Int) : ∀ (ts : List (Nat → Int)) (G : Sq), ann ts G → ann (ts.map (cs 0)) (fun x y => c (y 0) * G x (fun i => y (i + 1)))
  | [], G, h => fun x y => by show c (y 0) * G x _ = 0; rw [h]; exact Int.mul_zero _
  | t :: ts, G, h => by
    show ann (ts.map (cs 0)) (dl (cs 0 t) fun x y => c (y 0) * G x (fun i => y (i + 1)))
    have : dl (cs 0 t) (fun x y => c (y 0) * G x (fun i => y (i + 1))) = fun x y => c (y 0) * dl t G x (fun i => y (i + 1)) := by
      funext x y
      show c (y 0) * G (x + 1) _ - c (y 0 - 0) * G x _ = c (y 0) * (G (x + 1) _ - G x _)
      rw [Int.sub_zero, Int.mul_sub]; rfl
    rw [this]
    exact ann_fst c ts _ h
theorem ann_snd : ∀ (ts : List (Nat → Int)) (e : Int → Int) (G : Sq), ann ts G → ann (ts.map (cs 1)) (fun x y => e (y 0 - x) * G x (fun i => y (i + 1)))
  | [], e, G, h => fun x y => by show e (y 0 - x) * G x _ = 0; rw [h]; exact Int.mul_zero _
  | t :: ts, e, G, h => by
    show ann (ts.map (cs 1)) (dl (cs 1 t) fun x y => e (y 0 - x) * G x (fun i => y (i + 1)))
    have : dl (cs 1 t) (fun x y => e (y 0 - x) * G x (fun i => y (i + 1))) = fun x y => (fun z => e (z - 1)) (y 0 - x) * dl t G x (fun i => y (i + 1)) := by
      funext x y
      show e (y 0 - (x + 1)) * G (x + 1) _ - e (y 0 - 1 - x) * G x _ = e (y 0 - x - 1) * (G (x + 1) _ - G x _)
      rw [show y 0 - (x + 1) = y 0 - x - 1 by omega, show y 0 - 1 - x = y 0 - x - 1 by omega, Int.mul_sub]; rfl
    rw [this]
    exact ann_snd ts (fun z => e (z - 1)) _ h
theorem vanish : ∀ (ts : List (Nat → Int)) (f : Sq) (x0 : Int), ann ts f → (∀ i : Nat, i < ts.length → ∀ y, f (x0 + i) y = 0) → ∀ x y, f x y = 0
  | [], f, x0, h, _ => h
  | t :: ts, f, x0, h, k => by
    have g := vanish ts (dl t f) x0 h fun i hi y => by
      unfold dl
      have a := k (i + 1) (by simpa using hi) y
      have b := k i (by simp; omega) (fun i => y i - t i)
      rw [show x0 + (i : Int) + 1 = x0 + ((i + 1 : Nat) : Int) by omega, a, b]; rfl
    have st : ∀ x y, f (x + 1) y = f x (fun i => y i - t i) := fun x y => by have := g x y; unfold dl at this; omega
    have z : ∀ y, f x0 y = 0 := fun y => by have := k 0 (by simp) y; simpa using this
    have fw : ∀ (n : Nat) y, f (x0 + n) y = 0 := fun n => by
      induction n with
      | zero => intro y; simpa using z y
      | succ n ih =>
        intro y
        rw [show x0 + ((n + 1 : Nat) : Int) = x0 + n + 1 by omega, st]
        exact ih _
    have bw : ∀ (n : Nat) y, f (x0 - n) y = 0 := fun n => by
      induction n with
      | zero => intro y; simpa using z y
      | succ n ih =>
        intro y
        have := st (x0 - ((n + 1 : Nat) : Int)) (fun i => y i + t i)
        rw [show x0 - ((n + 1 : Nat) : Int) + 1 = x0 - n by omega, ih] at this
        have e : (fun i => (fun i => y i + t i) i - t i) = y := by funext i; show y i + t i - t i = y i; omega
        rw [e] at this
        exact this.symm
    intro x y
    by_cases c : x0 ≤ x
    · have := fw (x - x0).toNat y
      rwa [show x0 + ((x - x0).toNat : Int) = x by omega] at this
    · have := bw (x0 - x).toNat y
      rwa [show x0 - ((x0 - x).toNat : Int) = x by omega] at this
def iv (p z : Int) : Int := if p ∣ z then 1 else 0
def FF : List P2 → Sq
  | [] => fun _ _ => 1
  | b :: bs => fun x y => (iv b.2 (y 0) - iv b.2 (y 0 - (x - b.1))) * FF bs x (fun i => y (i + 1))
theorem FF_ann : ∀ bs : List P2, ∃ ts : List (Nat → Int), ts.length = 2 ^ bs.length ∧ ann ts (FF bs)
  | [] => ⟨[fun _ => 0], rfl, fun x y => rfl⟩
  | b :: bs => by
    obtain ⟨ts, h1, h2⟩ := FF_ann bs
    refine ⟨ts.map (cs 0) ++ ts.map (cs 1), by rw [List.length_append, List.length_map, List.length_map, List.length_cons, h1, Nat.pow_succ]; omega, ?_⟩
    have a := ann_r (ts.map (cs 1)) _ _ (ann_fst (iv b.2) ts _ h2)
    have c := ann_l _ (ts.map (cs 0)) _ (ann_snd ts (fun z => iv b.2 (z + b.1)) _ h2)
    have d := ann_sub _ _ _ a c
    have e : FF (b :: bs) = fun x y => iv b.2 (y 0) * FF bs x (fun i => y (i + 1)) - (fun z => iv b.2 (z + b.1)) (y 0 - x) * FF bs x (fun i => y (i + 1)) := by
      funext x y
      show (iv b.2 (y 0) - iv b.2 (y 0 - (x - b.1))) * _ = _ - iv b.2 (y 0 - x + b.1) * _
      rw [Int.sub_mul, show y 0 - (x - b.1) = y 0 - x + b.1 by omega]
    rw [e]
    exact d
theorem FF_hit : ∀ (bs : List P2) (x : Int) (y : Nat → Int), (∃ b ∈ bs, Hb b x) → FF bs x y = 0
  | [], x, y, h => by obtain ⟨b, h, _⟩ := h; cases h
  | b :: bs, x, y, h => by
    obtain ⟨c, hc, k⟩ := h
    show (iv b.2 (y 0) - iv b.2 (y 0 - (x - b.1))) * FF bs x _ = 0
    rcases List.mem_cons.mp hc with rfl | hc
    · have : iv c.2 (y 0 - (x - c.1)) = iv c.2 (y 0) := by
        unfold iv
        have e : c.2 ∣ y 0 - (x - c.1) ↔ c.2 ∣ y 0 := by
          constructor
          · intro q
            have := Int.dvd_add q k
            rwa [show y 0 - (x - c.1) + (x - c.1) = y 0 by omega] at this
          · intro q; exact Int.dvd_sub q k
        by_cases q : c.2 ∣ y 0
        · rw [if_pos q, if_pos (e.mpr q)]
        · rw [if_neg q, if_neg fun z => q (e.mp z)]
      rw [this, Int.sub_self, Int.zero_mul]
    · rw [FF_hit bs x _ ⟨c, hc, k⟩, Int.mul_zero]
theorem FF_miss : ∀ (bs : List P2) (x : Int), (¬ ∃ b ∈ bs, Hb b x) → FF bs x (fun _ => 0) = 1
  | [], x, h => rfl
  | b :: bs, x, h => by
    show (iv b.2 0 - iv b.2 (0 - (x - b.1))) * FF bs x (fun _ => 0) = 1
    rw [FF_miss bs x fun ⟨c, hc, k⟩ => h ⟨c, List.mem_cons_of_mem _ hc, k⟩]
    have a : iv b.2 0 = 1 := if_pos (Int.dvd_zero _)
    have c : iv b.2 (0 - (x - b.1)) = 0 := if_neg fun q => h ⟨b, List.mem_cons_self, by
      have := Int.dvd_neg.mpr q
      rwa [show -(0 - (x - b.1)) = x - b.1 by omega] at this⟩
    rw [a, c]; rfl
theorem cover {bs : List P2} {x0 : Int} (h : ∀ i : Nat, i < 2 ^ bs.length → ∃ b ∈ bs, Hb b (x0 + i)) (x : Int) : ∃ b ∈ bs, Hb b x := by
  obtain ⟨ts, h1, h2⟩ := FF_ann bs
  have v := vanish ts (FF bs) x0 h2 fun i hi y => FF_hit bs _ y (h i (by rw [← h1]; exact hi))
  by_cases c : ∃ b ∈ bs, Hb b x
  · exact c
  · have := FF_miss bs x c
    rw [v] at this
    omega
/-! ## inclusion and exclusion -/
def hit (b : P2) (x : Int) : Bool := decide (x % b.2 = b.1)
def busyB (l : List P2) (x : Int) : Bool := l.any fun b => hit b x
def indB (t : List P2) (x : Int) : Bool := t.all fun b => hit b x
def ind (t : List P2) (x : Int) : Int := if indB t x = true then 1 else 0
def sg (t : List P2) : Int := if t.length % 2 = 1 then 1 else -1
theorem sg_app (t : List P2) (b : P2) : sg (t ++ [b]) = - sg t := by
  unfold sg
  rw [List.length_append, List.length_singleton]
  by_cases c : t.length % 2 = 1
  · rw [if_pos c, if_neg (by omega)]
  · rw [if_neg c, if_pos (by omega)]; rfl
theorem indB_app (t : List P2) (b : P2) (x : Int) : indB (t ++ [b]) x = (indB t x && hit b x) := by
  unfold indB
  rw [List.all_append, List.all_cons, List.all_nil, Bool.and_true]
theorem busyB_app (t : List P2) (b : P2) (x : Int) : busyB (t ++ [b]) x = (busyB t x || hit b x) := by
  unfold busyB
  rw [List.any_append, List.any_cons, List.any_nil, Bool.or_false]
theorem ind_app (t : List P2) (b : P2) (x : Int) : ind (t ++ [b]) x = if hit b x = true then ind t x else 0 := by
  unfold ind
  rw [indB_app]
  cases h : hit b x
  · rw [Bool.and_false]; rfl
  · rw [Bool.and_true, if_pos rfl]
theorem sum_add {α : Type} (f g : α → Int) : ∀ l : List α, (l.map fun a => f a + g a).sum = (l.map f).sum + (l.map g).sum
  | [] => rfl
  | a :: l => by simp only [List.map_cons, List.sum_cons, sum_add f g l]; omega
theorem sum_neg {α : Type} (f : α → Int) : ∀ l : List α, (l.map fun a => - f a).sum = - (l.map f).sum
  | [] => rfl
  | a :: l => by simp only [List.map_cons, List.sum_cons, sum_neg f l]; omega
theorem sum_zero {α : Type} : ∀ l : List α, (l.map fun _ => (0 : Int)).sum = 0
  | [] => rfl
  | a :: l => by simp only [List.map_cons, List.sum_cons, sum_zero l]; omega
theorem sum_mul {α : Type} (k : Int) (f : α → Int) : ∀ l : List α, (l.map fun a => k * f a).sum = k * (l.map f).sum
  | [] => by simp
  | a :: l => by simp only [List.map_cons, List.sum_cons, sum_mul k f l, Int.mul_add]
theorem one_x (x : Int) (l : List P2) : ((allL l).map fun t => sg t * ind t x).sum = if busyB l x = true then 0 else -1 := by
  refine rev_ind (p := fun l => ((allL l).map fun t => sg t * ind t x).sum = if busyB l x = true then 0 else -1) rfl (fun l b ih => ?_) l
  rw [allL_app, List.map_append, List.sum_append, List.map_map, ih]
  have e : ((fun t => sg t * ind t x) ∘ fun t => t ++ [b]) = fun t => if hit b x = true then - (sg t * ind t x) else 0 := by
    funext t
    show sg (t ++ [b]) * ind (t ++ [b]) x = _
    rw [sg_app, ind_app]
    split
    · rw [Int.neg_mul]
    · exact Int.mul_zero _
  rw [e, busyB_app]
  cases h : hit b x with
  | true =>
    have := sum_neg (fun t => sg t * ind t x) (allL l)
    simp only [if_true]
    rw [this, ih, Bool.or_true, if_pos rfl]
    omega
  | false =>
    have := sum_zero (allL l)
    simp only [Bool.false_eq_true, if_false]
    rw [this, Bool.or_false]
    omega
def cntI (t : List P2) (xs : List Int) : Int := ((xs.filter (indB t)).length : Nat)
def busyN (l : List P2) (xs : List Int) : Int := ((xs.filter (busyB l)).length : Nat)
theorem cntI_cons (t : List P2) (x : Int) (xs : List Int) : cntI t (x :: xs) = ind t x + cntI t xs := by
  unfold cntI ind
  rw [List.filter_cons]
  split <;> simp <;> omega
theorem many_x (l : List P2) : ∀ xs : List Int, ((allL l).map fun t => sg t * cntI t xs).sum = busyN l xs - xs.length
  | [] => by
    have : (fun t => sg t * cntI t []) = fun _ => 0 := by funext t; exact Int.mul_zero _
    rw [this, sum_zero]; rfl
  | x :: xs => by
    have : (fun t => sg t * cntI t (x :: xs)) = fun t => sg t * ind t x + sg t * cntI t xs := by funext t; rw [cntI_cons, Int.mul_add]
    rw [this, sum_add, many_x l xs, one_x]
    unfold busyN
    rw [List.filter_cons]
    split <;> simp <;> omega
theorem allL_head (l : List P2) : ∃ r, allL l = [] :: r := by
  refine rev_ind (p := fun l => ∃ r, allL l = [] :: r) ⟨[], rfl⟩ (fun l b ⟨r, h⟩ => ?_) l
  exact ⟨_, by rw [allL_app, h]; rfl⟩
theorem tail_x (l : List P2) (xs : List Int) : (((allL l).drop 1).map fun t => sg t * cntI t xs).sum = busyN l xs := by
  have h := many_x l xs
  obtain ⟨r, e⟩ := allL_head l
  rw [e] at h ⊢
  rw [List.map_cons, List.sum_cons] at h
  have a : sg [] = -1 := rfl
  have b : cntI [] xs = xs.length := by
    unfold cntI
    have : xs.filter (indB []) = xs := List.filter_eq_self.mpr (fun _ _ => rfl)
    rw [this]
  rw [a, b] at h
  show ((r.map _).sum) = _
  omega
end K13
end
section
set_option linter.all false
set_option autoImplicit false
set_option Elab.async false
namespace K13
open K12 Rt
/-! ## counts of one beat -/
def ct (c : P2) (e : Int) : Int := if c.1 < e then (e - c.1 + c.2 - 1) / c.2 else 0
theorem up_succ (a : Int) (n : Nat) : upto a (n + 1) = upto a n ++ [a + (n : Int)] := by
  unfold upto
  rw [List.range_succ, List.map_append]; rfl
theorem up_len (a : Int) (n : Nat) : (upto a n).length = n := by unfold upto; simp
theorem up_mem {a x : Int} {n : Nat} : x ∈ upto a n ↔ a ≤ x ∧ x < a + n := by
  unfold upto
  rw [List.mem_map]
  constructor
  · rintro ⟨k, hk, rfl⟩
    have := List.mem_range.mp hk
    omega
  · intro h
    exact ⟨(x - a).toNat, List.mem_range.mpr (by omega), by omega⟩
theorem ct_step {c : P2} (o0 : 0 ≤ c.1) (o1 : c.1 < c.2) {e : Int} (h : 0 ≤ e) : ct c (e + 1) = ct c e + if hit c e = true then 1 else 0 := by
  have p0 : 0 < c.2 := by omega
  unfold ct hit
  have md := mod_iff (x := e) o0 o1
  by_cases a : c.1 < e
  · rw [if_pos (by omega), if_pos a]
    have e1 : e + 1 - c.1 + c.2 - 1 = (e - c.1) + 1 * c.2 := by omega
    have e2 : e - c.1 + c.2 - 1 = (e - c.1 - 1) + 1 * c.2 := by omega
    rw [e1, e2, Int.add_mul_ediv_right _ _ (by omega), Int.add_mul_ediv_right _ _ (by omega)]
    generalize hz : e - c.1 = z at *
    have q := Int.mul_ediv_add_emod z c.2
    have r0 := Int.emod_nonneg z (by omega : c.2 ≠ 0)
    have r1 := Int.emod_lt_of_pos z p0
    by_cases d : c.2 ∣ z
    · rw [decide_eq_true (md.mpr d), if_pos rfl]
      obtain ⟨k, hk⟩ := d
      rw [hk, Int.mul_ediv_cancel_left _ (by omega : c.2 ≠ 0), show c.2 * k - 1 = (c.2 - 1) + (k - 1) * c.2 by rw [Int.sub_mul, Int.mul_comm k]; omega, Int.add_mul_ediv_right _ _ (by omega), Int.ediv_eq_zero_of_lt (by omega) (by omega)]
      omega
    · rw [decide_eq_false (fun x => d (md.mp x)), if_neg (by simp)]
      have nz : z % c.2 ≠ 0 := fun x => d (Int.dvd_of_emod_eq_zero x)
      have : (z - 1) / c.2 = z / c.2 := by
        have : z - 1 = (z % c.2 - 1) + z / c.2 * c.2 := by rw [Int.mul_comm]; omega
        rw [this, Int.add_mul_ediv_right _ _ (by omega), Int.ediv_eq_zero_of_lt (by omega) (by omega)]
        omega
      rw [this]; omega
  · by_cases b : c.1 = e
    · rw [if_pos (by omega), if_neg a]
      have : e % c.2 = c.1 := by rw [← b]; exact Int.emod_eq_of_lt o0 o1
      rw [decide_eq_true this, if_pos rfl, show e + 1 - c.1 + c.2 - 1 = c.2 by omega, Int.ediv_self (by omega)]; rfl
    · rw [if_neg (by omega), if_neg a]
      have : ¬ e % c.2 = c.1 := by rw [Int.emod_eq_of_lt h (by omega)]; omega
      rw [decide_eq_false this, if_neg (by simp)]; rfl
theorem ct_diff {c : P2} (o0 : 0 ≤ c.1) (o1 : c.1 < c.2) {s : Int} (h : 0 ≤ s) : ∀ n : Nat, ct c (s + n) - ct c s = (((upto s n).filter (hit c)).length : Nat)
  | 0 => by rw [show s + ((0 : Nat) : Int) = s by omega, Int.sub_self]; rfl
  | n + 1 => by
    have ih := ct_diff o0 o1 h n
    have st := ct_step o0 o1 (e := s + n) (by omega)
    rw [up_succ, List.filter_append, List.length_append, show s + ((n + 1 : Nat) : Int) = s + n + 1 by omega, st]
    by_cases k : hit c (s + n) = true
    · rw [if_pos k, List.filter_cons, if_pos k]; simp; omega
    · rw [if_neg k, List.filter_cons, if_neg k]; simp; omega
theorem ct_mult {c : P2} (o0 : 0 ≤ c.1) (o1 : c.1 < c.2) {s n : Int} (h : 0 ≤ s) (hn : 0 ≤ n) (d : c.2 ∣ n) : ct c (s + n) - ct c s = n / c.2 := by
  have p0 : 0 < c.2 := by omega
  obtain ⟨k, hk⟩ := d
  by_cases z : n = 0
  · rw [z, Int.add_zero, Int.sub_self, Int.zero_ediv]
  · have np : c.2 ≤ n := Int.le_of_dvd (by omega) ⟨k, hk⟩
    have e1 : n / c.2 = k := by rw [hk, Int.mul_ediv_cancel_left _ (by omega)]
    rw [e1]
    unfold ct
    rw [if_pos (by omega)]
    have e2 : s + n - c.1 + c.2 - 1 = (s - c.1 + c.2 - 1) + k * c.2 := by rw [hk, Int.mul_comm k]; omega
    rw [e2, Int.add_mul_ediv_right _ _ (by omega)]
    by_cases a : c.1 < s
    · rw [if_pos a]; omega
    · rw [if_neg a, Int.ediv_eq_zero_of_lt (by omega) (by omega)]; omega
/-! ## lists of beats -/
theorem hb_all {t : List P2} (g : ∀ b ∈ t, Bt b) (x : Int) : indB t x = true ↔ ∀ b ∈ t, Hb b x := by
  unfold indB
  rw [List.all_eq_true]
  constructor
  · intro h b hb
    have := h b hb
    exact (hb_iff (g b hb)).mp (of_decide_eq_true this)
  · intro h b hb
    exact decide_eq_true ((hb_iff (g b hb)).mpr (h b hb))
theorem hb_any {t : List P2} (g : ∀ b ∈ t, Bt b) (x : Int) : busyB t x = true ↔ ∃ b ∈ t, Hb b x := by
  unfold busyB
  rw [List.any_eq_true]
  constructor
  · rintro ⟨b, hb, h⟩
    exact ⟨b, hb, (hb_iff (g b hb)).mp (of_decide_eq_true h)⟩
  · rintro ⟨b, hb, h⟩
    exact ⟨b, hb, decide_eq_true ((hb_iff (g b hb)).mpr h)⟩
theorem ind_some {t : List P2} (g : ∀ b ∈ t, Bt b) {c : P2} (h : mt t = some c) : (0 ≤ c.1 ∧ c.1 < c.2) ∧ c.2 = lcmL t ∧ ∀ x, indB t x = hit c x := by
  have s := mt_sp g
  rw [h] at s
  obtain ⟨s1, s2, s3⟩ := s
  refine ⟨s1, s2, fun x => ?_⟩
  have : indB t x = true ↔ hit c x = true := by
    rw [hb_all g, s3]
    exact (mod_iff (x := x) s1.1 s1.2).symm.trans decide_eq_true_iff.symm
  cases a : indB t x <;> cases b : hit c x <;> simp [a, b] at this ⊢
theorem ind_none {t : List P2} (g : ∀ b ∈ t, Bt b) (h : mt t = none) (x : Int) : indB t x = false := by
  have s := mt_sp g
  rw [h] at s
  cases a : indB t x with
  | false => rfl
  | true => exact (s ⟨x, (hb_all g x).mp a⟩).elim
def mk1 (t : List P2) : Option (Int × P2) := (mt t).map fun c => (sg t, c)
def metL (l : List P2) : List (Int × P2) := ((allL l).drop 1).filterMap mk1
theorem sum_fm {α β : Type} (f : α → Option β) (v : β → Int) (w : α → Int) : ∀ l : List α, (∀ a ∈ l, w a = ((f a).map v).getD 0) → ((l.filterMap f).map v).sum = (l.map w).sum
  | [], _ => rfl
  | a :: l, h => by
    have ih := sum_fm f v w l fun b hb => h b (List.mem_cons_of_mem _ hb)
    have h0 := h a List.mem_cons_self
    rw [List.filterMap_cons, List.map_cons, List.sum_cons, ← ih]
    cases q : f a with
    | none => rw [q] at h0; simp at h0; simp [h0]
    | some b => rw [q] at h0; simp at h0; simp [h0]
theorem sub_all {l t : List P2} (h : t ∈ (allL l).drop 1) : List.Sublist t l := (allL_iff l t).mp (List.mem_of_mem_drop h)
theorem cnt_some {t : List P2} (g : ∀ b ∈ t, Bt b) {c : P2} (h : mt t = some c) {s : Int} (h0 : 0 ≤ s) (n : Nat) : cntI t (upto s n) = ct c (s + n) - ct c s := by
  obtain ⟨s1, s2, s3⟩ := ind_some g h
  rw [ct_diff s1.1 s1.2 h0]
  unfold cntI
  rw [show indB t = hit c from funext s3]
theorem cnt_none {t : List P2} (g : ∀ b ∈ t, Bt b) (h : mt t = none) (xs : List Int) : cntI t xs = 0 := by
  unfold cntI
  rw [List.filter_eq_nil_iff.mpr fun x _ => by rw [ind_none g h x]; simp]; rfl
/-- what is filled -/
theorem filled_eq {l : List P2} (g : ∀ b ∈ l, Bt b) {s : Int} (h0 : 0 ≤ s) (n : Nat) : ((metL l).map fun q => q.1 * (ct q.2 (s + n) - ct q.2 s)).sum = busyN l (upto s n) := by
  rw [← tail_x]
  refine sum_fm mk1 _ _ _ fun t ht => ?_
  have gt : ∀ b ∈ t, Bt b := fun b hb => g b ((sub_all ht).subset hb)
  unfold mk1
  cases q : mt t with
  | none => rw [cnt_none gt q]; exact Int.mul_zero _
  | some c => rw [cnt_some gt q h0 n]; rfl
/-- over whole periods -/
theorem mult_eq {l : List P2} (g : ∀ b ∈ l, Bt b) {s : Int} (h0 : 0 ≤ s) {n : Nat} (d : lcmL l ∣ (n : Int)) : ((metL l).map fun q => q.1 * ((n : Int) / q.2.2)).sum = busyN l (upto s n) := by
  rw [← tail_x]
  refine sum_fm mk1 _ _ _ fun t ht => ?_
  have gt : ∀ b ∈ t, Bt b := fun b hb => g b ((sub_all ht).subset hb)
  unfold mk1
  cases q : mt t with
  | none => rw [cnt_none gt q]; exact Int.mul_zero _
  | some c =>
    obtain ⟨s1, s2, s3⟩ := ind_some gt q
    have dv : c.2 ∣ (n : Int) := by rw [s2]; exact Int.dvd_trans (lcmL_sub fun b hb => (sub_all ht).subset hb) d
    rw [cnt_some gt q h0 n, ct_mult s1.1 s1.2 h0 (by omega) dv]; rfl
theorem three_eq {l : List P2} (g : ∀ b ∈ l, Bt b) {s : Int} (h0 : 0 ≤ s) {n : Nat} (d : lcmL l ∣ (n : Int)) : busyN l (upto s (3 * n)) = 3 * busyN l (upto 0 n) := by
  have d3 : lcmL l ∣ ((3 * n : Nat) : Int) := by
    rw [Int.natCast_mul]; exact Int.dvd_trans d (Int.dvd_mul_left ..)
  rw [← mult_eq g h0 d3, ← mult_eq g (Int.le_refl 0) d, ← sum_mul]
  congr 1
  refine List.map_congr_left fun q hq => ?_
  have : q.2.2 ∣ (n : Int) := by
    unfold metL at hq
    obtain ⟨t, ht, e⟩ := List.mem_filterMap.mp hq
    unfold mk1 at e
    cases m : mt t with
    | none => rw [m] at e; cases e
    | some c =>
      rw [m] at e
      have e : (sg t, c) = q := Option.some.inj e
      subst e
      have gt : ∀ b ∈ t, Bt b := fun b hb => g b ((sub_all ht).subset hb)
      obtain ⟨s1, s2, s3⟩ := ind_some gt m
      show c.2 ∣ _
      rw [s2]; exact Int.dvd_trans (lcmL_sub fun b hb => (sub_all ht).subset hb) d
  rw [Int.natCast_mul, Int.mul_ediv_assoc _ this, ← Int.mul_assoc, ← Int.mul_assoc, Int.mul_comm q.1]
  rfl
/-! ## what is free -/
def freeL (l : List P2) (s : Int) (n : Nat) : List Int := (upto s n).filter fun x => !busyB l x
theorem free_len (l : List P2) (s : Int) (n : Nat) : ((freeL l s n).length : Int) = n - busyN l (upto s n) := by
  unfold freeL busyN
  have : ∀ xs : List Int, ((xs.filter fun x => !busyB l x).length : Int) = xs.length - ((xs.filter (busyB l)).length : Nat) := fun xs => by
    induction xs with
    | nil => rfl
    | cons x xs ih =>
      rw [List.filter_cons, List.filter_cons]
      cases busyB l x <;> simp <;> omega
  rw [this, up_len]
theorem free_nil {l : List P2} (g : ∀ b ∈ l, Bt b) {s : Int} (h : freeL l s (2 ^ l.length) = []) (x : Int) : busyB l x = true := by
  rw [hb_any g]
  refine cover (x0 := s) (fun i hi => ?_) x
  rw [← hb_any g]
  have := List.filter_eq_nil_iff.mp h (s + i) (up_mem.mpr ⟨by omega, by omega⟩)
  simpa using this
theorem free_all {l : List P2} (h : ∀ x, busyB l x = true) (s : Int) (n : Nat) : freeL l s n = [] := List.filter_eq_nil_iff.mpr fun x _ => by simp [h x]
theorem up_add (a : Int) (n : Nat) : ∀ m : Nat, upto a (n + m) = upto a n ++ upto (a + n) m
  | 0 => by simp [upto]
  | m + 1 => by
    rw [← Nat.add_assoc, up_succ, up_add a n m, up_succ, List.append_assoc]
    congr 3
    omega
theorem free_head {l : List P2} (g : ∀ b ∈ l, Bt b) (s : Int) {n : Nat} (h : 2 ^ l.length ≤ n) : (freeL l s n).head? = (freeL l s (2 ^ l.length)).head? := by
  obtain ⟨m, rfl⟩ : ∃ m, n = 2 ^ l.length + m := ⟨n - 2 ^ l.length, by omega⟩
  cases q : freeL l s (2 ^ l.length) with
  | nil => rw [free_all (free_nil g q)]
  | cons a r =>
    have : freeL l s (2 ^ l.length + m) = freeL l s (2 ^ l.length) ++ freeL l (s + (2 ^ l.length : Nat)) m := by
      unfold freeL
      rw [up_add, List.filter_append]
    rw [this, q]; rfl
theorem free_iff {l : List P2} (g : ∀ b ∈ l, Bt b) (s t : Int) : freeL l s (2 ^ l.length) = [] ↔ freeL l t (2 ^ l.length) = [] :=
  ⟨fun h => free_all (free_nil g h) _ _, fun h => free_all (free_nil g h) _ _⟩
theorem busy_mod {l : List P2} (g : ∀ b ∈ l, Bt b) {W : Int} (d : lcmL l ∣ W) (x : Int) : busyB l (x % W) = busyB l x := by
  have hd := (lcmL_dvd_iff l 1 W).mp d
  have : ∀ b ∈ l, hit b (x % W) = hit b x := fun b hb => by
    unfold hit
    rw [Int.emod_emod_of_dvd _ (hd.2 b hb)]
  unfold busyB
  clear hd d g
  induction l with
  | nil => rfl
  | cons b l ih => rw [List.any_cons, List.any_cons, this b List.mem_cons_self, ih fun c hc => this c (List.mem_cons_of_mem _ hc)]
theorem fill_iff {l : List P2} (g : ∀ b ∈ l, Bt b) {W : Nat} (w0 : 0 < W) (d : lcmL l ∣ (W : Int)) : freeL l 0 (2 ^ l.length) = [] ↔ busyN l (upto 0 W) = W := by
  have fl := free_len l 0 W
  constructor
  · intro h
    rw [free_all (free_nil g h)] at fl
    simp at fl; omega
  · intro h
    have z : freeL l 0 W = [] := List.eq_nil_of_length_eq_zero (by omega)
    refine free_all (fun x => ?_) _ _
    have m0 := Int.emod_nonneg x (by omega : (W : Int) ≠ 0)
    have m1 := Int.emod_lt_of_pos x (by omega : (0 : Int) < W)
    have := List.filter_eq_nil_iff.mp z (x % W) (up_mem.mpr ⟨m0, by omega⟩)
    rw [busy_mod g d] at this
    simpa using this
theorem free_lt (l : List P2) (s : Int) {m n : Nat} (h : m ≤ n) : (freeL l s n).filter (fun x => decide (x < s + m)) = freeL l s m := by
  obtain ⟨k, rfl⟩ : ∃ k, n = m + k := ⟨n - m, by omega⟩
  unfold freeL
  rw [up_add, List.filter_append, List.filter_append]
  have a : (List.filter (fun x => !busyB l x) (upto s m)).filter (fun x => decide (x < s + m)) = List.filter (fun x => !busyB l x) (upto s m) := List.filter_eq_self.mpr fun x hx => decide_eq_true (up_mem.mp (List.mem_filter.mp hx).1).2
  have b : (List.filter (fun x => !busyB l x) (upto (s + m) k)).filter (fun x => decide (x < s + m)) = [] := List.filter_eq_nil_iff.mpr fun x hx => by
    have := (up_mem.mp (List.mem_filter.mp hx).1).1
    simp; omega
  rw [a, b, List.append_nil]
/-! ## the share -/
def shF (r : Rat) (q : Int × P2) : Rat := if 0 < q.1 then r + Rat.divInt 1 q.2.2 else r - Rat.divInt 1 q.2.2
theorem div_same {a b W : Int} (h : W ≠ 0) : Rat.divInt a W + Rat.divInt b W = Rat.divInt (a + b) W := by
  rw [Rat.divInt_add_divInt _ _ h h, ← Int.add_mul, Rat.divInt_mul_right h]
theorem sub_same {a b W : Int} (h : W ≠ 0) : Rat.divInt a W - Rat.divInt b W = Rat.divInt (a - b) W := by
  rw [Rat.divInt_sub_divInt _ _ h h, ← Int.sub_mul, Rat.divInt_mul_right h]
theorem div_one {p W : Int} (h : W ≠ 0) (p0 : p ≠ 0) (d : p ∣ W) : Rat.divInt 1 p = Rat.divInt (W / p) W := by
  obtain ⟨k, rfl⟩ := d
  have k0 : k ≠ 0 := fun e => h (by rw [e, Int.mul_zero])
  rw [Int.mul_ediv_cancel_left _ p0]
  have := Rat.divInt_mul_right (n := 1) (d := p) k0
  rw [Int.one_mul] at this
  exact this.symm
theorem sh_fold {W : Int} (h : W ≠ 0) : ∀ (qs : List (Int × P2)) (K : Int), (∀ q ∈ qs, (q.1 = 1 ∨ q.1 = -1) ∧ q.2.2 ≠ 0 ∧ q.2.2 ∣ W) → qs.foldl shF (Rat.divInt K W) = Rat.divInt (K + (qs.map fun q => q.1 * (W / q.2.2)).sum) W
  | [], K, _ => by simp
  | q :: qs, K, k => by
    obtain ⟨k1, k2, k3⟩ := k q List.mem_cons_self
    have ih := fun K => sh_fold h qs K fun r hr => k r (List.mem_cons_of_mem _ hr)
    rw [List.foldl_cons, List.map_cons, List.sum_cons]
    have : shF (Rat.divInt K W) q = Rat.divInt (K + q.1 * (W / q.2.2)) W := by
      unfold shF
      rw [div_one h k2 k3]
      rcases k1 with e | e
      · rw [e, if_pos (by decide), div_same h, Int.one_mul]
      · rw [e, if_neg (by decide), sub_same h, Int.neg_mul, Int.one_mul]
        rfl
    rw [this, ih, Int.add_assoc]
structure Mt (l : List P2) (q : Int × P2) : Prop where
  s : q.1 = 1 ∨ q.1 = -1
  o0 : 0 ≤ q.2.1
  o1 : q.2.1 < q.2.2
  d : q.2.2 ∣ lcmL l
theorem met_mem {l : List P2} (g : ∀ b ∈ l, Bt b) {q : Int × P2} (hq : q ∈ metL l) : Mt l q := by
  unfold metL at hq
  obtain ⟨t, ht, e⟩ := List.mem_filterMap.mp hq
  unfold mk1 at e
  cases m : mt t with
  | none => rw [m] at e; cases e
  | some c =>
    rw [m] at e
    have e : (sg t, c) = q := Option.some.inj e
    subst e
    have gt : ∀ b ∈ t, Bt b := fun b hb => g b ((sub_all ht).subset hb)
    obtain ⟨s1, s2, s3⟩ := ind_some gt m
    refine ⟨?_, s1.1, s1.2, ?_⟩
    · show sg t = 1 ∨ sg t = -1
      unfold sg
      split
      · exact .inl rfl
      · exact .inr rfl
    · show c.2 ∣ _
      rw [s2]; exact lcmL_sub fun b hb => (sub_all ht).subset hb
theorem share_eq {l : List P2} (g : ∀ b ∈ l, Bt b) {W : Nat} (e : lcmL l = (W : Int)) (w0 : 0 < W) : (metL l).foldl shF 0 = Rat.divInt (busyN l (upto 0 W)) W := by
  have z : (0 : Rat) = Rat.divInt 0 (W : Int) := by simp
  rw [z, sh_fold (by omega) _ _ fun q hq => by
    have m := met_mem g hq
    exact ⟨m.s, by have := m.o0; have := m.o1; omega, by rw [← e]; exact m.d⟩]
  rw [mult_eq g (Int.le_refl 0) (by rw [e]; exact Int.dvd_refl _), Int.zero_add]
end K13
end
section
set_option linter.all false
set_option autoImplicit false
set_option Elab.async false
set_option maxRecDepth 100000
set_option maxHeartbeats 0
namespace K13
open PySem Rt
abbrev P : PySem.Program := PySem.Challenge.pw_runattimes_k13_whole_times_that_beats_fi
def top (i : Nat) : Stmt := P.main.body.getD i (.Pass ⟨0, 0, 0, 0⟩)
def up (c h : Nat) : Bool := c == h
def G : Gi := ⟨["fraction", "plus", "minus", "check_beats", "check_moment", "coefficients", "merged", "meeting_of", "lists_of", "count_to", "met_lists", "filled", "share", "is_free", "free_from", "first_free", "do_fill", "_law_draws", "_law_mix", "_law_beats", "_law_common", "_law_whole", "_law_is_free", "law"], ["TooMany", "BadTime", "BadSpan", "BadBeat"], [("MOST_BEATS", (.int 6)), ("MOST_PERIOD", (.int 1000)), ("MOST_TIME", (.int 1000000000000))], true, up⟩
def b_fraction (call : Nat → Rt.Fn) : Sm :=
  (sSeq (sIf (tOf (xCmp .lt (xVar 1) (xCon (.int 0))))
  (sPar 0 1 (xNeg (xVar 0)) (xNeg (xVar 1)))
  sPass)
  (sSeq (sSet 2 (xBi bGcd [(xVar 0), (xVar 1)]))
  (sRet (xTup [(false, (xBin dDiv (xVar 0) (xVar 2))), (false, (xBin dDiv (xVar 1) (xVar 2)))]))))
def b_plus (call : Nat → Rt.Fn) : Sm :=
  (sRet (xCall (call 0) [(xBin dAdd (xBin dMul (xIdx (xVar 0) (xCon (.int 0))) (xIdx (xVar 1) (xCon (.int 1)))) (xBin dMul (xIdx (xVar 1) (xCon (.int 0))) (xIdx (xVar 0) (xCon (.int 1))))), (xBin dMul (xIdx (xVar 0) (xCon (.int 1))) (xIdx (xVar 1) (xCon (.int 1))))]))
def b_minus (call : Nat → Rt.Fn) : Sm :=
  (sRet (xCall (call 0) [(xBin dSub (xBin dMul (xIdx (xVar 0) (xCon (.int 0))) (xIdx (xVar 1) (xCon (.int 1)))) (xBin dMul (xIdx (xVar 1) (xCon (.int 0))) (xIdx (xVar 0) (xCon (.int 1))))), (xBin dMul (xIdx (xVar 0) (xCon (.int 1))) (xIdx (xVar 1) (xCon (.int 1))))]))
def b_check_beats (call : Nat → Rt.Fn) : Sm :=
  (sSeq (sIf (tNot (tOf (xChain (xCon (.int 1)) [(.le, (xBi bLen [(xVar 0)])), (.le, (xCon (.int 6)))])))
  (sRaise 0 (xBi bLen [(xVar 0)]))
  sPass)
  (sFor (gTup [(gName 1), (gTup [(gName 2), (gName 3)])]) (iEnum (xVar 0))
  (sIf (tOr (tNot (tOf (xChain (xCon (.int 1)) [(.le, (xVar 3)), (.le, (xCon (.int 1000)))]))) (tNot (tOf (xChain (xCon (.int 0)) [(.le, (xVar 2)), (.lt, (xVar 3))]))))
  (sRaise 3 (xVar 1))
  sPass)))
def b_check_moment (call : Nat → Rt.Fn) : Sm :=
  (sIf (tNot (tOf (xChain (xCon (.int 0)) [(.le, (xVar 0)), (.lt, (xCon (.int 1000000000000)))])))
  (sRaise 1 (xVar 0))
  sPass)
def b_coefficients (call : Nat → Rt.Fn) : Sm :=
  (sSeq (sPar 2 3 (xVar 0) (xVar 1))
  (sSeq (sPar 4 5 (xCon (.int 1)) (xCon (.int 0)))
  (sSeq (sWhile (tOf (xCmp .gt (xVar 3) (xCon (.int 0))))
  (sSeq (sSet 6 (xBin dDiv (xVar 2) (xVar 3)))
  (sSeq (sPar 2 3 (xVar 3) (xBin dSub (xVar 2) (xBin dMul (xVar 6) (xVar 3))))
  (sPar 4 5 (xVar 5) (xBin dSub (xVar 4) (xBin dMul (xVar 6) (xVar 5)))))))
  (sRet (xTup [(false, (xVar 2)), (false, (xVar 4))])))))
def b_merged (call : Nat → Rt.Fn) : Sm :=
  (sSeq (sTg (gTup [(gName 4), (gName 5)]) (xCall (call 5) [(xIdx (xVar 0) (xCon (.int 1))), (xIdx (xVar 1) (xCon (.int 1)))]))
  (sSeq (sSet 2 (xBin dSub (xIdx (xVar 1) (xCon (.int 0))) (xIdx (xVar 0) (xCon (.int 0)))))
  (sSeq (sIf (tOf (xCmp .ne (xBin dMod (xVar 2) (xVar 4)) (xCon (.int 0))))
  (sRet (xCon .non))
  sPass)
  (sSeq (sSet 3 (xBin dMul (xBin dDiv (xIdx (xVar 0) (xCon (.int 1))) (xVar 4)) (xIdx (xVar 1) (xCon (.int 1)))))
  (sRet (xTup [(false, (xBin dMod (xBin dAdd (xIdx (xVar 0) (xCon (.int 0))) (xBin dMul (xBin dMul (xBin dDiv (xVar 2) (xVar 4)) (xVar 5)) (xIdx (xVar 0) (xCon (.int 1))))) (xVar 3))), (false, (xVar 3))]))))))
def b_meeting_of (call : Nat → Rt.Fn) : Sm :=
  (sSeq (sSet 1 (xTup [(false, (xCon (.int 0))), (false, (xCon (.int 1)))]))
  (sSeq (sFor (gName 2) (iSeq (xVar 0))
  (sIf (tOf (xCmp .isn (xVar 1) (xCon .non)))
  (sSet 1 (xCall (call 6) [(xVar 1), (xVar 2)]))
  sPass))
  (sRet (xVar 1))))
def b_lists_of (call : Nat → Rt.Fn) : Sm :=
  (sSeq (sSet 1 (xLst [(false, (xLst []))]))
  (sSeq (sFor (gName 2) (iSeq (xVar 0))
  (sSet 1 (xBin dAdd (xVar 1) (xLC [3] (iSeq (xVar 1)) (gName 3) tYesD (xLst [(true, (xVar 3)), (false, (xVar 2))])))))
  (sRet (xVar 1))))
def b_count_to (call : Nat → Rt.Fn) : Sm :=
  (sSeq (sTg (gTup [(gName 2), (gName 3)]) (xVar 0))
  (sRet (xIf (tOf (xCmp .gt (xVar 1) (xVar 2))) (xBin dDiv (xBin dSub (xBin dAdd (xBin dSub (xVar 1) (xVar 2)) (xVar 3)) (xCon (.int 1))) (xVar 3)) (xCon (.int 0)))))
def b_met_lists (call : Nat → Rt.Fn) : Sm :=
  (sSeq (sSet 1 (xLst []))
  (sSeq (sFor (gName 2) (iSeq (xSlice (xCall (call 8) [(xVar 0)]) (some (xCon (.int 1))) none))
  (sSeq (sSet 3 (xCall (call 7) [(xVar 2)]))
  (sIf (tOf (xCmp .isn (xVar 3) (xCon .non)))
  (sApp 1 (xTup [(false, (xIf (tOf (xCmp .eq (xBin dMod (xBi bLen [(xVar 2)]) (xCon (.int 2))) (xCon (.int 1)))) (xCon (.int 1)) (xNeg (xCon (.int 1))))), (false, (xVar 3))]))
  sPass)))
  (sRet (xVar 1))))
def b_filled (call : Nat → Rt.Fn) : Sm :=
  (sSeq (sExpr (xCall (call 3) [(xVar 0)]))
  (sSeq (sExpr (xCall (call 4) [(xVar 1)]))
  (sSeq (sExpr (xCall (call 4) [(xVar 2)]))
  (sSeq (sIf (tOf (xCmp .lt (xVar 2) (xVar 1)))
  (sRaise 2 (xCon (.int 0)))
  sPass)
  (sRet (xBi bSum [(xLC [3, 4] (iSeq (xCall (call 10) [(xVar 0)])) (gTup [(gName 3), (gName 4)]) tYesD (xBin dMul (xVar 3) (xBin dSub (xCall (call 9) [(xVar 4), (xVar 2)]) (xCall (call 9) [(xVar 4), (xVar 1)]))))]))))))
def b_share (call : Nat → Rt.Fn) : Sm :=
  (sSeq (sExpr (xCall (call 3) [(xVar 0)]))
  (sSeq (sSet 1 (xTup [(false, (xCon (.int 0))), (false, (xCon (.int 1)))]))
  (sSeq (sFor (gTup [(gName 2), (gName 3)]) (iSeq (xCall (call 10) [(xVar 0)]))
  (sSeq (sSet 4 (xCall (call 0) [(xCon (.int 1)), (xIdx (xVar 3) (xCon (.int 1)))]))
  (sSet 1 (xIf (tOf (xCmp .gt (xVar 2) (xCon (.int 0)))) (xCall (call 1) [(xVar 1), (xVar 4)]) (xCall (call 2) [(xVar 1), (xVar 4)])))))
  (sRet (xVar 1)))))
def b_is_free (call : Nat → Rt.Fn) : Sm :=
  (sRet (xBi bAll [(xLC [2, 3] (iSeq (xVar 0)) (gTup [(gName 2), (gName 3)]) tYesD (xCmp .ne (xBin dMod (xVar 1) (xVar 3)) (xVar 2)))]))
def b_free_from (call : Nat → Rt.Fn) : Sm :=
  (sSeq (sSet 2 (xCon (.int 1)))
  (sSeq (sFor (gName 3) (iSeq (xVar 0))
  (sSet 2 (xBin dMul (xVar 2) (xCon (.int 2)))))
  (sSeq (sSet 4 (xLC [5] (iRng2 (xVar 1) (xBin dAdd (xVar 1) (xVar 2))) (gName 5) (tOf (xCall (call 13) [(xVar 0), (xVar 5)])) (xVar 5)))
  (sRet (xIf (tOf (xCmp .gt (xBi bLen [(xVar 4)]) (xCon (.int 0)))) (xIdx (xVar 4) (xCon (.int 0))) (xCon .non))))))
def b_first_free (call : Nat → Rt.Fn) : Sm :=
  (sSeq (sExpr (xCall (call 3) [(xVar 0)]))
  (sSeq (sExpr (xCall (call 4) [(xVar 1)]))
  (sRet (xCall (call 14) [(xVar 0), (xVar 1)]))))
def b_do_fill (call : Nat → Rt.Fn) : Sm :=
  (sSeq (sExpr (xCall (call 3) [(xVar 0)]))
  (sRet (xCmp .is (xCall (call 14) [(xVar 0), (xCon (.int 0))]) (xCon .non))))
def b__law_draws (call : Nat → Rt.Fn) : Sm :=
  (sSeq (sSet 1 (xLst []))
  (sSeq (sFor (gName 2) (iRng1 (xBi bMin [(xCon (.int 63)), (xBi bLen [(xVar 0)])]))
  (sSeq (sSet 3 (xBi bAbs [(xIdx (xVar 0) (xVar 2))]))
  (sIf (tOf (xCmp .ge (xVar 3) (xBin dPow (xCon (.int 10)) (xCon (.int 18)))))
  (sFor (gName 4) (iRng1 (xCon (.int 60)))
  (sIf (tOf (xCmp .gt (xVar 3) (xCon (.int 0))))
  (sSeq (sApp 1 (xBin dMod (xBi bInt [(xVar 3)]) (xCon (.int 65536))))
  (sSet 3 (xBin dDiv (xVar 3) (xCon (.int 65536)))))
  sPass))
  (sSeq (sSet 5 (xBin dMod (xBi bInt [(xBin dAdd (xBin dMul (xVar 3) (xCon (.int 48271))) (xBin dMul (xBin dAdd (xVar 2) (xCon (.int 1))) (xCon (.int 69621))))]) (xCon (.int 2147483647))))
  (sSeq (sSet 5 (xBin dMod (xBi bInt [(xBin dAdd (xBin dAdd (xBin dMul (xVar 5) (xCon (.int 16807))) (xBin dMul (xCon (.int 11)) (xVar 2))) (xCon (.int 5)))]) (xCon (.int 2147483629))))
  (sSeq (sApp 1 (xBin dMod (xBi bInt [(xVar 5)]) (xCon (.int 65536))))
  (sApp 1 (xBin dMod (xBi bInt [(xBin dDiv (xVar 5) (xCon (.int 65536)))]) (xCon (.int 32768))))))))))
  (sRet (xVar 1))))
def b__law_mix (call : Nat → Rt.Fn) : Sm :=
  (sSeq (sSet 3 (xCon (.int 0)))
  (sSeq (sIf (tOf (xCmp .gt (xBi bLen [(xVar 0)]) (xCon (.int 0))))
  (sSet 3 (xIdx (xVar 0) (xBin dMod (xBi bInt [(xVar 1)]) (xBi bLen [(xVar 0)]))))
  sPass)
  (sSeq (sIf (tOf (xCmp .lt (xVar 1) (xBi bLen [(xVar 0)])))
  (sRet (xBin dMod (xBi bInt [(xVar 3)]) (xVar 2)))
  sPass)
  (sRet (xBin dMod (xBi bInt [(xBin dDiv (xBi bInt [(xBin dAdd (xBin dMul (xVar 3) (xCon (.int 7919))) (xBin dMul (xVar 1) (xCon (.int 104729))))]) (xCon (.int 3)))]) (xVar 2))))))
def b__law_beats (call : Nat → Rt.Fn) : Sm :=
  (sSeq (sSet 3 (xLst []))
  (sSeq (sFor (gName 4) (iRng1 (xBin dAdd (xCon (.int 1)) (xCall (call 18) [(xVar 0), (xVar 1), (xCon (.int 6))])))
  (sSeq (sSet 5 (xIdx (xLst [(false, (xBin dAdd (xCon (.int 1)) (xCall (call 18) [(xVar 0), (xBin dAdd (xBin dAdd (xVar 1) (xBin dMul (xCon (.int 3)) (xVar 4))) (xCon (.int 2))), (xVar 2)]))), (false, (xIdx (xLst [(false, (xCon (.int 2))), (false, (xCon (.int 3))), (false, (xCon (.int 4))), (false, (xCon (.int 6))), (false, (xCon (.int 8))), (false, (xCon (.int 12))), (false, (xCon (.int 24)))]) (xCall (call 18) [(xVar 0), (xBin dAdd (xBin dAdd (xVar 1) (xBin dMul (xCon (.int 3)) (xVar 4))) (xCon (.int 2))), (xCon (.int 7))])))]) (xCall (call 18) [(xVar 0), (xBin dAdd (xVar 1) (xCon (.int 1))), (xCon (.int 2))])))
  (sSeq (sSet 6 (xCall (call 18) [(xVar 0), (xBin dAdd (xBin dAdd (xVar 1) (xBin dMul (xCon (.int 3)) (xVar 4))) (xCon (.int 3))), (xVar 5)]))
  (sSeq (sIf (tAnd (tOf (xCmp .gt (xVar 4) (xCon (.int 0)))) (tOf (xCmp .eq (xCall (call 18) [(xVar 0), (xBin dAdd (xBin dAdd (xVar 1) (xBin dMul (xCon (.int 3)) (xVar 4))) (xCon (.int 4))), (xCon (.int 3))]) (xCon (.int 0)))))
  (sSet 6 (xBin dMod (xBi bInt [(xIdx (xIdx (xVar 3) (xCon (.int 0))) (xCon (.int 0)))]) (xVar 5)))
  sPass)
  (sApp 3 (xTup [(false, (xVar 6)), (false, (xVar 5))]))))))
  (sRet (xVar 3))))
def b__law_common (call : Nat → Rt.Fn) : Sm :=
  (sSeq (sWhile (tOf (xCmp .gt (xVar 1) (xCon (.int 0))))
  (sPar 0 1 (xVar 1) (xBin dMod (xBi bInt [(xVar 0)]) (xVar 1))))
  (sRet (xVar 0)))
def b__law_whole (call : Nat → Rt.Fn) : Sm :=
  (sSeq (sSet 1 (xCon (.int 1)))
  (sSeq (sFor (gName 2) (iSeq (xVar 0))
  (sSet 1 (xBin dDiv (xBin dMul (xVar 1) (xIdx (xVar 2) (xCon (.int 1)))) (xCall (call 20) [(xVar 1), (xIdx (xVar 2) (xCon (.int 1)))]))))
  (sRet (xVar 1))))
def b__law_is_free (call : Nat → Rt.Fn) : Sm :=
  (sRet (xCmp .eq (xLC [2] (iSeq (xVar 0)) (gName 2) (tOf (xCmp .eq (xBin dMod (xBi bInt [(xVar 1)]) (xIdx (xVar 2) (xCon (.int 1)))) (xIdx (xVar 2) (xCon (.int 0))))) (xVar 2)) (xLst [])))
def b_law (call : Nat → Rt.Fn) : Sm :=
  (sSeq (sSet 1 (xCall (call 17) [(xVar 0)]))
  (sSeq (sSet 2 (xLst [(false, (xLst [(false, (xTup [(false, (xCon (.int 0))), (false, (xCon (.int 1)))]))])), (false, (xLst [(false, (xTup [(false, (xCon (.int 0))), (false, (xCon (.int 2)))])), (false, (xTup [(false, (xCon (.int 1))), (false, (xCon (.int 2)))]))])), (false, (xLst [(false, (xTup [(false, (xCon (.int 0))), (false, (xCon (.int 2)))])), (false, (xTup [(false, (xCon (.int 0))), (false, (xCon (.int 3)))])), (false, (xTup [(false, (xCon (.int 1))), (false, (xCon (.int 4)))])), (false, (xTup [(false, (xCon (.int 5))), (false, (xCon (.int 6)))])), (false, (xTup [(false, (xCon (.int 7))), (false, (xCon (.int 12)))]))])), (false, (xLst [(false, (xTup [(false, (xCon (.int 0))), (false, (xCon (.int 2)))])), (false, (xTup [(false, (xCon (.int 1))), (false, (xCon (.int 4)))])), (false, (xTup [(false, (xCon (.int 3))), (false, (xCon (.int 8)))])), (false, (xTup [(false, (xCon (.int 7))), (false, (xCon (.int 8)))]))])), (false, (xLst [(false, (xTup [(false, (xCon (.int 0))), (false, (xCon (.int 3)))])), (false, (xTup [(false, (xCon (.int 1))), (false, (xCon (.int 3)))])), (false, (xTup [(false, (xCon (.int 2))), (false, (xCon (.int 3)))]))])), (false, (xLst [(false, (xTup [(false, (xCon (.int 0))), (false, (xCon (.int 2)))])), (false, (xTup [(false, (xCon (.int 1))), (false, (xCon (.int 4)))])), (false, (xTup [(false, (xCon (.int 3))), (false, (xCon (.int 8)))])), (false, (xTup [(false, (xCon (.int 7))), (false, (xCon (.int 16)))])), (false, (xTup [(false, (xCon (.int 15))), (false, (xCon (.int 32)))])), (false, (xTup [(false, (xCon (.int 31))), (false, (xCon (.int 32)))]))]))]))
  (sSeq (sFor (gName 3) (iRng1 (xCon (.int 3)))
  (sSeq (sSet 4 (xBin dAdd (xCon (.int 10)) (xBin dMul (xCon (.int 40)) (xVar 3))))
  (sSeq (sSet 5 (xCall (call 19) [(xVar 1), (xVar 4), (xIdx (xLst [(false, (xCon (.int 12))), (false, (xCon (.int 24))), (false, (xCon (.int 1000)))]) (xVar 3))]))
  (sSeq (sIf (tAnd (tOf (xCmp .eq (xVar 3) (xCon (.int 1)))) (tOf (xCmp .eq (xCall (call 18) [(xVar 1), (xBin dAdd (xVar 4) (xCon (.int 30))), (xCon (.int 2))]) (xCon (.int 0)))))
  (sSeq (sSet 5 (xBi bList [(xIdx (xVar 2) (xCall (call 18) [(xVar 1), (xBin dAdd (xVar 4) (xCon (.int 31))), (xCon (.int 6))]))]))
  (sIf (tOf (xCmp .eq (xCall (call 18) [(xVar 1), (xBin dAdd (xVar 4) (xCon (.int 32))), (xCon (.int 2))]) (xCon (.int 0))))
  (sSeq (sSet 15 (xCall (call 18) [(xVar 1), (xBin dAdd (xVar 4) (xCon (.int 33))), (xBi bLen [(xVar 5)])]))
  (sPut 5 (xVar 15) (xTup [(false, (xBin dMod (xBi bInt [(xBin dAdd (xIdx (xIdx (xVar 5) (xVar 15)) (xCon (.int 0))) (xCon (.int 1)))]) (xIdx (xIdx (xVar 5) (xVar 15)) (xCon (.int 1))))), (false, (xIdx (xIdx (xVar 5) (xVar 15)) (xCon (.int 1))))])))
  sPass))
  sPass)
  (sSeq (sSet 6 (xBi bRepr [(xVar 5)]))
  (sSeq (sSet 7 (xCall (call 21) [(xVar 5)]))
  (sSeq (sIf (tOf (xCmp .le (xVar 7) (xCon (.int 1500))))
  (sSeq (sSet 9 (xLC [16] (iRng1 (xVar 7)) (gName 16) (tNot (tOf (xCall (call 22) [(xVar 5), (xVar 16)]))) (xVar 16)))
  (sSeq (sSet 10 (xCall (call 20) [(xBi bLen [(xVar 9)]), (xVar 7)]))
  (sSeq (sIf (tOr (tOf (xCmp .ne (xBi bRepr [(xCall (call 12) [(xVar 5)])]) (xBi bRepr [(xTup [(false, (xBin dDiv (xBi bLen [(xVar 9)]) (xVar 10))), (false, (xBin dDiv (xVar 7) (xVar 10)))])]))) (tOf (xCmp .ne (xBi bRepr [(xCall (call 16) [(xVar 5)])]) (xBi bRepr [(xCmp .eq (xBi bLen [(xVar 9)]) (xVar 7))]))))
  (sRet (xCon (.bl false)))
  sPass)
  (sSeq (sSet 11 (xBin dMul (xVar 7) (xCall (call 18) [(xVar 1), (xBin dAdd (xVar 4) (xCon (.int 34))), (xCon (.int 60000))])))
  (sIf (tOf (xCmp .ne (xCall (call 11) [(xVar 5), (xVar 11), (xBin dAdd (xVar 11) (xBin dMul (xCon (.int 3)) (xVar 7)))]) (xBin dMul (xCon (.int 3)) (xBi bLen [(xVar 9)]))))
  (sRet (xCon (.bl false)))
  sPass)))))
  sPass)
  (sSeq (sFor (gName 8) (iRng1 (xCon (.int 3)))
  (sSeq (sSet 11 (xIdx (xLst [(false, (xCon (.int 0))), (false, (xCall (call 18) [(xVar 1), (xBin dAdd (xVar 4) (xCon (.int 35))), (xCon (.int 60000))])), (false, (xBin dAdd (xBin dPow (xCon (.int 10)) (xCon (.int 11))) (xCall (call 18) [(xVar 1), (xBin dAdd (xVar 4) (xCon (.int 36))), (xCon (.int 60000))])))]) (xVar 8)))
  (sSeq (sSet 12 (xBin dAdd (xVar 11) (xCall (call 18) [(xVar 1), (xBin dAdd (xBin dAdd (xVar 4) (xCon (.int 37))) (xVar 8)), (xCon (.int 200))])))
  (sSeq (sSet 13 (xLC [16] (iRng2 (xVar 11) (xBin dAdd (xVar 11) (xCon (.int 300)))) (gName 16) (tOf (xCall (call 22) [(xVar 5), (xVar 16)])) (xVar 16)))
  (sSeq (sIf (tOf (xCmp .ne (xBi bRepr [(xCall (call 11) [(xVar 5), (xVar 11), (xVar 12)])]) (xBi bRepr [(xBin dSub (xBin dSub (xVar 12) (xVar 11)) (xBi bLen [(xLC [16] (iSeq (xVar 13)) (gName 16) (tOf (xCmp .lt (xVar 16) (xVar 12))) (xVar 16))]))])))
  (sRet (xCon (.bl false)))
  sPass)
  (sSeq (sSet 14 (xCall (call 15) [(xVar 5), (xVar 11)]))
  (sIf (tOr (tOf (xCmp .ne (xBi bRepr [(xVar 14)]) (xBi bRepr [(xIdx (xBin dAdd (xVar 13) (xLst [(false, (xCon .non))])) (xCon (.int 0)))]))) (tOr (tOf (xCmp .ne (xCmp .is (xVar 14) (xCon .non)) (xCall (call 16) [(xVar 5)]))) (tOf (xCmp .ne (xCall (call 11) [(xVar 5), (xVar 11), (xVar 11)]) (xCon (.int 0))))))
  (sRet (xCon (.bl false)))
  sPass)))))))
  (sIf (tOr (tOf (xCmp .ne (xBin dSub (xCall (call 11) [(xVar 5), (xCon (.int 0)), (xBin dPow (xCon (.int 10)) (xCon (.int 11)))]) (xCall (call 11) [(xVar 5), (xCon (.int 0)), (xBin dSub (xBin dPow (xCon (.int 10)) (xCon (.int 11))) (xCon (.int 1)))])) (xBi bInt [(xNot (xCall (call 22) [(xVar 5), (xBin dSub (xBin dPow (xCon (.int 10)) (xCon (.int 11))) (xCon (.int 1)))]))]))) (tOf (xCmp .ne (xBi bRepr [(xVar 5)]) (xVar 6))))
  (sRet (xCon (.bl false)))
  sPass)))))))))
  (sRet (xCon (.bl true))))))
def d_fraction : Dd := ⟨"fraction", top 8, ["number", "by", "common"], b_fraction⟩
def d_plus : Dd := ⟨"plus", top 9, ["one", "two"], b_plus⟩
def d_minus : Dd := ⟨"minus", top 10, ["one", "two"], b_minus⟩
def d_check_beats : Dd := ⟨"check_beats", top 15, ["beats", "k", "offset", "period"], b_check_beats⟩
def d_check_moment : Dd := ⟨"check_moment", top 16, ["time"], b_check_moment⟩
def d_coefficients : Dd := ⟨"coefficients", top 17, ["one", "two", "left", "right", "first", "second", "times"], b_coefficients⟩
def d_merged : Dd := ⟨"merged", top 18, ["one", "two", "gap", "period", "common", "times"], b_merged⟩
def d_meeting_of : Dd := ⟨"meeting_of", top 19, ["beats", "found", "beat"], b_meeting_of⟩
def d_lists_of : Dd := ⟨"lists_of", top 20, ["beats", "found", "beat", "told"], b_lists_of⟩
def d_count_to : Dd := ⟨"count_to", top 22, ["beat", "end", "offset", "period"], b_count_to⟩
def d_met_lists : Dd := ⟨"met_lists", top 23, ["beats", "found", "told", "beat"], b_met_lists⟩
def d_filled : Dd := ⟨"filled", top 24, ["beats", "start", "end", "sign", "beat"], b_filled⟩
def d_share : Dd := ⟨"share", top 25, ["beats", "found", "sign", "beat", "part"], b_share⟩
def d_is_free : Dd := ⟨"is_free", top 26, ["beats", "time", "offset", "period"], b_is_free⟩
def d_free_from : Dd := ⟨"free_from", top 27, ["beats", "time", "number", "_", "good", "here"], b_free_from⟩
def d_first_free : Dd := ⟨"first_free", top 28, ["beats", "time"], b_first_free⟩
def d_do_fill : Dd := ⟨"do_fill", top 29, ["beats"], b_do_fill⟩
def d__law_draws : Dd := ⟨"_law_draws", top 31, ["script", "draws", "k", "rest", "turn", "mixed"], b__law_draws⟩
def d__law_mix : Dd := ⟨"_law_mix", top 32, ["draws", "k", "many", "value"], b__law_mix⟩
def d__law_beats : Dd := ⟨"_law_beats", top 33, ["draws", "k", "wide", "beats", "t", "period", "offset"], b__law_beats⟩
def d__law_common : Dd := ⟨"_law_common", top 34, ["a", "b"], b__law_common⟩
def d__law_whole : Dd := ⟨"_law_whole", top 35, ["beats", "found", "beat"], b__law_whole⟩
def d__law_is_free : Dd := ⟨"_law_is_free", top 36, ["beats", "time", "beat"], b__law_is_free⟩
def d_law : Dd := ⟨"law", top 37, ["script", "draws", "fillers", "turn", "at", "beats", "kept", "whole", "t", "busy", "common", "start", "end", "times", "told", "k", "time"], b_law⟩
def ds : List Dd := [d_fraction, d_plus, d_minus, d_check_beats, d_check_moment, d_coefficients, d_merged, d_meeting_of, d_lists_of, d_count_to, d_met_lists, d_filled, d_share, d_is_free, d_free_from, d_first_free, d_do_fill, d__law_draws, d__law_mix, d__law_beats, d__law_common, d__law_whole, d__law_is_free, d_law]
theorem g_fraction : d_fraction.good G := ⟨by decide +kernel, fun _ _ _ _ _ _ us hl => match us, hl with | [_, _], _ => by with_unfolding_all rfl, ⟨100, fun call => by kernel_rfl⟩⟩
theorem g_plus : d_plus.good G := ⟨by decide +kernel, fun _ _ _ _ _ _ us hl => match us, hl with | [_, _], _ => by with_unfolding_all rfl, ⟨100, fun call => by kernel_rfl⟩⟩
theorem g_minus : d_minus.good G := ⟨by decide +kernel, fun _ _ _ _ _ _ us hl => match us, hl with | [_, _], _ => by with_unfolding_all rfl, ⟨100, fun call => by kernel_rfl⟩⟩
theorem g_check_beats : d_check_beats.good G := ⟨by decide +kernel, fun _ _ _ _ _ _ us hl => match us, hl with | [_], _ => by with_unfolding_all rfl, ⟨100, fun call => by kernel_rfl⟩⟩
theorem g_check_moment : d_check_moment.good G := ⟨by decide +kernel, fun _ _ _ _ _ _ us hl => match us, hl with | [_], _ => by with_unfolding_all rfl, ⟨100, fun call => by kernel_rfl⟩⟩
theorem g_coefficients : d_coefficients.good G := ⟨by decide +kernel, fun _ _ _ _ _ _ us hl => match us, hl with | [_, _], _ => by with_unfolding_all rfl, ⟨100, fun call => by kernel_rfl⟩⟩
theorem g_merged : d_merged.good G := ⟨by decide +kernel, fun _ _ _ _ _ _ us hl => match us, hl with | [_, _], _ => by with_unfolding_all rfl, ⟨100, fun call => by kernel_rfl⟩⟩
theorem g_meeting_of : d_meeting_of.good G := ⟨by decide +kernel, fun _ _ _ _ _ _ us hl => match us, hl with | [_], _ => by with_unfolding_all rfl, ⟨100, fun call => by kernel_rfl⟩⟩
theorem g_lists_of : d_lists_of.good G := ⟨by decide +kernel, fun _ _ _ _ _ _ us hl => match us, hl with | [_], _ => by with_unfolding_all rfl, ⟨100, fun call => by kernel_rfl⟩⟩
theorem g_count_to : d_count_to.good G := ⟨by decide +kernel, fun _ _ _ _ _ _ us hl => match us, hl with | [_, _], _ => by with_unfolding_all rfl, ⟨100, fun call => by kernel_rfl⟩⟩
theorem g_met_lists : d_met_lists.good G := ⟨by decide +kernel, fun _ _ _ _ _ _ us hl => match us, hl with | [_], _ => by with_unfolding_all rfl, ⟨100, fun call => by kernel_rfl⟩⟩
theorem g_filled : d_filled.good G := ⟨by decide +kernel, fun _ _ _ _ _ _ us hl => match us, hl with | [_, _, _], _ => by with_unfolding_all rfl, ⟨100, fun call => by kernel_rfl⟩⟩
theorem g_share : d_share.good G := ⟨by decide +kernel, fun _ _ _ _ _ _ us hl => match us, hl with | [_], _ => by with_unfolding_all rfl, ⟨100, fun call => by kernel_rfl⟩⟩
theorem g_is_free : d_is_free.good G := ⟨by decide +kernel, fun _ _ _ _ _ _ us hl => match us, hl with | [_, _], _ => by with_unfolding_all rfl, ⟨100, fun call => by kernel_rfl⟩⟩
theorem g_free_from : d_free_from.good G := ⟨by decide +kernel, fun _ _ _ _ _ _ us hl => match us, hl with | [_, _], _ => by with_unfolding_all rfl, ⟨100, fun call => by kernel_rfl⟩⟩
theorem g_first_free : d_first_free.good G := ⟨by decide +kernel, fun _ _ _ _ _ _ us hl => match us, hl with | [_, _], _ => by with_unfolding_all rfl, ⟨100, fun call => by kernel_rfl⟩⟩
theorem g_do_fill : d_do_fill.good G := ⟨by decide +kernel, fun _ _ _ _ _ _ us hl => match us, hl with | [_], _ => by with_unfolding_all rfl, ⟨100, fun call => by kernel_rfl⟩⟩
theorem g__law_draws : d__law_draws.good G := ⟨by decide +kernel, fun _ _ _ _ _ _ us hl => match us, hl with | [_], _ => by with_unfolding_all rfl, ⟨100, fun call => by kernel_rfl⟩⟩
theorem g__law_mix : d__law_mix.good G := ⟨by decide +kernel, fun _ _ _ _ _ _ us hl => match us, hl with | [_, _, _], _ => by with_unfolding_all rfl, ⟨100, fun call => by kernel_rfl⟩⟩
theorem g__law_beats : d__law_beats.good G := ⟨by decide +kernel, fun _ _ _ _ _ _ us hl => match us, hl with | [_, _, _], _ => by with_unfolding_all rfl, ⟨100, fun call => by kernel_rfl⟩⟩
theorem g__law_common : d__law_common.good G := ⟨by decide +kernel, fun _ _ _ _ _ _ us hl => match us, hl with | [_, _], _ => by with_unfolding_all rfl, ⟨100, fun call => by kernel_rfl⟩⟩
theorem g__law_whole : d__law_whole.good G := ⟨by decide +kernel, fun _ _ _ _ _ _ us hl => match us, hl with | [_], _ => by with_unfolding_all rfl, ⟨100, fun call => by kernel_rfl⟩⟩
theorem g__law_is_free : d__law_is_free.good G := ⟨by decide +kernel, fun _ _ _ _ _ _ us hl => match us, hl with | [_, _], _ => by with_unfolding_all rfl, ⟨100, fun call => by kernel_rfl⟩⟩
theorem g_law : d_law.good G := ⟨by decide +kernel, fun _ _ _ _ _ _ us hl => match us, hl with | [_], _ => by with_unfolding_all rfl, ⟨100, fun call => by kernel_rfl⟩⟩
theorem good : ∀ d ∈ ds, d.good G := by
  intro d h
  simp only [ds, List.mem_cons, List.mem_singleton, List.not_mem_nil, or_false] at h
  rcases h with rfl | rfl | rfl | rfl | rfl | rfl | rfl | rfl | rfl | rfl | rfl | rfl | rfl | rfl | rfl | rfl | rfl | rfl | rfl | rfl | rfl | rfl | rfl | rfl
  · exact g_fraction
  · exact g_plus
  · exact g_minus
  · exact g_check_beats
  · exact g_check_moment
  · exact g_coefficients
  · exact g_merged
  · exact g_meeting_of
  · exact g_lists_of
  · exact g_count_to
  · exact g_met_lists
  · exact g_filled
  · exact g_share
  · exact g_is_free
  · exact g_free_from
  · exact g_first_free
  · exact g_do_fill
  · exact g__law_draws
  · exact g__law_mix
  · exact g__law_beats
  · exact g__law_common
  · exact g__law_whole
  · exact g__law_is_free
  · exact g_law
/-! ### the head -/
abbrev R : PySem.W.OpenRow := PySem.W.OpenLaw.row PySem.Challenge.rw_runattimes_k13_whole_times_that_beats_fi
def loose0 : List PySem.Str := ["ScheduleError", "TooMany", "BadTime", "BadSpan", "BadBeat", "fraction", "plus", "minus", "MOST_BEATS", "MOST_PERIOD", "MOST_TIME", "check_beats", "check_moment", "coefficients", "merged", "meeting_of", "lists_of", "count_to", "met_lists", "filled", "share", "is_free", "free_from", "first_free", "do_fill", "_law_draws", "_law_mix", "_law_beats", "_law_common", "_law_whole"]
def loose1 : List PySem.Str := ["_law_is_free"]
def loose : List PySem.Str := loose0 ++ loose1
abbrev hk : PySem.W.Hook := hookR P G (initW (top 2)) (ds.map Dd.at_) 5
def ob (s : PySem.W.SharedT) : AlR := obsRG P G (ds.map Dd.at_) 5 (HandSHeadRun.getT s)
theorem ob_eq (s : PySem.W.SharedT) : ob s = hk.obs s.abs := obsRG_eq (HandSHeadRun.getT_eq s)
theorem head_run (w : PySem.World) : HandSHeadRun.RunEqI R (PySem.W.view R.prog [0, 37]) hk ob 6000 loose w := by
  unfold HandSHeadRun.RunEqI
  kernel_rfl
theorem initE : ∃ (p1 p2 q1 q2 q3 q4 q5 q6 q7 q8 q9 q10 : Pos), (q3.endLine == q5.line) = true ∧ L2.defArgs (clsInit (top 2)) = eA p1 p2 ∧ L2.defBody (clsInit (top 2)) = eB q1 q2 q3 q4 q5 q6 q7 q8 q9 q10 ∧ L2.defScope (clsInit (top 2)) = eS := ⟨_, _, _, _, _, _, _, _, _, _, _, _, rfl, rfl, rfl, rfl⟩
end K13
open PySem PySem.W PySem.Calls PyProof.Rows
theorem K13.holds (plain : ∀ ns : List Int, ns.length ≤ 63 → Rt.run (Rt.tblT K13.ds) 60 23 [.scr ns] = .ok (.bl true, false)) : PySem.Challenge.rw_runattimes_k13_whole_times_that_beats_fi.Holds := by
  w_on; o_law
  refine HandSHeadRun.head_imp (r := OpenLaw.row PySem.Challenge.rw_runattimes_k13_whole_times_that_beats_fi) (q := view (OpenLaw.row PySem.Challenge.rw_runattimes_k13_whole_times_that_beats_fi).prog [0, 37]) (H := K13.hk) (ob := K13.ob) (M := 6000) (loose := K13.loose) (d := HandSHeadRun.topDef (OpenLaw.row PySem.Challenge.rw_runattimes_k13_whole_times_that_beats_fi).prog 37) (kwd := []) K13.ob_eq
    K13.head_run (by kernel_rfl) (by kernel_rfl) (by kernel_rfl) (by rfl) (by first | assumption | decide +kernel) (by decide +kernel) ⟨rfl, rfl, rfl, rfl, rfl, by decide +kernel⟩ ?hw ?hc
  case hw => w_witness2
  case hc => exact Rt.law_end (l := PySem.Challenge.rw_runattimes_k13_whole_times_that_beats_fi) (m := 60) (x := "script") (dL := K13.d_law) rfl (by kernel_rfl) (by decide) (by decide +kernel) K13.good K13.initE rfl (by kernel_rfl) (by decide +kernel) plain
end
section
set_option linter.all false
set_option autoImplicit false
set_option Elab.async false
set_option maxRecDepth 100000
set_option maxHeartbeats 4000000
namespace K13
open PySem Rt
open K12 (Hb Bt mod_iff hb_iff cfGo sub_mod cf cf_eq gcd_p per_lcm whole_lcm lcm_p mg mt lcmL Sp mt_app lcmL_app all_app mt_sp lcmL_pos allL allL_app allL_iff allL_len)
abbrev T := tblT ds
theorem mix (n : Nat) (xs : List Int) (k many : Int) (hk : 0 ≤ k) (hm : 0 < many) : run T (n + 1) 18 [.lst (xs.map .int), .int k, .int many] = .ok (.int (mixI xs k many), false) :=
  (run_at (f := d__law_mix.df) rfl _ rfl).trans (mix_body xs k many hk hm)
theorem draws (n : Nat) (s : List Int) (h : s.length ≤ 63) : ∃ ys : List Int, ys.length ≤ 3780 ∧ run T (n + 1) 17 [.scr s] = .ok (.lst (ys.map .int), true) := by
  obtain ⟨ys, h1, h2⟩ := draws_body s h
  exact ⟨ys, h1, (run_at (f := d__law_draws.df) rfl _ rfl).trans h2⟩
abbrev LI (l : List Int) : D := .lst (l.map .int)
abbrev LP (l : List P2) : D := .lst (l.map PR)
def oP : Option P2 → D
  | some p => PR p
  | none => .non
theorem pr0 (p : P2) : dIdx (PR p) (.int 0) = some (.int p.1) := rfl
theorem pr1 (p : P2) : dIdx (PR p) (.int 1) = some (.int p.2) := rfl
theorem mkF_pr (p : P2) (q : List Nat) : mkF (PR p) q = ⟨PR p, .fz, []⟩ := by cases q <;> rfl
theorem mkF_oP (o : Option P2) (q : List Nat) : mkF (oP o) q = ⟨oP o, .fz, []⟩ := by cases o <;> cases q <;> rfl
theorem isn_pr (p : P2) : cmpD .isn (PR p) .non = some true := rfl
theorem isn_non : cmpD .isn .non .non = some false := rfl
theorem is_pr (p : P2) : cmpD .is (PR p) .non = some false := rfl
theorem is_non : cmpD .is .non .non = some true := rfl
structure Bs (l : List P2) : Prop where
  bt : ∀ b ∈ l, Bt b
  p : 1 ≤ l.length
  n : l.length ≤ 6
def at_ (l : List P2) (i : Int) : P2 := l.getD i.toNat default
theorem at_mem {l : List P2} {i : Int} (h : 0 ≤ i) (h2 : i < l.length) : at_ l i ∈ l := by
  unfold at_
  rw [List.getD_eq_getElem?_getD, List.getElem?_eq_getElem (by omega : i.toNat < l.length)]
  exact List.getElem_mem _
theorem idx_at {l : List P2} {i : Int} (h : 0 ≤ i) (h2 : i < l.length) : dIdx (.lst (l.map PR)) (.int i) = some (PR (at_ l i)) := idx_map h h2
theorem zipR {β : Type} (l : List β) (d : β) : l.zipIdx 0 = (List.range l.length).map fun k => (l.getD k d, k) := by
  apply List.ext_getElem
  · simp
  · intro i h1 h2
    have hi : i < l.length := by simpa using h1
    simp [List.getD_eq_getElem?_getD, List.getElem?_eq_getElem hi]
def CB : Sm := (sIf (tOr (tNot (tOf (xChain (xCon (.int 1)) [(.le, (xVar 3)), (.le, (xCon (.int 1000)))]))) (tNot (tOf (xChain (xCon (.int 0)) [(.le, (xVar 2)), (.lt, (xVar 3))]))))
  (sRaise 3 (xVar 1))
  sPass)
theorem checkB (n : Nat) {l : List P2} (g : Bs l) : run T (n + 1) 3 [LP l] = .ok (.non, false) := by
  refine (run_at (f := d_check_beats.df) rfl _ rfl).trans ?_
  show ends (sSeq (sIf (tNot (tOf (xChain (xCon (.int 1)) [(.le, (xBi bLen [(xVar 0)])), (.le, (xCon (.int 6)))]))) (sRaise 0 (xBi bLen [(xVar 0)])) sPass) (sFor (gTup [(gName 1), (gTup [(gName 2), (gName 3)])]) (iEnum (xVar 0)) CB) [some (LP l, false), none, none, none]) = _
  have nm := numbered_map PR l 0
  rw [zipR l default, List.map_map] at nm
  obtain ⟨σ', e, r⟩ := for_ind (g := gTup [(gName 1), (gTup [(gName 2), (gName 3)])]) (b := CB) (f := (fun p : P2 × Nat => D.tup [.int p.2, PR p.1]) ∘ fun k => (l.getD k default, k)) (l := List.range l.length) (fun pre σ => ∃ o1 o2 o3 : Slot, σ = [some (LP l, false), o1, o2, o3]) (by
    rintro pre k post σ ep ⟨o1, o2, o3, rfl⟩
    have hk : k < l.length := List.mem_range.mp (by rw [ep]; simp)
    have bt := g.bt _ (at_mem (l := l) (i := (k : Int)) (by omega) (by omega))
    unfold at_ at bt
    rw [Int.toNat_natCast] at bt
    simp only [Function.comp_apply]
    generalize l.getD k default = p at *
    obtain ⟨p1, p2, o0, o1'⟩ := bt
    refine ⟨[some (LP l, false), some (.int k, false), some (.int p.1, false), some (.int p.2, false)], ?_, _, _, _, rfl⟩
    simp [stp, CB, PR, p1, p2, o0, o1']) (σ := [some (LP l, false), none, none, none]) ⟨none, none, none, rfl⟩
  rw [← nm] at e
  obtain ⟨o1, o2, o3, rfl⟩ := r
  have a : (1 : Int) ≤ l.length := by have := g.p; omega
  have b : (l.length : Int) ≤ 6 := by have := g.n; omega
  simp [a, b, -List.map_map, e]
theorem checkM (n : Nat) {x : Int} (h : 0 ≤ x) (h2 : x < 1000000000000) : run T (n + 1) 4 [.int x] = .ok (.non, false) := by
  refine (run_at (f := d_check_moment.df) rfl _ rfl).trans ?_
  show ends (b_check_moment (run T n) (begin_ 1 [.int x])) = _
  simp [b_check_moment, begin_, h, h2]
/-! Euclid -/
def ET : Tst := (tOf (xCmp .gt (xVar 3) (xCon (.int 0))))
def EB : Sm := (sSeq (sSet 6 (xBin dDiv (xVar 2) (xVar 3)))
  (sSeq (sPar 2 3 (xVar 3) (xBin dSub (xVar 2) (xBin dMul (xVar 6) (xVar 3))))
  (sPar 4 5 (xVar 5) (xBin dSub (xVar 4) (xBin dMul (xVar 6) (xVar 5))))))
theorem eGo {a0 a1 : Slot} : ∀ (n : Nat) (l r f s : Int) (o6 : Slot) (fu : Nat), 0 ≤ r → r < n → n ≤ fu → (0 ≤ l ∧ l < 2 ^ 62) → r < 2 ^ 62 → ∃ (r' s' : Int) (p6 : Slot), whileGo ET EB fu [a0, a1, some (.int l, false), some (.int r, false), some (.int f, false), some (.int s, false), o6] = .nx [a0, a1, some (.int (cfGo n l r f s).1, false), some (.int r', false), some (.int (cfGo n l r f s).2, false), some (.int s', false), p6]
  | 0, l, r, f, s, o6, fu, h0, h1, _, _, _ => by omega
  | n + 1, l, r, f, s, o6, 0, _, _, h, _, _ => by omega
  | n + 1, l, r, f, s, o6, fu + 1, h0, h1, h2, h3, h4 => by
    unfold cfGo
    by_cases c : 0 < r
    · rw [if_pos c]
      have m0 := Int.emod_nonneg l (by omega : r ≠ 0)
      have m1 := Int.emod_lt_of_pos l c
      have q0 : 0 ≤ l / r := Int.ediv_nonneg h3.1 (by omega)
      have q1 : l / r ≤ l := Int.ediv_le_self _ h3.1
      have dv : dDiv (.int l) (.int r) = some (.int (l / r), false) := div_s c (by omega)
      have d1 : dMul (.int (l / r)) (.int r) = some (.int (l / r * r), false) := mul_r (by omega) (by omega)
      have d2 : dMul (.int (l / r)) (.int s) = some (.int (l / r * s), false) := mul_l (by omega) (by omega)
      obtain ⟨r', s', p6, e⟩ := eGo (a0 := a0) (a1 := a1) n r (l - l / r * r) s (f - l / r * s) (some (.int (l / r), false)) fu (by rw [sub_mod]; exact m0) (by rw [sub_mod]; omega) (by omega) ⟨h0, h4⟩ (by rw [sub_mod]; omega)
      refine ⟨r', s', p6, ?_⟩
      rw [go_step (σ' := [a0, a1, some (.int r, false), some (.int (l - l / r * r), false), some (.int s, false), some (.int (f - l / r * s), false), some (.int (l / r), false)]) (by simp [ET, c]) ?_, e]
      generalize l / r = q at *
      simp [EB, sPar, dv, d1, d2]
    · rw [if_neg c]
      exact ⟨r, s, o6, go_end (by simp [ET, c])⟩
theorem coef (n : Nat) {a b : Int} (ha : 0 ≤ a) (ha2 : a < 2 ^ 62) (hb : 0 ≤ b) (hb2 : b ≤ 1000) : run T (n + 1) 5 [.int a, .int b] = .ok (.tup [.int (Int.gcd a b : Int), .int (cf a b)], false) := by
  refine (run_at (f := d_coefficients.df) rfl _ rfl).trans ?_
  show ends (sSeq (sPar 2 3 (xVar 0) (xVar 1)) (sSeq (sPar 4 5 (xCon (.int 1)) (xCon (.int 0))) (sSeq (sWhile ET EB) (sRet (xTup [(false, (xVar 2)), (false, (xVar 4))])))) [some (.int a, false), some (.int b, false), none, none, none, none, none]) = _
  obtain ⟨r', s', p6, e⟩ := eGo (a0 := some (.int a, false)) (a1 := some (.int b, false)) 1001 a b 1 0 none fuel hb (by omega) (by decide) ⟨ha, ha2⟩ (by omega)
  have wh : sWhile ET EB [some (.int a, false), some (.int b, false), some (.int a, false), some (.int b, false), some (.int 1, false), some (.int 0, false), none] = _ := e
  rw [(cf_eq ha hb hb2).1, show (cfGo 1001 a b 1 0).2 = cf a b from rfl] at wh
  generalize (Int.gcd a b : Int) = g at *
  generalize cf a b = t at *
  simp [sPar, wh, le2_]
/-! two beats, many beats -/
theorem merged (n : Nat) {a b : P2} (a1 : 1 ≤ a.2) (a2 : a.2 < 2 ^ 61) (a3 : 0 ≤ a.1) (a4 : a.1 < a.2) (g : Bt b) : run T (n + 2) 6 [PR a, PR b] = .ok (oP (mg a b), false) := by
  refine (run_at (f := d_merged.df) rfl _ rfl).trans ?_
  show ends (b_merged (run T (n + 1)) (begin_ 6 [PR a, PR b])) = _
  obtain ⟨b1, b2, b3, b4⟩ := g
  have e := coef n (a := a.2) (b := b.2) (by omega) (by omega) (by omega) b2
  have g0 := gcd_p (a := a.2) (b := b.2) a1
  have g1 : (Int.gcd a.2 b.2 : Int) ∣ b.2 := Int.gcd_dvd_right ..
  have g2 := Int.le_of_dvd (by omega) g1
  have pe := lcm_p a1 b1
  rw [← per_lcm a1 b1] at pe
  have i0 := pr0 a
  have i1 := pr1 a
  have j0 := pr0 b
  have j1 := pr1 b
  have md : dMod (.int (b.1 - a.1)) (.int (Int.gcd a.2 b.2 : Int)) = _ := mod_s g0
  have dv : dDiv (.int a.2) (.int (Int.gcd a.2 b.2 : Int)) = _ := div_s g0 (by omega)
  have dg : dDiv (.int (b.1 - a.1)) (.int (Int.gcd a.2 b.2 : Int)) = _ := div_s g0 (by omega)
  have mu : dMul (.int (a.2 / (Int.gcd a.2 b.2 : Int))) (.int b.2) = _ := mul_r (by omega) (by omega)
  have na := Int.natAbs_ediv_le_natAbs (b.1 - a.1) (Int.gcd a.2 b.2 : Int)
  have m1 : dMul (.int ((b.1 - a.1) / (Int.gcd a.2 b.2 : Int))) (.int (cf a.2 b.2)) = _ := mul_l (by omega) (by omega)
  have m2 : dMul (.int ((b.1 - a.1) / (Int.gcd a.2 b.2 : Int) * cf a.2 b.2)) (.int a.2) = _ := mul_r (by omega) (by omega)
  have m3 : dMod (.int (a.1 + (b.1 - a.1) / (Int.gcd a.2 b.2 : Int) * cf a.2 b.2 * a.2)) (.int (a.2 / (Int.gcd a.2 b.2 : Int) * b.2)) = _ := mod_s (by omega)
  unfold mg
  generalize (Int.gcd a.2 b.2 : Int) = w at *
  generalize cf a.2 b.2 = t at *
  generalize hA : PR a = A at *
  generalize hB : PR b = B at *
  by_cases c : (b.1 - a.1) % w = 0
  · rw [if_pos c]
    show _ = Rt.R.ok (D.tup [.int _, .int _], false)
    rw [c] at md
    simp [b_merged, begin_, i0, i1, j0, j1, e, md, dv, mu, dg, m1, m2, m3, le2_]
  · rw [if_neg c]
    show _ = Rt.R.ok (D.non, false)
    simp [b_merged, begin_, i0, i1, j0, j1, e, md, c]
theorem lcm_le_mul {x y : Int} (hx : 1 ≤ x) (hy : 1 ≤ y) : (Int.lcm x y : Int) ≤ x * y :=
  Int.le_of_dvd (Int.mul_pos (by omega) (by omega)) (Int.lcm_dvd_mul x y)
theorem fold_le : ∀ (l : List P2) (L : Int), 1 ≤ L → (∀ b ∈ l, Bt b) → l.foldl (fun L b => (Int.lcm L b.2 : Int)) L ≤ L * 1000 ^ l.length
  | [], L, h, _ => by simp
  | b :: l, L, h, g => by
    obtain ⟨b1, b2, _, _⟩ := g b List.mem_cons_self
    have a := fold_le l _ (lcm_p h b1) fun x hx => g x (List.mem_cons_of_mem _ hx)
    have c := lcm_le_mul h b1
    have d : L * b.2 ≤ L * 1000 := Int.mul_le_mul_of_nonneg_left b2 (by omega)
    have e : (Int.lcm L b.2 : Int) * 1000 ^ l.length ≤ L * 1000 * 1000 ^ l.length := Int.mul_le_mul_of_nonneg_right (by omega) (Int.le_of_lt (Int.pow_pos (by decide)))
    rw [List.foldl_cons, List.length_cons, Int.pow_succ, Int.mul_comm (1000 ^ l.length), ← Int.mul_assoc]
    exact Int.le_trans a e
theorem lcmL_bd {l : List P2} (g : ∀ b ∈ l, Bt b) (h : l.length ≤ 6) : 1 ≤ lcmL l ∧ lcmL l ≤ 1000000000000000000 := by
  refine ⟨lcmL_pos l 1 (by decide) g, ?_⟩
  have a : lcmL l ≤ 1 * 1000 ^ l.length := fold_le l 1 (by decide) g
  have b : (1000 : Int) ^ l.length ≤ 1000 ^ 6 := by
    generalize l.length = n at *
    have : n = 0 ∨ n = 1 ∨ n = 2 ∨ n = 3 ∨ n = 4 ∨ n = 5 ∨ n = 6 := by omega
    rcases this with rfl | rfl | rfl | rfl | rfl | rfl | rfl <;> decide
  have c : (1000 : Int) ^ 6 = 1000000000000000000 := by decide
  omega
theorem mt_bd {l : List P2} (g : ∀ b ∈ l, Bt b) (h : l.length ≤ 6) {c : P2} (e : mt l = some c) : (0 ≤ c.1 ∧ c.1 < c.2) ∧ 1 ≤ c.2 ∧ c.2 ≤ 1000000000000000000 ∧ c.2 = lcmL l := by
  have s := mt_sp g
  rw [e] at s
  obtain ⟨s1, s2, _⟩ := s
  have := lcmL_bd g h
  exact ⟨s1, by omega, by omega, s2⟩
def MB (call : Nat → Rt.Fn) : Sm := (sIf (tOf (xCmp .isn (xVar 1) (xCon .non)))
  (sSet 1 (xCall (call 6) [(xVar 1), (xVar 2)]))
  sPass)
theorem meetOf (n : Nat) {l : List P2} (g : ∀ b ∈ l, Bt b) (h : l.length ≤ 6) : run T (n + 3) 7 [LP l] = .ok (oP (mt l), false) := by
  refine (run_at (f := d_meeting_of.df) rfl _ rfl).trans ?_
  show ends (sSeq (sSet 1 (xTup [(false, (xCon (.int 0))), (false, (xCon (.int 1)))])) (sSeq (sFor (gName 2) (iSeq (xVar 0)) (MB (run T (n + 2)))) (sRet (xVar 1))) [some (LP l, false), none, none]) = _
  obtain ⟨σ', e, r⟩ := for_ind (g := gName 2) (b := MB (run T (n + 2))) (f := PR) (l := l) (fun pre σ => ∃ o2 : Slot, σ = [some (LP l, false), some (oP (mt pre), false), o2]) (by
    rintro pre b post σ ep ⟨o2, rfl⟩
    have pl := congrArg List.length ep
    simp at pl
    have gp : ∀ b ∈ pre, Bt b := fun x hx => g x (by rw [ep]; exact List.mem_append_left _ hx)
    have gb : Bt b := g b (by rw [ep]; simp)
    refine ⟨[some (LP l, false), some (oP (mt (pre ++ [b])), false), some (PR b, false)], ?_, _, rfl⟩
    rw [mt_app]
    cases q : mt pre with
    | none =>
      show _ = O.nx [some (LP l, false), some (D.non, false), some (PR b, false)]
      show stp _ _ _ [some (LP l, false), some (D.non, false), o2] = _
      generalize PR b = B at *
      simp only [LP]
      generalize l.map PR = LM at *
      simp [stp, MB, isn_non]
    | some c =>
      obtain ⟨c1, c2, c3, _⟩ := mt_bd gp (by omega) q
      have m := merged n (a := c) (b := b) c2 (by omega) c1.1 c1.2 gb
      have mk := mkF_oP (mg c b)
      have ic := isn_pr c
      show _ = O.nx [some (LP l, false), some (oP (mg c b), false), some (PR b, false)]
      show stp _ _ _ [some (LP l, false), some (PR c, false), o2] = _
      generalize oP (mg c b) = R at *
      generalize PR b = B at *
      generalize PR c = C at *
      simp only [LP]
      generalize l.map PR = LM at *
      simp [stp, MB, ic, m, mk]) (σ := [some (LP l, false), some (.tup [.int 0, .int 1], false), none]) ⟨none, rfl⟩
  obtain ⟨o2, rfl⟩ := r
  have mk := mkF_oP (mt l)
  generalize oP (mt l) = R at *
  simp only [LP] at *
  generalize l.map PR = LM at *
  simp [le2_, e]
theorem filter_all {β : Type} (l : List β) : l.filter (fun _ => true) = l := List.filter_eq_self.mpr fun _ _ => rfl
abbrev LL (F : List (List P2)) : D := .lst (F.map LP)
theorem all_len_le {l : List P2} (h : l.length ≤ 6) : (allL l).length ≤ 64 := by
  rw [allL_len]
  generalize l.length = n at *
  have : n = 0 ∨ n = 1 ∨ n = 2 ∨ n = 3 ∨ n = 4 ∨ n = 5 ∨ n = 6 := by omega
  rcases this with rfl | rfl | rfl | rfl | rfl | rfl | rfl <;> decide
theorem l1_ : (1 : Nat) ≤ line := by decide
theorem l0_ : (0 : Nat) ≤ line := by decide
def AB : Sm := (sSet 1 (xBin dAdd (xVar 1) (xLC [3] (iSeq (xVar 1)) (gName 3) tYesD (xLst [(true, (xVar 3)), (false, (xVar 2))]))))
theorem listsP (n : Nat) {l : List P2} (h : l.length ≤ 6) : run T (n + 1) 8 [LP l] = .ok (LL (allL l), true) := by
  refine (run_at (f := d_lists_of.df) rfl _ rfl).trans ?_
  show ends (sSeq (sSet 1 (xLst [(false, (xLst []))])) (sSeq (sFor (gName 2) (iSeq (xVar 0)) AB) (sRet (xVar 1))) [some (LP l, false), none, none, none]) = _
  obtain ⟨σ', e, r⟩ := for_ind (g := gName 2) (b := AB) (f := PR) (l := l) (fun pre σ => ∃ o2 : Slot, σ = [some (LP l, false), some (LL (allL pre), true), o2, none]) (by
    rintro pre b post σ ep ⟨o2, rfl⟩
    have pl := congrArg List.length ep
    simp at pl
    have al := all_len_le (l := pre) (by omega)
    have al2 := all_len_le (l := pre ++ [b]) (by simp; omega)
    have sub : ∀ t ∈ allL pre, t.length ≤ 6 := fun t ht => by
      have := ((allL_iff pre t).mp ht).length_le
      omega
    refine ⟨[some (LP l, false), some (LL (allL (pre ++ [b])), true), some (PR b, false), none], ?_, _, rfl⟩
    have lc := lc_fmN (own := [3]) (g := gName 3) (t := tYesD) (e := (xLst [(true, (xVar 3)), (false, (xVar 2))])) (σ := [some (LP l, false), some (LL (allL pre), true), some (PR b, false), none]) LP (fun _ => true) (fun t => LP (t ++ [b])) (allL pre) (fun t ht => ⟨[some (LP l, false), some (LL (allL pre), true), some (PR b, false), some (LP t, false)], by simp, rfl, fun _ => by
      have z : t.length + 1 ≤ line := by have := sub t ht; rw [line_val]; omega
      have ap : (t ++ [b]).map PR = t.map PR ++ [PR b] := by rw [List.map_append]; rfl
      have zz : (t.map PR ++ [PR b]).length ≤ line := by rw [List.length_append, List.length_map]; exact z
      simp only [LP]
      rw [ap]
      generalize (allL pre).map LP = AM at *
      generalize l.map PR = LM at *
      generalize PR b = B at *
      generalize t.map PR = TM at *
      have zz2 : TM.length + 1 ≤ line := by simpa using zz
      simp [zz2]⟩)
    rw [filter_all] at lc
    have lm : (allL pre).map (fun t => LP (t ++ [b])) = ((allL pre).map fun t => t ++ [b]).map LP := by rw [List.map_map]; rfl
    rw [lm] at lc
    have e2 : (allL (pre ++ [b])).map LP = (allL pre).map LP ++ ((allL pre).map fun t => t ++ [b]).map LP := by rw [allL_app, List.map_append]
    have zm : (((allL pre).map fun t => t ++ [b]).map LP).length ≤ line := by rw [List.length_map, List.length_map, line_val]; omega
    have zs : ((allL pre).map LP).length + (((allL pre).map fun t => t ++ [b]).map LP).length ≤ line := by rw [List.length_map, List.length_map, List.length_map, line_val]; omega
    have ad := dAdd_lst zs
    simp only [LL] at *
    rw [e2]
    generalize ((allL pre).map fun t => t ++ [b]).map LP = BM at *
    generalize (allL pre).map LP = AM at *
    simp only [LP] at *
    generalize l.map PR = LM at *
    generalize PR b = B at *
    simp [stp, AB, lc, zm, ad]) (σ := [some (LP l, false), some (LL [[]], true), none, none]) ⟨none, rfl⟩
  obtain ⟨o2, rfl⟩ := r
  simp only [LL] at *
  generalize (allL l).map LP = AM at *
  simp only [LP, List.map_cons, List.map_nil] at *
  generalize l.map PR = LM at *
  simp [l1_, l0_, e]
theorem mxn (n : Nat) (xs : List Int) (k many : Int) (hk : 0 ≤ k) (hm : 0 < many) : ∃ m : Int, 0 ≤ m ∧ m < many ∧ run T (n + 1) 18 [.lst (xs.map .int), .int k, .int many] = .ok (.int m, false) :=
  ⟨mixI xs k many, mixI_nn hm, mixI_lt hm, mix n xs k many hk hm⟩
/-! the common divisor, the whole period, the starts -/
def GT : Tst := (tOf (xCmp .gt (xVar 1) (xCon (.int 0))))
def GB : Sm := (sPar 0 1 (xVar 1) (xBin dMod (xBi bInt [(xVar 0)]) (xVar 1)))
theorem gGo : ∀ (n : Nat) (a b : Int) (fu : Nat), 0 ≤ b → b < n → n ≤ fu → 0 ≤ a → whileGo GT GB fu [some (.int a, false), some (.int b, false)] = .nx [some (.int (Int.gcd a b : Int), false), some (.int 0, false)]
  | 0, a, b, fu, h0, h1, _, _ => by omega
  | n + 1, a, b, 0, _, _, h, _ => by omega
  | n + 1, a, b, fu + 1, h0, h1, h2, h3 => by
    by_cases c : 0 < b
    · have m0 := Int.emod_nonneg a (by omega : b ≠ 0)
      have m1 := Int.emod_lt_of_pos a c
      have md : dMod (.int a) (.int b) = some (.int (a % b), false) := mod_s c
      have e := gGo n b (a % b) fu m0 (by omega) (by omega) h0
      rw [gcd_mod] at e
      rw [go_step (σ' := [some (.int b, false), some (.int (a % b), false)]) (by simp [GT, c]) ?_, e]
      generalize a % b = q at *
      simp [GB, sPar, md]
    · have : b = 0 := by omega
      subst this
      have g : (Int.gcd a 0 : Int) = a := by rw [Int.gcd_zero_right]; omega
      rw [g]
      exact go_end (by simp [GT])
theorem lawCommon (n : Nat) {a b : Int} (ha : 0 ≤ a) (hb : 0 ≤ b) (h2 : b ≤ 1000) : run T (n + 1) 20 [.int a, .int b] = .ok (.int (Int.gcd a b : Int), false) := by
  refine (run_at (f := d__law_common.df) rfl _ rfl).trans ?_
  show ends (sSeq (sWhile GT GB) (sRet (xVar 0)) [some (.int a, false), some (.int b, false)]) = _
  have wh : sWhile GT GB [some (.int a, false), some (.int b, false)] = _ := gGo 1001 a b fuel hb (by omega) (by decide) ha
  generalize (Int.gcd a b : Int) = g at *
  simp [wh]
theorem lawWhole (n : Nat) {l : List P2} (g : Bs l) : run T (n + 2) 21 [LP l] = .ok (.int (lcmL l), false) := by
  refine (run_at (f := d__law_whole.df) rfl _ rfl).trans ?_
  show ends (sSeq (sSet 1 (xCon (.int 1))) (sSeq (sFor (gName 2) (iSeq (xVar 0)) (sSet 1 (xBin dDiv (xBin dMul (xVar 1) (xIdx (xVar 2) (xCon (.int 1)))) (xCall (run T (n + 1) 20) [(xVar 1), (xIdx (xVar 2) (xCon (.int 1)))])))) (sRet (xVar 1))) [some (LP l, false), none, none]) = _
  obtain ⟨σ', e, r⟩ := for_ind (g := gName 2) (b := (sSet 1 (xBin dDiv (xBin dMul (xVar 1) (xIdx (xVar 2) (xCon (.int 1)))) (xCall (run T (n + 1) 20) [(xVar 1), (xIdx (xVar 2) (xCon (.int 1)))])))) (f := PR) (l := l) (fun pre σ => ∃ o2 : Slot, σ = [some (LP l, false), some (.int (lcmL pre), false), o2]) (by
    rintro pre b post σ ep ⟨o2, rfl⟩
    have pl := congrArg List.length ep
    simp at pl
    have gn := g.n
    have gp : ∀ b ∈ pre, Bt b := fun x hx => g.bt x (by rw [ep]; exact List.mem_append_left _ hx)
    obtain ⟨b1, b2, _, _⟩ := g.bt b (by rw [ep]; simp)
    have lb := lcmL_bd gp (by omega)
    have e := lawCommon n (a := lcmL pre) (b := b.2) (by omega) (by omega) b2
    have mu : dMul (.int (lcmL pre)) (.int b.2) = _ := mul_r (by omega) (by omega)
    have g0 := gcd_p (a := lcmL pre) (b := b.2) lb.1
    have g2 : (Int.gcd (lcmL pre) b.2 : Int) ≤ b.2 := Int.le_of_dvd (by omega) (Int.gcd_dvd_right ..)
    have dv : dDiv (.int (lcmL pre * b.2)) (.int (Int.gcd (lcmL pre) b.2 : Int)) = _ := div_s g0 (by omega)
    rw [whole_lcm lb.1 b1] at dv
    have i1 := pr1 b
    refine ⟨[some (LP l, false), some (.int (lcmL (pre ++ [b])), false), some (PR b, false)], ?_, _, rfl⟩
    rw [lcmL_app]
    generalize (Int.lcm (lcmL pre) b.2 : Int) = z at *
    generalize (Int.gcd (lcmL pre) b.2 : Int) = w at *
    generalize lcmL pre = y at *
    generalize PR b = B at *
    simp only [LP] at *
    generalize l.map PR = LM at *
    simp [stp, i1, e, mu, dv]) (σ := [some (LP l, false), some (.int 1, false), none]) ⟨none, rfl⟩
  obtain ⟨o2, rfl⟩ := r
  simp only [LP] at *
  generalize l.map PR = LM at *
  simp [e]
/-! the law's beats -/
theorem idx7 (m : Int) (h : 0 ≤ m) (k : m < 7) : ∃ v : Int, 1 ≤ v ∧ v ≤ 24 ∧ dIdx (.lst [.int 2, .int 3, .int 4, .int 6, .int 8, .int 12, .int 24]) (.int m) = some (.int v) := by
  have : m = 0 ∨ m = 1 ∨ m = 2 ∨ m = 3 ∨ m = 4 ∨ m = 5 ∨ m = 6 := by omega
  rcases this with rfl | rfl | rfl | rfl | rfl | rfl | rfl
  · exact ⟨2, by decide, by decide, rfl⟩
  · exact ⟨3, by decide, by decide, rfl⟩
  · exact ⟨4, by decide, by decide, rfl⟩
  · exact ⟨6, by decide, by decide, rfl⟩
  · exact ⟨8, by decide, by decide, rfl⟩
  · exact ⟨12, by decide, by decide, rfl⟩
  · exact ⟨24, by decide, by decide, rfl⟩
def HA (call : Nat → Rt.Fn) : Sm := (sSet 5 (xIdx (xLst [(false, (xBin dAdd (xCon (.int 1)) (xCall (call 18) [(xVar 0), (xBin dAdd (xBin dAdd (xVar 1) (xBin dMul (xCon (.int 3)) (xVar 4))) (xCon (.int 2))), (xVar 2)]))), (false, (xIdx (xLst [(false, (xCon (.int 2))), (false, (xCon (.int 3))), (false, (xCon (.int 4))), (false, (xCon (.int 6))), (false, (xCon (.int 8))), (false, (xCon (.int 12))), (false, (xCon (.int 24)))]) (xCall (call 18) [(xVar 0), (xBin dAdd (xBin dAdd (xVar 1) (xBin dMul (xCon (.int 3)) (xVar 4))) (xCon (.int 2))), (xCon (.int 7))])))]) (xCall (call 18) [(xVar 0), (xBin dAdd (xVar 1) (xCon (.int 1))), (xCon (.int 2))])))
def HB (call : Nat → Rt.Fn) : Sm := (sSet 6 (xCall (call 18) [(xVar 0), (xBin dAdd (xBin dAdd (xVar 1) (xBin dMul (xCon (.int 3)) (xVar 4))) (xCon (.int 3))), (xVar 5)]))
def HC (call : Nat → Rt.Fn) : Sm := (sIf (tAnd (tOf (xCmp .gt (xVar 4) (xCon (.int 0)))) (tOf (xCmp .eq (xCall (call 18) [(xVar 0), (xBin dAdd (xBin dAdd (xVar 1) (xBin dMul (xCon (.int 3)) (xVar 4))) (xCon (.int 4))), (xCon (.int 3))]) (xCon (.int 0)))))
  (sSet 6 (xBin dMod (xBi bInt [(xIdx (xIdx (xVar 3) (xCon (.int 0))) (xCon (.int 0)))]) (xVar 5)))
  sPass)
def HD : Sm := (sApp 3 (xTup [(false, (xVar 6)), (false, (xVar 5))]))
def HH (call : Nat → Rt.Fn) : Sm := sSeq (HA call) (sSeq (HB call) (sSeq (HC call) HD))
theorem ha_ (n : Nat) (ys : List Int) {k wide t : Int} {a3 a5 a6 : Slot} (k0 : 0 ≤ k) (w0 : 1 ≤ wide) (w1 : wide ≤ 1000) (t0 : 0 ≤ t) (t1 : t < 6) : ∃ σ', HA (run T (n + 1)) [some (LI ys, false), some (.int k, false), some (.int wide, false), a3, some (.int t, false), a5, a6] = .nx σ' ∧ ∃ p : Int, 1 ≤ p ∧ p ≤ 1000 ∧ σ' = [some (LI ys, false), some (.int k, false), some (.int wide, false), a3, some (.int t, false), some (.int p, false), a6] := by
  have mu : dMul (.int 3) (.int t) = some (.int (3 * t), false) := mul_r (by omega) (by omega)
  obtain ⟨m, m0, m1, em⟩ := mxn n ys (k + 3 * t + 2) wide (by omega) (by omega)
  obtain ⟨c, c0, c1, ec⟩ := mxn n ys (k + 3 * t + 2) 7 (by omega) (by omega)
  obtain ⟨d, d0, d1, ed⟩ := mxn n ys (k + 1) 2 (by omega) (by omega)
  obtain ⟨v, v0, v1, ev⟩ := idx7 c c0 c1
  have ix := idx2 (1 + m) v d d0 d1
  have g2 := getD2 (1 + m) v d d0 d1
  generalize ([1 + m, v] : List Int).getD d.toNat 0 = p at *
  have l7 : (7 : Nat) ≤ line := by decide
  refine ⟨[some (LI ys, false), some (.int k, false), some (.int wide, false), a3, some (.int t, false), some (.int p, false), a6], ?_, p, by omega, by omega, rfl⟩
  simp only [LI] at *
  generalize ys.map D.int = YM at *
  simp [HA, mu, em, ec, ed, l7, ev, le2_, ix]
theorem hb_ (n : Nat) (ys : List Int) {k p t : Int} {a2 a3 a6 : Slot} (k0 : 0 ≤ k) (p0 : 1 ≤ p) (t0 : 0 ≤ t) (t1 : t < 6) : ∃ σ', HB (run T (n + 1)) [some (LI ys, false), some (.int k, false), a2, a3, some (.int t, false), some (.int p, false), a6] = .nx σ' ∧ ∃ o : Int, 0 ≤ o ∧ o < p ∧ σ' = [some (LI ys, false), some (.int k, false), a2, a3, some (.int t, false), some (.int p, false), some (.int o, false)] := by
  have mu : dMul (.int 3) (.int t) = some (.int (3 * t), false) := mul_r (by omega) (by omega)
  obtain ⟨m, m0, m1, em⟩ := mxn n ys (k + 3 * t + 3) p (by omega) (by omega)
  refine ⟨[some (LI ys, false), some (.int k, false), a2, a3, some (.int t, false), some (.int p, false), some (.int m, false)], ?_, m, m0, m1, rfl⟩
  simp only [LI] at *
  generalize ys.map D.int = YM at *
  simp [HB, mu, em]
theorem hc_ (n : Nat) (ys : List Int) {k p t o : Int} {a2 : Slot} {F : List P2} (k0 : 0 ≤ k) (p0 : 1 ≤ p) (t0 : 0 ≤ t) (t1 : t < 6) (fl : (F.length : Int) = t) (o0 : 0 ≤ o) (o1 : o < p) : ∃ σ', HC (run T (n + 1)) [some (LI ys, false), some (.int k, false), a2, some (LP F, true), some (.int t, false), some (.int p, false), some (.int o, false)] = .nx σ' ∧ ∃ q : Int, 0 ≤ q ∧ q < p ∧ σ' = [some (LI ys, false), some (.int k, false), a2, some (LP F, true), some (.int t, false), some (.int p, false), some (.int q, false)] := by
  have mu : dMul (.int 3) (.int t) = some (.int (3 * t), false) := mul_r (by omega) (by omega)
  obtain ⟨m, m0, m1, em⟩ := mxn n ys (k + 3 * t + 4) 3 (by omega) (by omega)
  by_cases c : 0 < t
  · by_cases d : m = 0
    · have i0 := idx_at (l := F) (i := 0) (by omega) (by omega)
      have j0 := pr0 (at_ F 0)
      have mk := mkF_pr (at_ F 0)
      have md : dMod (.int (at_ F 0).1) (.int p) = some (.int ((at_ F 0).1 % p), false) := mod_s (by omega)
      refine ⟨[some (LI ys, false), some (.int k, false), a2, some (LP F, true), some (.int t, false), some (.int p, false), some (.int ((at_ F 0).1 % p), false)], ?_, _, Int.emod_nonneg _ (by omega), Int.emod_lt_of_pos _ (by omega), rfl⟩
      generalize (at_ F 0).1 % p = z at *
      generalize (at_ F 0).1 = y at *
      generalize PR (at_ F 0) = B at *
      simp only [LI, LP] at *
      generalize ys.map D.int = YM at *
      generalize F.map PR = FM at *
      simp [HC, c, mu, em, d, i0, j0, md, mk]
    · refine ⟨_, ?_, o, o0, o1, rfl⟩
      simp only [LI, LP] at *
      generalize ys.map D.int = YM at *
      generalize F.map PR = FM at *
      simp [HC, c, mu, em, d]
  · refine ⟨_, ?_, o, o0, o1, rfl⟩
    simp only [LI, LP] at *
    generalize ys.map D.int = YM at *
    generalize F.map PR = FM at *
    simp [HC, c]
theorem hd_ {a0 a1 a2 a4 : Slot} {F : List P2} {o p : Int} (fl : F.length ≤ 6) : HD [a0, a1, a2, some (LP F, true), a4, some (.int p, false), some (.int o, false)] = .nx [a0, a1, a2, some (LP (F ++ [(o, p)]), true), a4, some (.int p, false), some (.int o, false)] := by
  have ap : (F ++ [(o, p)]).map PR = F.map PR ++ [.tup [.int o, .int p]] := by rw [List.map_append]; rfl
  have z : (F.map PR).length < line := by rw [List.length_map, line_val]; omega
  simp only [LP] at *
  rw [ap]
  generalize F.map PR = FM at *
  simp [HD, le2_, z]
theorem lawBeats (n : Nat) (ys : List Int) {k wide : Int} (k0 : 0 ≤ k) (w0 : 1 ≤ wide) (w1 : wide ≤ 1000) : ∃ l, Bs l ∧ run T (n + 2) 19 [LI ys, .int k, .int wide] = .ok (LP l, true) := by
  obtain ⟨c, c0, c1, ec⟩ := mxn n ys k 6 k0 (by decide)
  obtain ⟨σ', e, r⟩ := for_upto (g := gName 4) (b := HH (run T (n + 1))) (lo := 0) (n := (1 + c).toNat) (fun j σ => ∃ (F : List P2) (o4 o5 o6 : Slot), (∀ b ∈ F, Bt b) ∧ F.length = j ∧ σ = [some (LI ys, false), some (.int k, false), some (.int wide, false), some (LP F, true), o4, o5, o6]) (by
    rintro j σ hj ⟨F, o4, o5, o6, gF, fl, rfl⟩
    rw [Int.zero_add]
    have un : stp (gName 4) (HH (run T (n + 1))) (.int (j : Int)) [some (LI ys, false), some (.int k, false), some (.int wide, false), some (LP F, true), o4, o5, o6] = HH (run T (n + 1)) [some (LI ys, false), some (.int k, false), some (.int wide, false), some (LP F, true), some (.int (j : Int), false), o5, o6] := by simp [stp]
    rw [un]
    refine seq_nx (ha_ n ys k0 w0 w1 (by omega) (by omega)) ?_
    rintro _ ⟨p, p0, p1, rfl⟩
    refine seq_nx (hb_ n ys k0 p0 (by omega) (by omega)) ?_
    rintro _ ⟨o, oo0, oo1, rfl⟩
    refine seq_nx (hc_ n ys (F := F) k0 p0 (by omega) (by omega) (by omega) oo0 oo1) ?_
    rintro _ ⟨q, q0, q1, rfl⟩
    refine ⟨_, hd_ (by omega), F ++ [(q, p)], _, _, _, all_app.mpr ⟨gF, ⟨p0, p1, q0, q1⟩⟩, by simp; omega, rfl⟩) (σ := [some (LI ys, false), some (.int k, false), some (.int wide, false), some (LP [], true), none, none, none]) ⟨[], none, none, none, (fun b hb => by cases hb), rfl, rfl⟩
  obtain ⟨l, o4, o5, o6, gl, ll, rfl⟩ := r
  refine ⟨l, ⟨gl, by omega, by omega⟩, (run_at (f := d__law_beats.df) rfl _ rfl).trans ?_⟩
  show ends (sSeq (sSet 3 (xLst [])) (sSeq (sFor (gName 4) (iRng1 (xBin dAdd (xCon (.int 1)) (xCall (run T (n + 1) 18) [(xVar 0), (xVar 1), (xCon (.int 6))]))) (HH (run T (n + 1)))) (sRet (xVar 3))) [some (LI ys, false), some (.int k, false), some (.int wide, false), none, none, none, none]) = _
  have kr : okRng (1 + c) = true := okRng_of (by omega) (by omega)
  simp only [LI, LP, List.map_nil] at *
  generalize l.map PR = LM at *
  generalize ys.map D.int = YM at *
  simp [l0_, ec, kr, -List.map_map, e]
end K13
end
section
set_option linter.all false
set_option autoImplicit false
set_option Elab.async false
set_option maxRecDepth 100000
set_option maxHeartbeats 4000000
namespace K13
open PySem Rt
open K12 (Hb Bt mt lcmL allL allL_iff allL_len lcm_p)
def MQ (q : Int × P2) : D := .tup [.int q.1, PR q.2]
abbrev LM_ (l : List (Int × P2)) : D := .lst (l.map MQ)
theorem countTo (n : Nat) {c : P2} (o0 : 0 ≤ c.1) (o1 : c.1 < c.2) (z : c.2 ≤ 1000000000000000000) (e : Int) : run T (n + 1) 9 [PR c, .int e] = .ok (.int (ct c e), false) := by
  refine (run_at (f := d_count_to.df) rfl _ rfl).trans ?_
  show ends (b_count_to (run T n) (begin_ 4 [PR c, .int e])) = _
  have dv : dDiv (.int (e - c.1 + c.2 - 1)) (.int c.2) = _ := div_s (by omega) (by omega)
  unfold ct
  by_cases h : c.1 < e
  · rw [if_pos h]
    simp [b_count_to, begin_, PR, h, dv]
  · rw [if_neg h]
    simp [b_count_to, begin_, PR, h]
theorem met_len {l : List P2} (h : l.length ≤ 6) : (metL l).length ≤ 63 := by
  unfold metL
  have a := List.length_filterMap_le mk1 ((allL l).drop 1)
  have b := all_len_le h
  rw [List.length_drop] at a
  omega
def MLB (call : Nat → Rt.Fn) : Sm := (sSeq (sSet 3 (xCall (call 7) [(xVar 2)]))
  (sIf (tOf (xCmp .isn (xVar 3) (xCon .non)))
  (sApp 1 (xTup [(false, (xIf (tOf (xCmp .eq (xBin dMod (xBi bLen [(xVar 2)]) (xCon (.int 2))) (xCon (.int 1)))) (xCon (.int 1)) (xNeg (xCon (.int 1))))), (false, (xVar 3))]))
  sPass))
theorem mk1_app (pre : List (List P2)) (t : List P2) : (pre ++ [t]).filterMap mk1 = pre.filterMap mk1 ++ (match mt t with | some c => [(sg t, c)] | none => []) := by
  rw [List.filterMap_append]
  congr 1
  rw [List.filterMap_cons, List.filterMap_nil]
  unfold mk1
  cases mt t <;> rfl
theorem metLists (n : Nat) {l : List P2} (g : Bs l) : run T (n + 4) 10 [LP l] = .ok (LM_ (metL l), true) := by
  refine (run_at (f := d_met_lists.df) rfl _ rfl).trans ?_
  show ends (sSeq (sSet 1 (xLst [])) (sSeq (sFor (gName 2) (iSeq (xSlice (xCall (run T (n + 3) 8) [(xVar 0)]) (some (xCon (.int 1))) none)) (MLB (run T (n + 3)))) (sRet (xVar 1))) [some (LP l, false), none, none, none]) = _
  have e1 := listsP (n + 2) (l := l) g.n
  have al := all_len_le g.n
  obtain ⟨σ', e, r⟩ := for_ind (g := gName 2) (b := MLB (run T (n + 3))) (f := LP) (l := (allL l).drop 1) (fun pre σ => ∃ o2 o3 : Slot, σ = [some (LP l, false), some (LM_ (pre.filterMap mk1), true), o2, o3]) (by
    rintro pre t post σ ep ⟨o2, o3, rfl⟩
    have ht : t ∈ (allL l).drop 1 := by rw [ep]; simp
    have st := sub_all ht
    have gt : ∀ b ∈ t, Bt b := fun b hb => g.bt b (st.subset hb)
    have sl := st.length_le
    have gn := g.n
    have m := meetOf n gt (by omega)
    have pl := congrArg List.length ep
    rw [List.length_drop, List.length_append] at pl
    have fl := List.length_filterMap_le mk1 pre
    have zl : ((pre.filterMap mk1).map MQ).length < line := by rw [List.length_map, line_val]; simp at pl; omega
    rw [mk1_app]
    have bl : bLen [LP t] = some (.int ((t.length : Nat) : Int), false) := by simp
    have md : dMod (.int ((t.length : Nat) : Int)) (.int 2) = some (.int ((t.length : Nat) % 2 : Int), false) := mod_s (by decide)
    cases q : mt t with
    | none =>
      rw [q] at m
      have m : run T (n + 3) 7 [LP t] = .ok (.non, false) := m
      refine ⟨[some (LP l, false), some (LM_ (pre.filterMap mk1 ++ []), true), some (LP t, false), some (.non, false)], ?_, _, _, rfl⟩
      rw [List.append_nil]
      simp only [LP, LM_] at *
      generalize (pre.filterMap mk1).map MQ = MM at *
      generalize t.map PR = TM at *
      generalize l.map PR = LM at *
      simp [stp, MLB, m, isn_non]
    | some c =>
      rw [q] at m
      have m : run T (n + 3) 7 [LP t] = .ok (PR c, false) := m
      refine ⟨[some (LP l, false), some (LM_ (pre.filterMap mk1 ++ [(sg t, c)]), true), some (LP t, false), some (PR c, false)], ?_, _, _, rfl⟩
      have sp : (pre.filterMap mk1 ++ [(sg t, c)]).map MQ = (pre.filterMap mk1).map MQ ++ [.tup [.int (sg t), PR c]] := by rw [List.map_append]; rfl
      have ic := isn_pr c
      have mk := mkF_pr c
      unfold LM_
      rw [sp]
      unfold sg
      simp only [LP, LM_] at *
      generalize (pre.filterMap mk1).map MQ = MM at *
      generalize PR c = C at *
      by_cases p : t.length % 2 = 1
      · have p' : ((t.length : Nat) : Int) % 2 = 1 := by omega
        rw [if_pos p]
        rw [p'] at md
        generalize ((t.length : Nat) : Int) = N at *
        generalize t.map PR = TM at *
        generalize l.map PR = LM at *
        simp [stp, MLB, m, ic, mk, -bLen_lst, bl, md, le2_, zl]
      · have p' : ((t.length : Nat) : Int) % 2 = 0 := by omega
        rw [if_neg p]
        rw [p'] at md
        generalize ((t.length : Nat) : Int) = N at *
        generalize t.map PR = TM at *
        generalize l.map PR = LM at *
        simp [stp, MLB, m, ic, mk, -bLen_lst, bl, md, le2_, zl]) (σ := [some (LP l, false), some (.lst [], true), none, none]) ⟨none, none, rfl⟩
  obtain ⟨o2, o3, rfl⟩ := r
  have cf := cut_from ((allL l).map LP) 1
  rw [← List.map_drop] at cf
  have cf : cutL ((allL l).map LP) (some 1) none = ((allL l).drop 1).map LP := cf
  unfold metL
  simp only [LL, LM_] at *
  generalize (((allL l).drop 1).filterMap mk1).map MQ = MM at *
  generalize ((allL l).drop 1).map LP = DM at *
  generalize (allL l).map LP = AM at *
  simp only [LP] at *
  generalize l.map PR = LM at *
  generalize MLB (run T (n + 3)) = B at *
  simp [l0_, e1, cf, e]
theorem met_bd {l : List P2} (g : Bs l) {q : Int × P2} (hq : q ∈ metL l) : (q.1 = 1 ∨ q.1 = -1) ∧ 0 ≤ q.2.1 ∧ q.2.1 < q.2.2 ∧ q.2.2 ≤ 1000000000000000000 := by
  have m := met_mem g.bt hq
  have b := lcmL_bd g.bt g.n
  have := Int.le_of_dvd (by omega) m.d
  exact ⟨m.s, m.o0, m.o1, by omega⟩
theorem filledP (n : Nat) {l : List P2} (g : Bs l) {s : Int} (h0 : 0 ≤ s) (m : Nat) (h1 : s + m < 1000000000000) : run T (n + 5) 11 [LP l, .int s, .int (s + m)] = .ok (.int (busyN l (upto s m)), false) := by
  refine (run_at (f := d_filled.df) rfl _ rfl).trans ?_
  show ends (b_filled (run T (n + 4)) (begin_ 5 [LP l, .int s, .int (s + m)])) = _
  have c1 := checkB (n + 3) g
  have c2 := checkM (n + 3) (x := s) h0 (by omega)
  have c3 := checkM (n + 3) (x := s + m) (by omega) h1
  have ml := metLists n g
  have nl : ¬ s + (m : Int) < s := by omega
  rw [← filled_eq g.bt h0 m]
  have lc := lc_all (own := [3, 4]) (g := gTup [(gName 3), (gName 4)]) (e := (xBin dMul (xVar 3) (xBin dSub (xCall (run T (n + 4) 9) [(xVar 4), (xVar 2)]) (xCall (run T (n + 4) 9) [(xVar 4), (xVar 1)])))) (σ := [some (LP l, false), some (.int s, false), some (.int (s + m), false), none, none]) MQ (fun q => .int (q.1 * (ct q.2 (s + m) - ct q.2 s))) (metL l) (fun q hq => ⟨[some (LP l, false), some (.int s, false), some (.int (s + m), false), some (.int q.1, false), some (PR q.2, false)], by simp [MQ], by
    obtain ⟨b1, b2, b3, b4⟩ := met_bd g hq
    have a1 := countTo (n + 3) b2 b3 b4 (s + m)
    have a2 := countTo (n + 3) b2 b3 b4 s
    have mu : dMul (.int q.1) (.int (ct q.2 (s + m) - ct q.2 s)) = _ := mul_l (by omega) (by omega)
    generalize ct q.2 (s + m) = x at *
    generalize ct q.2 s = y at *
    generalize PR q.2 = C at *
    generalize q.1 = z at *
    simp only [LP] at *
    generalize l.map PR = LM at *
    simp [a1, a2, mu]⟩)
  have bs := bsum ((metL l).map fun q => q.1 * (ct q.2 (s + m) - ct q.2 s))
  rw [List.map_map, show (D.int ∘ fun q : Int × P2 => q.1 * (ct q.2 (s + m) - ct q.2 s)) = fun q => D.int (q.1 * (ct q.2 (s + m) - ct q.2 s)) from rfl] at bs
  have zl : ((metL l).map fun q => D.int (q.1 * (ct q.2 (s + m) - ct q.2 s))).length ≤ line := by have := met_len g.n; rw [List.length_map, line_val]; omega
  generalize ((metL l).map fun q => q.1 * (ct q.2 (s + m) - ct q.2 s)).sum = S at *
  generalize ((metL l).map fun q => D.int (q.1 * (ct q.2 (s + m) - ct q.2 s))) = SM at *
  generalize s + (m : Int) = e at *
  simp only [LP, LM_] at *
  generalize (metL l).map MQ = MM at *
  generalize l.map PR = LM at *
  simp [b_filled, begin_, c1, c2, c3, ml, nl, lc, zl, bs]
/-! share -/
theorem low0 (n : Nat) : Low (run T (n + 1) 0) := fun a b h z => (run_at (f := d_fraction.df) rfl _ rfl).trans (frac_body h z)
theorem plusP (n : Nat) {x y : Rat} (hx : Sz 4000 x) (hy : Sz 4000 y) : run T (n + 2) 1 [dF x, dF y] = .ok (dF (x + y), false) := (run_at (f := d_plus.df) rfl _ rfl).trans (plus_body hx hy (low0 n))
theorem minusP (n : Nat) {x y : Rat} (hx : Sz 4000 x) (hy : Sz 4000 y) : run T (n + 2) 2 [dF x, dF y] = .ok (dF (x - y), false) := (run_at (f := d_minus.df) rfl _ rfl).trans (minus_body hx hy (low0 n))
theorem sz_1 {p : Int} (h : 0 < p) (k : p ≤ 1000000000000000000) : Sz 60 (Rat.divInt 1 p) := sz_low h (by decide) (by omega)
theorem sz_sh {k : Nat} {x : Rat} {q : Int × P2} (hx : Sz k x) (h : 0 < q.2.2) (z : q.2.2 ≤ 1000000000000000000) : Sz (k + 61) (shF x q) := by
  unfold shF
  split
  · exact sz_add hx (sz_1 h z)
  · exact sz_sub hx (sz_1 h z)
def SHB (call : Nat → Rt.Fn) : Sm := (sSeq (sSet 4 (xCall (call 0) [(xCon (.int 1)), (xIdx (xVar 3) (xCon (.int 1)))]))
  (sSet 1 (xIf (tOf (xCmp .gt (xVar 2) (xCon (.int 0)))) (xCall (call 1) [(xVar 1), (xVar 4)]) (xCall (call 2) [(xVar 1), (xVar 4)]))))
theorem shareP (n : Nat) {l : List P2} (g : Bs l) : run T (n + 5) 12 [LP l] = .ok (dF ((metL l).foldl shF 0), false) := by
  refine (run_at (f := d_share.df) rfl _ rfl).trans ?_
  show ends (sSeq (sExpr (xCall (run T (n + 4) 3) [(xVar 0)])) (sSeq (sSet 1 (xTup [(false, (xCon (.int 0))), (false, (xCon (.int 1)))])) (sSeq (sFor (gTup [(gName 2), (gName 3)]) (iSeq (xCall (run T (n + 4) 10) [(xVar 0)])) (SHB (run T (n + 4)))) (sRet (xVar 1)))) [some (LP l, false), none, none, none, none]) = _
  have c1 := checkB (n + 3) g
  have ml := metLists n g
  have zl := met_len g.n
  obtain ⟨σ', e, r⟩ := for_ind (g := gTup [(gName 2), (gName 3)]) (b := SHB (run T (n + 4))) (f := MQ) (l := metL l) (fun pre σ => Sz (1 + 61 * pre.length) (pre.foldl shF 0) ∧ ∃ o2 o3 o4 : Slot, σ = [some (LP l, false), some (dF (pre.foldl shF 0), false), o2, o3, o4]) (by
    rintro pre q post σ ep ⟨hs, o2, o3, o4, rfl⟩
    have hq : q ∈ metL l := by rw [ep]; simp
    obtain ⟨b1, b2, b3, b4⟩ := met_bd g hq
    have pl := congrArg List.length ep
    rw [List.length_append, List.length_cons] at pl
    rw [List.foldl_append]
    simp only [List.foldl_cons, List.foldl_nil]
    have hs' := sz_sh (q := q) hs (by omega) b4
    refine ⟨[some (LP l, false), some (dF (shF (pre.foldl shF 0) q), false), some (.int q.1, false), some (PR q.2, false), some (dF (Rat.divInt 1 q.2.2), false)], ?_, hs'.mono (by rw [List.length_append]; simp; omega), _, _, _, rfl⟩
    generalize pre.foldl shF 0 = x at *
    have s1 := (sz_1 (p := q.2.2) (by omega) b4).mono (show 60 ≤ 4000 by decide)
    have s0 := hs.mono (show 1 + 61 * pre.length ≤ 4000 by omega)
    have fr : run T (n + 4) 0 [.int 1, .int q.2.2] = _ := low0 (n + 3) 1 q.2.2 (by omega) (by
      have : q.2.2.natAbs < 2 ^ 60 := by omega
      exact Nat.lt_of_lt_of_le this (Nat.pow_le_pow_right (by decide) (by decide)))
    have pp := plusP (n + 2) s0 s1
    have mm := minusP (n + 2) s0 s1
    have mk := mkF_dF
    unfold shF
    have i1 := pr1 q.2
    have st : stp (gTup [(gName 2), (gName 3)]) (SHB (run T (n + 4))) (MQ q) [some (LP l, false), some (dF x, false), o2, o3, o4] = SHB (run T (n + 4)) [some (LP l, false), some (dF x, false), some (.int q.1, false), some (PR q.2, false), o4] := stp_of (by simp [MQ])
    rw [st]
    generalize Rat.divInt 1 q.2.2 = y at *
    generalize PR q.2 = C at *
    by_cases p : 0 < q.1
    · rw [if_pos p]
      generalize hy : dF y = DY at *
      generalize hx : dF x = DX at *
      generalize hz : dF (x + y) = DZ at *
      simp only [LP] at *
      generalize l.map PR = LM at *
      have m1 : ∀ p, mkF DY p = ⟨DY, .fz, []⟩ := fun p => by rw [← hy]; exact mk y p
      have m2 : ∀ p, mkF DZ p = ⟨DZ, .fz, []⟩ := fun p => by rw [← hz]; exact mk _ p
      simp [SHB, i1, fr, p, pp, m1, m2]
    · rw [if_neg p]
      generalize hy : dF y = DY at *
      generalize hx : dF x = DX at *
      generalize hz : dF (x - y) = DZ at *
      simp only [LP] at *
      generalize l.map PR = LM at *
      have m1 : ∀ p, mkF DY p = ⟨DY, .fz, []⟩ := fun p => by rw [← hy]; exact mk y p
      have m2 : ∀ p, mkF DZ p = ⟨DZ, .fz, []⟩ := fun p => by rw [← hz]; exact mk _ p
      simp [SHB, i1, fr, p, mm, m1, m2]) (σ := [some (LP l, false), some (dF 0, false), none, none, none]) ⟨⟨by decide, by decide⟩, none, none, none, rfl⟩
  obtain ⟨_, o2, o3, o4, rfl⟩ := r
  have e : forGo (gTup [(gName 2), (gName 3)]) (SHB (run T (n + 4))) ((metL l).map MQ) [some (LP l, false), some (.tup [.int 0, .int 1], false), none, none, none] = _ := e
  have mk := mkF_dF ((metL l).foldl shF 0)
  generalize dF ((metL l).foldl shF 0) = DZ at *
  simp only [LP, LM_] at *
  generalize (metL l).map MQ = MM at *
  generalize l.map PR = LM at *
  generalize SHB (run T (n + 4)) = B at *
  simp [c1, le2_, ml, e, mk]
/-! free times -/
theorem all_not (l : List P2) (x : Int) : (l.all fun b => !hit b x) = !busyB l x := by
  unfold busyB
  induction l with
  | nil => rfl
  | cons b l ih => rw [List.all_cons, List.any_cons, ih]; cases hit b x <;> rfl
theorem isFree (n : Nat) {l : List P2} (g : Bs l) (x : Int) : run T (n + 1) 13 [LP l, .int x] = .ok (.bl (!busyB l x), false) := by
  refine (run_at (f := d_is_free.df) rfl _ rfl).trans ?_
  show ends (b_is_free (run T n) (begin_ 4 [LP l, .int x])) = _
  have lc := lc_all (own := [2, 3]) (g := gTup [(gName 2), (gName 3)]) (e := (xCmp .ne (xBin dMod (xVar 1) (xVar 3)) (xVar 2))) (σ := [some (LP l, false), some (.int x, false), none, none]) PR (fun b => .bl (!hit b x)) l (fun b hb => ⟨[some (LP l, false), some (.int x, false), some (.int b.1, false), some (.int b.2, false)], by simp [PR], by
    obtain ⟨p1, p2, o0, o1⟩ := g.bt b hb
    have md : dMod (.int x) (.int b.2) = _ := mod_s (by omega)
    unfold hit
    simp [md]⟩)
  have ba := bAll_map l fun b => !hit b x
  rw [all_not] at ba
  have zl : (l.map fun b => D.bl (!hit b x)).length ≤ line := by have := g.n; rw [List.length_map, line_val]; omega
  generalize (l.map fun b => D.bl (!hit b x)) = BM at *
  simp only [LP] at *
  generalize l.map PR = LM at *
  simp [b_is_free, begin_, lc, zl, ba]
theorem lawFree (n : Nat) {l : List P2} (g : Bs l) (x : Int) : run T (n + 1) 22 [LP l, .int x] = .ok (.bl (!busyB l x), false) := by
  refine (run_at (f := d__law_is_free.df) rfl _ rfl).trans ?_
  show ends (b__law_is_free (run T n) (begin_ 3 [LP l, .int x])) = _
  have lc := lc_fm (own := [2]) (g := gName 2) (t := (tOf (xCmp .eq (xBin dMod (xBi bInt [(xVar 1)]) (xIdx (xVar 2) (xCon (.int 1)))) (xIdx (xVar 2) (xCon (.int 0)))))) (e := xVar 2) (σ := [some (LP l, false), some (.int x, false), none]) PR (fun b => hit b x) PR l (fun b hb => ⟨[some (LP l, false), some (.int x, false), some (PR b, false)], by simp, by
    obtain ⟨p1, p2, o0, o1⟩ := g.bt b hb
    have md : dMod (.int x) (.int b.2) = _ := mod_s (by omega)
    have i0 := pr0 b
    have i1 := pr1 b
    unfold hit
    generalize PR b = B at *
    simp [i0, i1, md], fun _ => by simp⟩)
  have ce : cmpD .eq (.lst ((l.filter fun b => hit b x).map PR)) (.lst []) = some (!busyB l x) := by
    have := cmp_eqPR (l.filter fun b => hit b x) []
    rw [List.map_nil] at this
    rw [this]
    congr 1
    unfold busyB
    cases q : l.any fun b => hit b x with
    | true =>
      obtain ⟨b, hb, h⟩ := List.any_eq_true.mp q
      have : b ∈ l.filter fun b => hit b x := List.mem_filter.mpr ⟨hb, h⟩
      exact decide_eq_false fun e => by rw [e] at this; cases this
    | false =>
      have := List.any_eq_false.mp q
      exact decide_eq_true (List.filter_eq_nil_iff.mpr this)
  have fl := List.length_filter_le (fun b => hit b x) l
  have gn := g.n
  have z : ((l.filter fun b => hit b x).map PR).length ≤ line := by rw [List.length_map, line_val]; omega
  generalize (l.filter fun b => hit b x).map PR = FM at *
  simp only [LP] at *
  generalize l.map PR = LM at *
  simp [b__law_is_free, begin_, lc, z, ce, l0_]
def oH (L : List Int) : D := match L.head? with
  | some x => .int x
  | none => .non
theorem pow6 {n : Nat} (h : n ≤ 6) : 2 ^ n ≤ 64 := by
  have : n = 0 ∨ n = 1 ∨ n = 2 ∨ n = 3 ∨ n = 4 ∨ n = 5 ∨ n = 6 := by omega
  rcases this with rfl | rfl | rfl | rfl | rfl | rfl | rfl <;> decide
theorem fLen (l : List P2) (s : Int) (n : Nat) : (freeL l s n).length ≤ n := by
  have := List.length_filter_le (fun x => !busyB l x) (upto s n)
  rw [up_len] at this
  exact this
theorem freeFrom (n : Nat) {l : List P2} (g : Bs l) {s : Int} (h0 : 0 ≤ s) (h1 : s < 1000000000000) : run T (n + 2) 14 [LP l, .int s] = .ok (oH (freeL l s (2 ^ l.length)), false) := by
  refine (run_at (f := d_free_from.df) rfl _ rfl).trans ?_
  show ends (b_free_from (run T (n + 1)) (begin_ 6 [LP l, .int s])) = _
  obtain ⟨σ', e, r⟩ := for_ind (g := gName 3) (b := (sSet 2 (xBin dMul (xVar 2) (xCon (.int 2))))) (f := PR) (l := l) (fun pre σ => ∃ o3 : Slot, σ = [some (LP l, false), some (.int s, false), some (.int ((2 ^ pre.length : Nat) : Int), false), o3, none, none]) (by
    rintro pre b post σ ep ⟨o3, rfl⟩
    refine ⟨[some (LP l, false), some (.int s, false), some (.int ((2 ^ (pre ++ [b]).length : Nat) : Int), false), some (PR b, false), none, none], ?_, _, rfl⟩
    have e2 : ((2 ^ (pre ++ [b]).length : Nat) : Int) = ((2 ^ pre.length : Nat) : Int) * 2 := by
      rw [List.length_append, List.length_singleton, Nat.pow_succ]; rfl
    rw [e2]
    generalize ((2 ^ pre.length : Nat) : Int) = N at *
    have mu : dMul (.int N) (.int 2) = _ := mul_r (by decide) (by decide)
    generalize PR b = B at *
    simp only [LP] at *
    generalize l.map PR = LM at *
    simp [stp, mu]) (σ := [some (LP l, false), some (.int s, false), some (.int 1, false), none, none, none]) ⟨none, rfl⟩
  obtain ⟨o3, rfl⟩ := r
  have p6 := pow6 g.n
  generalize hN : 2 ^ l.length = N at *
  have lc := lc_fm (own := [5]) (g := gName 5) (t := (tOf (xCall (run T (n + 1) 13) [(xVar 0), (xVar 5)]))) (e := xVar 5) (σ := [some (LP l, false), some (.int s, false), some (.int (N : Int), false), o3, none, none]) D.int (fun x => !busyB l x) D.int (upto s N) (fun x _ => ⟨[some (LP l, false), some (.int s, false), some (.int (N : Int), false), o3, none, some (.int x, false)], by simp, by
    have f := isFree n g x
    generalize (!busyB l x) = q at *
    simp only [LP] at *
    generalize l.map PR = LM at *
    simp [f], fun _ => by simp⟩)
  rw [show (upto s N).filter (fun x => !busyB l x) = freeL l s N from rfl] at lc
  have fl := fLen l s N
  have k1 : okRng s = true := okRng_of (by omega) (by omega)
  have k2 : okRng (s + N) = true := okRng_of (by omega) (by omega)
  have tn : (s + (N : Int) - s).toNat = N := by omega
  have mk := mkN_ints (freeL l s N)
  have zl : ((freeL l s N).map D.int).length ≤ line := by rw [List.length_map, line_val]; omega
  unfold oH
  generalize freeL l s N = F at *
  cases F with
  | nil =>
    simp only [LP, List.map_nil] at *
    generalize l.map PR = LM at *
    simp [b_free_from, begin_, e, k1, k2, tn, lc]
  | cons a F =>
    have bl : bLen [D.lst ((a :: F).map D.int)] = some (.int ((F.length : Int) + 1), false) := by simp
    have lp : (0 : Int) < F.length + 1 := by omega
    have i0 : dIdx (D.lst ((a :: F).map D.int)) (D.int 0) = some (D.int a) := idx_ints (xs := a :: F) (i := 0) (by omega) (by simp)
    simp only [LP] at *
    generalize (a :: F).map D.int = FM at *
    generalize l.map PR = LM at *
    simp [b_free_from, begin_, e, k1, k2, tn, lc, zl, mk, -bLen_lst, bl, lp, i0]
theorem mkF_oH (L : List Int) (p : List Nat) : mkF (oH L) p = ⟨oH L, .fz, []⟩ := by
  unfold oH
  cases L.head? <;> cases p <;> rfl
theorem firstFree (n : Nat) {l : List P2} (g : Bs l) {s : Int} (h0 : 0 ≤ s) (h1 : s < 1000000000000) : run T (n + 3) 15 [LP l, .int s] = .ok (oH (freeL l s (2 ^ l.length)), false) := by
  refine (run_at (f := d_first_free.df) rfl _ rfl).trans ?_
  show ends (b_first_free (run T (n + 2)) (begin_ 2 [LP l, .int s])) = _
  have c1 := checkB (n + 1) g
  have c2 := checkM (n + 1) h0 h1
  have f := freeFrom n g h0 h1
  have mk := mkF_oH (freeL l s (2 ^ l.length))
  generalize oH (freeL l s (2 ^ l.length)) = O at *
  simp only [LP] at *
  generalize l.map PR = LM at *
  simp [b_first_free, begin_, c1, c2, f, mk]
theorem is_oH (L : List Int) : cmpD .is (oH L) .non = some (decide (L = [])) := by
  cases L with
  | nil => rfl
  | cons a L => exact (congrArg some (decide_eq_false (by simp))).symm
theorem doFill (n : Nat) {l : List P2} (g : Bs l) : run T (n + 3) 16 [LP l] = .ok (.bl (decide (freeL l 0 (2 ^ l.length) = [])), false) := by
  refine (run_at (f := d_do_fill.df) rfl _ rfl).trans ?_
  show ends (b_do_fill (run T (n + 2)) (begin_ 1 [LP l])) = _
  have c1 := checkB (n + 1) g
  have f := freeFrom n g (s := 0) (by decide) (by decide)
  have mk := mkF_oH (freeL l 0 (2 ^ l.length))
  have is_ := is_oH (freeL l 0 (2 ^ l.length))
  generalize oH (freeL l 0 (2 ^ l.length)) = O at *
  generalize decide (freeL l 0 (2 ^ l.length) = []) = q at *
  simp only [LP] at *
  generalize l.map PR = LM at *
  simp [b_do_fill, begin_, c1, f, mk, is_]
end K13
end
section
set_option linter.all false
set_option autoImplicit false
set_option Elab.async false
set_option maxRecDepth 100000
set_option maxHeartbeats 4000000
namespace K13
open PySem Rt
open K12 (Hb Bt mt lcmL lcm_p lcmL_pos)
theorem mx (xs : List Int) (k many : Int) (hk : 0 ≤ k) (hm : 0 < many) : ∃ m : Int, 0 ≤ m ∧ m < many ∧ run T 59 18 [.lst (xs.map .int), .int k, .int many] = .ok (.int m, false) :=
  ⟨mixI xs k many, mixI_nn hm, mixI_lt hm, mix 58 xs k many hk hm⟩
theorem l3_ : (3 : Nat) ≤ line := by decide
def FL : List (List P2) := [[(0, 1)], [(0, 2), (1, 2)], [(0, 2), (0, 3), (1, 4), (5, 6), (7, 12)], [(0, 2), (1, 4), (3, 8), (7, 8)], [(0, 3), (1, 3), (2, 3)], [(0, 2), (1, 4), (3, 8), (7, 16), (15, 32), (31, 32)]]
theorem FL_bs : ∀ l ∈ FL, Bs l := fun l h => by
  unfold FL at h
  simp only [List.mem_cons, List.not_mem_nil, or_false] at h
  rcases h with rfl | rfl | rfl | rfl | rfl | rfl
  all_goals
    refine ⟨fun b hb => ?_, by decide, by decide⟩
    simp only [List.mem_cons, List.not_mem_nil, or_false] at hb
    rcases hb with rfl | rfl | rfl | rfl | rfl | rfl <;> exact ⟨by decide, by decide, by decide, by decide⟩
theorem idx_FL {m : Int} (h : 0 ≤ m) (k : m < 6) : ∃ l, Bs l ∧ dIdx (LL FL) (.int m) = some (LP l) := by
  have e := idx_map (f := LP) (xs := FL) (i := m) h (by show m < (6 : Nat); omega)
  refine ⟨_, FL_bs _ ?_, e⟩
  have : m.toNat < FL.length := by show m.toNat < 6; omega
  rw [List.getD_eq_getElem?_getD, List.getElem?_eq_getElem this]
  exact List.getElem_mem _
theorem okP {l : List P2} (g : Bs l) : okRep (LP l).py = true := okRep_prs l (fun p hp => by
  obtain ⟨p1, p2, o0, o1⟩ := g.bt p hp
  omega) (by have := g.n; omega)
theorem okRep_dF {x : Rat} (h : Sz 1900 x) : okRep (dF x).py = true := by
  have h1 := log2_le h.1
  have h2 := log2_le (show ((x.den : Int)).natAbs < 2 ^ 1900 by simpa using h.2)
  have e : (dF x).py = .tuple [.int x.num, .int x.den] := by simp [dF, D.py, D.pyL]
  rw [e]
  simp only [okRep, PyData.plain, PyData.plainAll, PyData.showable, PyData.showableAll, PyData.depth, PyData.depthAll, repW, repWL, Bool.true_and, Bool.and_true, Bool.and_eq_true, decide_eq_true_eq, line_val]
  refine ⟨⟨⟨by omega, by omega⟩, by simp⟩, decide_eq_true (by omega)⟩
theorem okOH {L : List Int} (h : ∀ x ∈ L, -(2 ^ 60) < x ∧ x < 2 ^ 60) : okRep (oH L).py = true := by
  unfold oH
  cases L with
  | nil => rfl
  | cons a L => exact okRep_int _ (h a List.mem_cons_self)
theorem ok_bl (b : Bool) : okRep (D.bl b).py = true := by cases b <;> rfl
theorem mkN_LP (l : List P2) (p : List Nat) : mkN (LP l) p = ⟨LP l, .nw, []⟩ := mkN_prs l p
theorem bList_l (xs : List D) : bList [.lst xs] = some (.lst xs, true) := rfl
theorem lawCommon2 (n : Nat) {a b : Int} (ha : 0 ≤ a) (hb : 0 ≤ b) (h2 : b ≤ 1500) : run T (n + 1) 20 [.int a, .int b] = .ok (.int (Int.gcd a b : Int), false) := by
  refine (run_at (f := d__law_common.df) rfl _ rfl).trans ?_
  show ends (sSeq (sWhile GT GB) (sRet (xVar 0)) [some (.int a, false), some (.int b, false)]) = _
  have wh : sWhile GT GB [some (.int a, false), some (.int b, false)] = _ := gGo 1501 a b fuel hb (by omega) (by decide) ha
  generalize (Int.gcd a b : Int) = g at *
  simp [wh]
theorem set_bs {l : List P2} (g : Bs l) {k : Int} (k0 : 0 ≤ k) (k1 : k < l.length) : Bs (l.set k.toNat (((at_ l k).1 + 1) % (at_ l k).2, (at_ l k).2)) := by
  obtain ⟨p1, p2, o0, o1⟩ := g.bt _ (at_mem k0 k1)
  refine ⟨fun b hb => ?_, by rw [List.length_set]; exact g.p, by rw [List.length_set]; exact g.n⟩
  rcases List.mem_or_eq_of_mem_set hb with h | rfl
  · exact g.bt b h
  · exact ⟨p1, p2, Int.emod_nonneg _ (by omega), Int.emod_lt_of_pos _ (by omega)⟩
def S0 (call : Nat → Rt.Fn) : Sm := (sSet 1 (xCall (call 17) [(xVar 0)]))
def S1 (call : Nat → Rt.Fn) : Sm := (sSet 2 (xLst [(false, (xLst [(false, (xTup [(false, (xCon (.int 0))), (false, (xCon (.int 1)))]))])), (false, (xLst [(false, (xTup [(false, (xCon (.int 0))), (false, (xCon (.int 2)))])), (false, (xTup [(false, (xCon (.int 1))), (false, (xCon (.int 2)))]))])), (false, (xLst [(false, (xTup [(false, (xCon (.int 0))), (false, (xCon (.int 2)))])), (false, (xTup [(false, (xCon (.int 0))), (false, (xCon (.int 3)))])), (false, (xTup [(false, (xCon (.int 1))), (false, (xCon (.int 4)))])), (false, (xTup [(false, (xCon (.int 5))), (false, (xCon (.int 6)))])), (false, (xTup [(false, (xCon (.int 7))), (false, (xCon (.int 12)))]))])), (false, (xLst [(false, (xTup [(false, (xCon (.int 0))), (false, (xCon (.int 2)))])), (false, (xTup [(false, (xCon (.int 1))), (false, (xCon (.int 4)))])), (false, (xTup [(false, (xCon (.int 3))), (false, (xCon (.int 8)))])), (false, (xTup [(false, (xCon (.int 7))), (false, (xCon (.int 8)))]))])), (false, (xLst [(false, (xTup [(false, (xCon (.int 0))), (false, (xCon (.int 3)))])), (false, (xTup [(false, (xCon (.int 1))), (false, (xCon (.int 3)))])), (false, (xTup [(false, (xCon (.int 2))), (false, (xCon (.int 3)))]))])), (false, (xLst [(false, (xTup [(false, (xCon (.int 0))), (false, (xCon (.int 2)))])), (false, (xTup [(false, (xCon (.int 1))), (false, (xCon (.int 4)))])), (false, (xTup [(false, (xCon (.int 3))), (false, (xCon (.int 8)))])), (false, (xTup [(false, (xCon (.int 7))), (false, (xCon (.int 16)))])), (false, (xTup [(false, (xCon (.int 15))), (false, (xCon (.int 32)))])), (false, (xTup [(false, (xCon (.int 31))), (false, (xCon (.int 32)))]))]))]))
def S3 (call : Nat → Rt.Fn) : Sm := (sRet (xCon (.bl true)))
def T0 (call : Nat → Rt.Fn) : Sm := (sSet 4 (xBin dAdd (xCon (.int 10)) (xBin dMul (xCon (.int 40)) (xVar 3))))
def T1 (call : Nat → Rt.Fn) : Sm := (sSet 5 (xCall (call 19) [(xVar 1), (xVar 4), (xIdx (xLst [(false, (xCon (.int 12))), (false, (xCon (.int 24))), (false, (xCon (.int 1000)))]) (xVar 3))]))
def T2 (call : Nat → Rt.Fn) : Sm := (sIf (tAnd (tOf (xCmp .eq (xVar 3) (xCon (.int 1)))) (tOf (xCmp .eq (xCall (call 18) [(xVar 1), (xBin dAdd (xVar 4) (xCon (.int 30))), (xCon (.int 2))]) (xCon (.int 0))))) (sSeq (sSet 5 (xBi bList [(xIdx (xVar 2) (xCall (call 18) [(xVar 1), (xBin dAdd (xVar 4) (xCon (.int 31))), (xCon (.int 6))]))])) (sIf (tOf (xCmp .eq (xCall (call 18) [(xVar 1), (xBin dAdd (xVar 4) (xCon (.int 32))), (xCon (.int 2))]) (xCon (.int 0)))) (sSeq (sSet 15 (xCall (call 18) [(xVar 1), (xBin dAdd (xVar 4) (xCon (.int 33))), (xBi bLen [(xVar 5)])])) (sPut 5 (xVar 15) (xTup [(false, (xBin dMod (xBi bInt [(xBin dAdd (xIdx (xIdx (xVar 5) (xVar 15)) (xCon (.int 0))) (xCon (.int 1)))]) (xIdx (xIdx (xVar 5) (xVar 15)) (xCon (.int 1))))), (false, (xIdx (xIdx (xVar 5) (xVar 15)) (xCon (.int 1))))]))) sPass)) sPass)
def T3 (call : Nat → Rt.Fn) : Sm := (sSet 6 (xBi bRepr [(xVar 5)]))
def T4 (call : Nat → Rt.Fn) : Sm := (sSet 7 (xCall (call 21) [(xVar 5)]))
def T5 (call : Nat → Rt.Fn) : Sm := (sIf (tOf (xCmp .le (xVar 7) (xCon (.int 1500)))) (sSeq (sSet 9 (xLC [16] (iRng1 (xVar 7)) (gName 16) (tNot (tOf (xCall (call 22) [(xVar 5), (xVar 16)]))) (xVar 16))) (sSeq (sSet 10 (xCall (call 20) [(xBi bLen [(xVar 9)]), (xVar 7)])) (sSeq (sIf (tOr (tOf (xCmp .ne (xBi bRepr [(xCall (call 12) [(xVar 5)])]) (xBi bRepr [(xTup [(false, (xBin dDiv (xBi bLen [(xVar 9)]) (xVar 10))), (false, (xBin dDiv (xVar 7) (xVar 10)))])]))) (tOf (xCmp .ne (xBi bRepr [(xCall (call 16) [(xVar 5)])]) (xBi bRepr [(xCmp .eq (xBi bLen [(xVar 9)]) (xVar 7))])))) (sRet (xCon (.bl false))) sPass) (sSeq (sSet 11 (xBin dMul (xVar 7) (xCall (call 18) [(xVar 1), (xBin dAdd (xVar 4) (xCon (.int 34))), (xCon (.int 60000))]))) (sIf (tOf (xCmp .ne (xCall (call 11) [(xVar 5), (xVar 11), (xBin dAdd (xVar 11) (xBin dMul (xCon (.int 3)) (xVar 7)))]) (xBin dMul (xCon (.int 3)) (xBi bLen [(xVar 9)])))) (sRet (xCon (.bl false))) sPass))))) sPass)
def T6 (call : Nat → Rt.Fn) : Sm := (sFor (gName 8) (iRng1 (xCon (.int 3))) (sSeq (sSet 11 (xIdx (xLst [(false, (xCon (.int 0))), (false, (xCall (call 18) [(xVar 1), (xBin dAdd (xVar 4) (xCon (.int 35))), (xCon (.int 60000))])), (false, (xBin dAdd (xBin dPow (xCon (.int 10)) (xCon (.int 11))) (xCall (call 18) [(xVar 1), (xBin dAdd (xVar 4) (xCon (.int 36))), (xCon (.int 60000))])))]) (xVar 8))) (sSeq (sSet 12 (xBin dAdd (xVar 11) (xCall (call 18) [(xVar 1), (xBin dAdd (xBin dAdd (xVar 4) (xCon (.int 37))) (xVar 8)), (xCon (.int 200))]))) (sSeq (sSet 13 (xLC [16] (iRng2 (xVar 11) (xBin dAdd (xVar 11) (xCon (.int 300)))) (gName 16) (tOf (xCall (call 22) [(xVar 5), (xVar 16)])) (xVar 16))) (sSeq (sIf (tOf (xCmp .ne (xBi bRepr [(xCall (call 11) [(xVar 5), (xVar 11), (xVar 12)])]) (xBi bRepr [(xBin dSub (xBin dSub (xVar 12) (xVar 11)) (xBi bLen [(xLC [16] (iSeq (xVar 13)) (gName 16) (tOf (xCmp .lt (xVar 16) (xVar 12))) (xVar 16))]))]))) (sRet (xCon (.bl false))) sPass) (sSeq (sSet 14 (xCall (call 15) [(xVar 5), (xVar 11)])) (sIf (tOr (tOf (xCmp .ne (xBi bRepr [(xVar 14)]) (xBi bRepr [(xIdx (xBin dAdd (xVar 13) (xLst [(false, (xCon .non))])) (xCon (.int 0)))]))) (tOr (tOf (xCmp .ne (xCmp .is (xVar 14) (xCon .non)) (xCall (call 16) [(xVar 5)]))) (tOf (xCmp .ne (xCall (call 11) [(xVar 5), (xVar 11), (xVar 11)]) (xCon (.int 0)))))) (sRet (xCon (.bl false))) sPass)))))))
def T7 (call : Nat → Rt.Fn) : Sm := (sIf (tOr (tOf (xCmp .ne (xBin dSub (xCall (call 11) [(xVar 5), (xCon (.int 0)), (xBin dPow (xCon (.int 10)) (xCon (.int 11)))]) (xCall (call 11) [(xVar 5), (xCon (.int 0)), (xBin dSub (xBin dPow (xCon (.int 10)) (xCon (.int 11))) (xCon (.int 1)))])) (xBi bInt [(xNot (xCall (call 22) [(xVar 5), (xBin dSub (xBin dPow (xCon (.int 10)) (xCon (.int 11))) (xCon (.int 1)))]))]))) (tOf (xCmp .ne (xBi bRepr [(xVar 5)]) (xVar 6)))) (sRet (xCon (.bl false))) sPass)
def RR_ (call : Nat → Rt.Fn) : Sm := sSeq (T0 call) (sSeq (T1 call) (sSeq (T2 call) (sSeq (T3 call) (sSeq (T4 call) (sSeq (T5 call) (sSeq (T6 call) (T7 call)))))))
def S2 (call : Nat → Rt.Fn) : Sm := sFor (gName 3) (iRng1 (xCon (.int 3))) (RR_ call)
theorem law_parts (call : Nat → Rt.Fn) : b_law call = sSeq (S0 call) (sSeq (S1 call) (sSeq (S2 call) (S3 call))) := rfl
end K13
end
section
set_option linter.all false
set_option autoImplicit false
set_option Elab.async false
set_option maxRecDepth 100000
set_option maxHeartbeats 4000000
namespace K13
open PySem Rt
open K12 (Hb Bt mt lcmL lcm_p lcmL_pos)
theorem s1_ {a0 a1 a3 a4 a5 a6 a7 a8 a9 a10 a11 a12 a13 a14 a15 a16 a2 : Slot} : S1 (run T 59) [a0, a1, a2, a3, a4, a5, a6, a7, a8, a9, a10, a11, a12, a13, a14, a15, a16] = .nx [a0, a1, some (LL FL, true), a3, a4, a5, a6, a7, a8, a9, a10, a11, a12, a13, a14, a15, a16] := by kernel_rfl
theorem t0_ {a0 a1 a2 a5 a6 a7 a8 a9 a10 a11 a12 a13 a14 a15 a16 a4 : Slot} {tn : Int} : T0 (run T 59) [a0, a1, a2, some (.int (tn), false), a4, a5, a6, a7, a8, a9, a10, a11, a12, a13, a14, a15, a16] = .nx [a0, a1, a2, some (.int (tn), false), some (.int (10 + 40 * tn), false), a5, a6, a7, a8, a9, a10, a11, a12, a13, a14, a15, a16] := by
  have mu : dMul (.int 40) (.int tn) = _ := mul_l (by decide) (by decide)
  simp [T0, mu]
theorem t1_ {a0 a2 a6 a7 a8 a9 a10 a11 a12 a13 a14 a15 a16 a5 : Slot} {ys : List Int} {tn w : Int} (h0 : 0 ≤ tn) (h1 : tn < 3) (w0 : 0 ≤ w) : ∃ σ', T1 (run T 59) [a0, some (.lst ((ys).map .int), true), a2, some (.int (tn), false), some (.int (w), false), a5, a6, a7, a8, a9, a10, a11, a12, a13, a14, a15, a16] = .nx σ' ∧ ∃ l, Bs l ∧ σ' = [a0, some (.lst ((ys).map .int), true), a2, some (.int (tn), false), some (.int (w), false), some (LP l, true), a6, a7, a8, a9, a10, a11, a12, a13, a14, a15, a16] := by
  have ix := idx3 12 24 1000 tn h0 h1
  have g3 := getD3 12 24 1000 tn h0 h1
  generalize ([12, 24, 1000] : List Int).getD tn.toNat 0 = v at *
  obtain ⟨l, g, e⟩ := lawBeats 57 ys (k := w) (wide := v) w0 (by omega) (by omega)
  have e : run T 59 19 [LI ys, .int w, .int v] = _ := e
  refine ⟨[a0, some (.lst ((ys).map .int), true), a2, some (.int (tn), false), some (.int (w), false), some (LP l, true), a6, a7, a8, a9, a10, a11, a12, a13, a14, a15, a16], ?_, l, g, rfl⟩
  have mk := mkN_LP l
  simp only [LI, LP] at *
  generalize l.map PR = LM at *
  generalize ys.map D.int = YM at *
  simp [T1, ix, l3_, e, mk]
theorem t2_ {a0 a6 a7 a8 a9 a10 a11 a12 a13 a14 a16 a15 : Slot} {ys : List Int} {l : List P2} {tn w : Int} (g : Bs l) (w0 : 0 ≤ w) : ∃ σ', T2 (run T 59) [a0, some (.lst ((ys).map .int), true), some (LL FL, true), some (.int (tn), false), some (.int (w), false), some (LP l, true), a6, a7, a8, a9, a10, a11, a12, a13, a14, a15, a16] = .nx σ' ∧ ∃ (l : List P2) (a15 : Slot), Bs l ∧ σ' = [a0, some (.lst ((ys).map .int), true), some (LL FL, true), some (.int (tn), false), some (.int (w), false), some (LP l, true), a6, a7, a8, a9, a10, a11, a12, a13, a14, a15, a16] := by
  obtain ⟨m1, m10, m11, e1⟩ := mx ys (w + 30) 2 (by omega) (by decide)
  obtain ⟨m2, m20, m21, e2⟩ := mx ys (w + 31) 6 (by omega) (by decide)
  obtain ⟨m3, m30, m31, e3⟩ := mx ys (w + 32) 2 (by omega) (by decide)
  obtain ⟨f, gf, ix⟩ := idx_FL m20 m21
  by_cases c1 : tn = 1 ∧ m1 = 0
  · obtain ⟨rfl, rfl⟩ := c1
    have mk := mkN_LP f
    have bl : bList [LP f] = some (LP f, true) := rfl
    by_cases c3 : m3 = 0
    · subst c3
      obtain ⟨k, k0, k1, e4⟩ := mx ys (w + 33) f.length (by omega) (by have := gf.p; omega)
      have ln : bLen [LP f] = some (.int ((f.length : Nat) : Int), false) := by simp
      have ia := idx_at k0 k1
      have i0 := pr0 (at_ f k)
      have i1 := pr1 (at_ f k)
      have mf := mkF_pr (at_ f k)
      have gs := set_bs gf k0 k1
      obtain ⟨p1, p2, o0, o1⟩ := gf.bt _ (at_mem k0 k1)
      have md : dMod (.int ((at_ f k).1 + 1)) (.int (at_ f k).2) = _ := mod_s (by omega)
      have pl : place (f.map PR).length k = some k.toNat := by
        rw [List.length_map]; exact place_nn k0 (by omega)
      have sp : (f.map PR).set k.toNat (.tup [.int (((at_ f k).1 + 1) % (at_ f k).2), .int (at_ f k).2]) = (f.set k.toNat (((at_ f k).1 + 1) % (at_ f k).2, (at_ f k).2)).map PR := by
        rw [List.map_set]; rfl
      refine ⟨[a0, some (.lst ((ys).map .int), true), some (LL FL, true), some (.int (1), false), some (.int (w), false), some (LP (f.set k.toNat (((at_ f k).1 + 1) % (at_ f k).2, (at_ f k).2)), true), a6, a7, a8, a9, a10, a11, a12, a13, a14, some (.int (k), false), a16], ?_, _, _, gs, rfl⟩
      unfold LP
      rw [← sp]
      generalize ((at_ f k).1 + 1) % (at_ f k).2 = z at *
      generalize (at_ f k).1 = y at *
      generalize (at_ f k).2 = x at *
      generalize PR (at_ f k) = A at *
      generalize ((f.length : Nat) : Int) = N at *
      simp only [LI, LP, LL] at *
      generalize FL.map (fun l => D.lst (l.map PR)) = FM at *
      generalize f.map PR = fM at *
      generalize ys.map D.int = YM at *
      simp [T2, e1, e2, e3, e4, ix, bl, mk, -bLen_lst, ln, ia, i0, i1, mf, md, le2_, pl]
    · refine ⟨[a0, some (.lst ((ys).map .int), true), some (LL FL, true), some (.int (1), false), some (.int (w), false), some (LP f, true), a6, a7, a8, a9, a10, a11, a12, a13, a14, a15, a16], ?_, f, a15, gf, rfl⟩
      simp only [LI, LP, LL] at *
      generalize FL.map (fun l => D.lst (l.map PR)) = FM at *
      generalize f.map PR = fM at *
      generalize ys.map D.int = YM at *
      simp [T2, e1, e2, e3, ix, bl, mk, c3]
  · refine ⟨_, ?_, l, a15, g, rfl⟩
    simp only [LI, LP, LL] at *
    generalize FL.map (fun l => D.lst (l.map PR)) = FM at *
    generalize l.map PR = fM at *
    generalize ys.map D.int = YM at *
    by_cases q : tn = 1
    · have q2 : ¬ m1 = 0 := fun z => c1 ⟨q, z⟩
      subst q
      simp [T2, e1, q2]
    · simp [T2, q]
theorem t3_ {a0 a1 a2 a3 a4 a7 a8 a9 a10 a11 a12 a13 a14 a15 a16 a6 : Slot} {l : List P2} (g : Bs l) : T3 (run T 59) [a0, a1, a2, a3, a4, some (LP l, true), a6, a7, a8, a9, a10, a11, a12, a13, a14, a15, a16] = .nx [a0, a1, a2, a3, a4, some (LP l, true), some (.rep (LP l), false), a7, a8, a9, a10, a11, a12, a13, a14, a15, a16] := by
  have b := bRepr_of (okP g)
  simp only [LP] at *
  generalize l.map PR = LM at *
  simp [T3, b]
theorem t4_ {a0 a1 a2 a3 a4 a6 a8 a9 a10 a11 a12 a13 a14 a15 a16 a7 : Slot} {l : List P2} (g : Bs l) : T4 (run T 59) [a0, a1, a2, a3, a4, some (LP l, true), a6, a7, a8, a9, a10, a11, a12, a13, a14, a15, a16] = .nx [a0, a1, a2, a3, a4, some (LP l, true), a6, some (.int (lcmL l), false), a8, a9, a10, a11, a12, a13, a14, a15, a16] := by
  have e : run T 59 21 [LP l] = _ := lawWhole 57 g
  generalize lcmL l = W at *
  simp only [LP] at *
  generalize l.map PR = LM at *
  simp [T4, e]
end K13
end
section
set_option linter.all false
set_option autoImplicit false
set_option Elab.async false
set_option maxRecDepth 100000
set_option maxHeartbeats 4000000
namespace K13
open PySem Rt
open K12 (Hb Bt mt lcmL lcm_p lcmL_pos)
def P0 (call : Nat → Rt.Fn) : Sm := (sSet 9 (xLC [16] (iRng1 (xVar 7)) (gName 16) (tNot (tOf (xCall (call 22) [(xVar 5), (xVar 16)]))) (xVar 16)))
def P1 (call : Nat → Rt.Fn) : Sm := (sSet 10 (xCall (call 20) [(xBi bLen [(xVar 9)]), (xVar 7)]))
def P2_ (call : Nat → Rt.Fn) : Sm := (sIf (tOr (tOf (xCmp .ne (xBi bRepr [(xCall (call 12) [(xVar 5)])]) (xBi bRepr [(xTup [(false, (xBin dDiv (xBi bLen [(xVar 9)]) (xVar 10))), (false, (xBin dDiv (xVar 7) (xVar 10)))])]))) (tOf (xCmp .ne (xBi bRepr [(xCall (call 16) [(xVar 5)])]) (xBi bRepr [(xCmp .eq (xBi bLen [(xVar 9)]) (xVar 7))])))) (sRet (xCon (.bl false))) sPass)
def P3 (call : Nat → Rt.Fn) : Sm := (sSet 11 (xBin dMul (xVar 7) (xCall (call 18) [(xVar 1), (xBin dAdd (xVar 4) (xCon (.int 34))), (xCon (.int 60000))])))
def P4 (call : Nat → Rt.Fn) : Sm := (sIf (tOf (xCmp .ne (xCall (call 11) [(xVar 5), (xVar 11), (xBin dAdd (xVar 11) (xBin dMul (xCon (.int 3)) (xVar 7)))]) (xBin dMul (xCon (.int 3)) (xBi bLen [(xVar 9)])))) (sRet (xCon (.bl false))) sPass)
def PP (call : Nat → Rt.Fn) : Sm := sSeq (P0 call) (sSeq (P1 call) (sSeq (P2_ call) (sSeq (P3 call) (P4 call))))
theorem busy_len (l : List P2) (W : Nat) : ((((upto 0 W).filter (busyB l)).length : Nat) : Int) = busyN l (upto 0 W) := rfl
theorem busy_le (l : List P2) (W : Nat) : 0 ≤ busyN l (upto 0 W) ∧ busyN l (upto 0 W) ≤ W := by
  unfold busyN
  have := List.length_filter_le (busyB l) (upto 0 W)
  rw [up_len] at this
  omega
theorem p0_ {a0 a1 a2 a3 a4 a6 a8 a10 a11 a12 a13 a14 a15 a9 a16 : Slot} {l : List P2} (g : Bs l) {W : Nat} (h2 : W ≤ 1500) : P0 (run T 59) [a0, a1, a2, a3, a4, some (LP l, true), a6, some (.int (W : Int), false), a8, a9, a10, a11, a12, a13, a14, a15, a16] = .nx [a0, a1, a2, a3, a4, some (LP l, true), a6, some (.int (W : Int), false), a8, some (.lst (((upto 0 W).filter (busyB l)).map .int), true), a10, a11, a12, a13, a14, a15, a16] := by
  have lc := lc_fm (own := [16]) (g := gName 16) (t := (tNot (tOf (xCall ((run T 59) 22) [(xVar 5), (xVar 16)])))) (e := xVar 16) (σ := [a0, a1, a2, a3, a4, some (LP l, true), a6, some (.int (W : Int), false), a8, a9, a10, a11, a12, a13, a14, a15, none]) D.int (busyB l) D.int (upto 0 W) (fun x _ => ⟨[a0, a1, a2, a3, a4, some (LP l, true), a6, some (.int (W : Int), false), a8, a9, a10, a11, a12, a13, a14, a15, some (.int (x), false)], by simp, by
    have f : run T 59 22 [LP l, .int x] = _ := lawFree 58 g x
    generalize busyB l x = q at *
    simp only [LP] at *
    generalize l.map PR = LM at *
    cases q <;> simp [f], fun _ => by simp⟩)
  have kr : okRng (W : Int) = true := okRng_of (by omega) (by omega)
  have zl : ((upto 0 W).filter (busyB l)).length ≤ line := by
    have := List.length_filter_le (busyB l) (upto 0 W)
    rw [up_len] at this
    rw [line_val]; omega
  have mk := mkN_ints ((upto 0 W).filter (busyB l))
  generalize (upto 0 W).filter (busyB l) = F at *
  simp only [LP] at *
  have zl2 : (F.map D.int).length ≤ line := by rw [List.length_map]; exact zl
  generalize F.map D.int = FM at *
  generalize l.map PR = LM at *
  simp [P0, kr, lc, zl2, mk]
theorem p1_ {a0 a1 a2 a3 a4 a6 a8 a11 a12 a13 a14 a15 a16 a10 : Slot} {l : List P2} (g : Bs l) {W : Nat} (h2 : W ≤ 1500) : P1 (run T 59) [a0, a1, a2, a3, a4, some (LP l, true), a6, some (.int (W : Int), false), a8, some (.lst (((upto 0 W).filter (busyB l)).map .int), true), a10, a11, a12, a13, a14, a15, a16] = .nx [a0, a1, a2, a3, a4, some (LP l, true), a6, some (.int (W : Int), false), a8, some (.lst (((upto 0 W).filter (busyB l)).map .int), true), some (.int (Int.gcd (busyN l (upto 0 W)) W : Int), false), a11, a12, a13, a14, a15, a16] := by
  have bl : bLen [.lst (((upto 0 W).filter (busyB l)).map .int)] = some (.int (busyN l (upto 0 W)), false) := by unfold busyN; simp
  have bd := busy_le l W
  have e : run T 59 20 [.int (busyN l (upto 0 W)), .int W] = _ := lawCommon2 58 bd.1 (by omega) (by omega)
  generalize (Int.gcd (busyN l (upto 0 W)) W : Int) = z at *
  generalize busyN l (upto 0 W) = N at *
  generalize ((upto 0 W).filter (busyB l)).map D.int = FM at *
  simp only [LP] at *
  generalize l.map PR = LM at *
  simp [P1, -bLen_lst, bl, e]
theorem p2_ {a0 a1 a2 a3 a4 a6 a8 a11 a12 a13 a14 a15 a16 : Slot} {l : List P2} (g : Bs l) {W : Nat} (w0 : 0 < W) (we : lcmL l = (W : Int)) (h2 : W ≤ 1500) : P2_ (run T 59) [a0, a1, a2, a3, a4, some (LP l, true), a6, some (.int (W : Int), false), a8, some (.lst (((upto 0 W).filter (busyB l)).map .int), true), some (.int (Int.gcd (busyN l (upto 0 W)) W : Int), false), a11, a12, a13, a14, a15, a16] = .nx [a0, a1, a2, a3, a4, some (LP l, true), a6, some (.int (W : Int), false), a8, some (.lst (((upto 0 W).filter (busyB l)).map .int), true), some (.int (Int.gcd (busyN l (upto 0 W)) W : Int), false), a11, a12, a13, a14, a15, a16] := by
  have bl : bLen [.lst (((upto 0 W).filter (busyB l)).map .int)] = some (.int (busyN l (upto 0 W)), false) := by unfold busyN; simp
  have bd := busy_le l W
  have e1 : run T 59 12 [LP l] = _ := shareP 54 g
  rw [share_eq g.bt we w0] at e1
  have e2 : run T 59 16 [LP l] = _ := doFill 56 g
  have fi := fill_iff g.bt w0 (by rw [we]; exact Int.dvd_refl _)
  have de : decide (freeL l 0 (2 ^ l.length) = []) = decide (busyN l (upto 0 W) = (W : Int)) := by
    by_cases c : freeL l 0 (2 ^ l.length) = []
    · rw [decide_eq_true c, decide_eq_true (fi.mp c)]
    · rw [decide_eq_false c, decide_eq_false fun z => c (fi.mpr z)]
  rw [de] at e2
  have ln := low_num (a := busyN l (upto 0 W)) (b := (W : Int)) (by omega)
  have ld := low_den (a := busyN l (upto 0 W)) (b := (W : Int)) (by omega)
  have g0 : (0 : Int) < (Int.gcd (busyN l (upto 0 W)) W : Int) := by have := gcd_pos (a := busyN l (upto 0 W)) (b := (W : Int)) (by omega); omega
  have gl : (Int.gcd (busyN l (upto 0 W)) W : Int) ≤ W := Int.le_of_dvd (by omega) (Int.gcd_dvd_right ..)
  have d1 : dDiv (.int (busyN l (upto 0 W))) (.int (Int.gcd (busyN l (upto 0 W)) W : Int)) = _ := div_s g0 (by omega)
  have d2 : dDiv (.int (W : Int)) (.int (Int.gcd (busyN l (upto 0 W)) W : Int)) = _ := div_s g0 (by omega)
  rw [← ln] at d1
  rw [← ld] at d2
  have sz : Sz 1900 (Rat.divInt (busyN l (upto 0 W)) W) := (sz_low (k := 20) (by omega) (by omega) (by omega)).mono (by decide)
  have b1 := bRepr_of (okRep_dF sz)
  have c1 := cmp_neR _ (okRep_dF sz)
  have df : D.tup [.int (Rat.divInt (busyN l (upto 0 W)) W).num, .int (Rat.divInt (busyN l (upto 0 W)) W).den] = dF (Rat.divInt (busyN l (upto 0 W)) W) := rfl
  have mk := mkF_dF (Rat.divInt (busyN l (upto 0 W)) W)
  have ce := cmp_eqI (busyN l (upto 0 W)) (W : Int)
  generalize hq : decide (busyN l (upto 0 W) = (W : Int)) = q at *
  have b2 := bRepr_of (ok_bl q)
  have c2 := cmp_neR _ (ok_bl q)
  generalize dF (Rat.divInt (busyN l (upto 0 W)) W) = DD at *
  generalize (Rat.divInt (busyN l (upto 0 W)) W).num = r1 at *
  generalize ((Rat.divInt (busyN l (upto 0 W)) W).den : Int) = r2 at *
  generalize (Int.gcd (busyN l (upto 0 W)) W : Int) = z at *
  generalize busyN l (upto 0 W) = N at *
  generalize ((upto 0 W).filter (busyB l)).map D.int = FM at *
  generalize (W : Int) = V at *
  simp only [LP] at *
  generalize l.map PR = LM at *
  simp [P2_, -bLen_lst, bl, e1, e2, d1, d2, le2_, df, mk, b1, c1, -cmp_eqI, ce, b2, c2]
theorem p3_ {a0 a2 a3 a5 a6 a8 a9 a10 a12 a13 a14 a15 a16 a11 : Slot} {ys : List Int} {w : Int} {W : Nat} (w0 : 0 ≤ w) (h2 : W ≤ 1500) : ∃ σ', P3 (run T 59) [a0, some (.lst ((ys).map .int), true), a2, a3, some (.int (w), false), a5, a6, some (.int (W : Int), false), a8, a9, a10, a11, a12, a13, a14, a15, a16] = .nx σ' ∧ ∃ m : Nat, m < 60000 ∧ σ' = [a0, some (.lst ((ys).map .int), true), a2, a3, some (.int (w), false), a5, a6, some (.int (W : Int), false), a8, a9, a10, some (.int ((W : Int) * (m : Int)), false), a12, a13, a14, a15, a16] := by
  obtain ⟨m, m0, m1, e⟩ := mx ys (w + 34) 60000 (by omega) (by decide)
  have mm : (m.toNat : Int) = m := Int.toNat_of_nonneg m0
  refine ⟨[a0, some (.lst ((ys).map .int), true), a2, a3, some (.int (w), false), a5, a6, some (.int (W : Int), false), a8, a9, a10, some (.int ((W : Int) * (m.toNat : Int)), false), a12, a13, a14, a15, a16], ?_, m.toNat, by omega, rfl⟩
  rw [mm]
  have mu : dMul (.int (W : Int)) (.int m) = _ := mul_l (by omega) (by omega)
  generalize (W : Int) = V at *
  generalize ys.map D.int = YM at *
  simp [P3, e, mu]
theorem p4_ {a0 a1 a2 a3 a4 a6 a8 a10 a12 a13 a14 a15 a16 : Slot} {l : List P2} (g : Bs l) {W m : Nat} (w0 : 0 < W) (we : lcmL l = (W : Int)) (h2 : W ≤ 1500) (hm : m < 60000) : P4 (run T 59) [a0, a1, a2, a3, a4, some (LP l, true), a6, some (.int (W : Int), false), a8, some (.lst (((upto 0 W).filter (busyB l)).map .int), true), a10, some (.int ((W : Int) * (m : Int)), false), a12, a13, a14, a15, a16] = .nx [a0, a1, a2, a3, a4, some (LP l, true), a6, some (.int (W : Int), false), a8, some (.lst (((upto 0 W).filter (busyB l)).map .int), true), a10, some (.int ((W : Int) * (m : Int)), false), a12, a13, a14, a15, a16] := by
  have bl : bLen [.lst (((upto 0 W).filter (busyB l)).map .int)] = some (.int (busyN l (upto 0 W)), false) := by unfold busyN; simp
  have bd := busy_le l W
  have s0 : 0 ≤ (W : Int) * (m : Int) := Int.mul_nonneg (by omega) (by omega)
  have s1 : (W : Int) * (m : Int) ≤ 1500 * 60000 := Int.mul_le_mul (by omega) (by omega) (by omega) (by decide)
  have e : run T 59 11 [LP l, .int ((W : Int) * (m : Int)), .int ((W : Int) * (m : Int) + ((3 * W : Nat) : Int))] = _ := filledP 54 g s0 (3 * W) (by omega)
  rw [three_eq g.bt s0 (by rw [we]; exact Int.dvd_refl _), show ((3 * W : Nat) : Int) = 3 * (W : Int) by omega] at e
  have m1 : dMul (.int 3) (.int (W : Int)) = _ := mul_l (by decide) (by decide)
  have m2 : dMul (.int 3) (.int (busyN l (upto 0 W))) = _ := mul_l (by decide) (by decide)
  generalize (W : Int) * (m : Int) = s at *
  generalize busyN l (upto 0 W) = N at *
  generalize ((upto 0 W).filter (busyB l)).map D.int = FM at *
  generalize (W : Int) = V at *
  simp only [LP] at *
  generalize l.map PR = LM at *
  simp [P4, -bLen_lst, bl, e, m1, m2]
theorem t5_ {a0 a2 a3 a6 a8 a12 a13 a14 a15 a9 a10 a11 a16 : Slot} {ys : List Int} {w : Int} {l : List P2} (g : Bs l) (w0 : 0 ≤ w) : ∃ σ', T5 (run T 59) [a0, some (.lst ((ys).map .int), true), a2, a3, some (.int (w), false), some (LP l, true), a6, some (.int (lcmL l), false), a8, a9, a10, a11, a12, a13, a14, a15, a16] = .nx σ' ∧ ∃ a9 a10 a11 a16 : Slot, σ' = [a0, some (.lst ((ys).map .int), true), a2, a3, some (.int (w), false), some (LP l, true), a6, some (.int (lcmL l), false), a8, a9, a10, a11, a12, a13, a14, a15, a16] := by
  have lb := lcmL_bd g.bt g.n
  obtain ⟨W, hW⟩ : ∃ W : Nat, lcmL l = (W : Int) := ⟨(lcmL l).toNat, by omega⟩
  have lb1 := lb.1
  have we := hW
  rw [hW] at lb1 ⊢
  by_cases c : W ≤ 1500
  · have c' : (W : Int) ≤ 1500 := by omega
    have un : T5 (run T 59) [a0, some (.lst ((ys).map .int), true), a2, a3, some (.int (w), false), some (LP l, true), a6, some (.int (W : Int), false), a8, a9, a10, a11, a12, a13, a14, a15, a16] = PP (run T 59) [a0, some (.lst ((ys).map .int), true), a2, a3, some (.int (w), false), some (LP l, true), a6, some (.int (W : Int), false), a8, a9, a10, a11, a12, a13, a14, a15, a16] := by
      show sIf (tOf (xCmp .le (xVar 7) (xCon (.int 1500)))) (PP (run T 59)) sPass _ = _
      generalize (W : Int) = V at *
      simp [c']
    rw [un]
    refine seq_nx1 (p0_ g c) ?_
    refine seq_nx1 (p1_ g c) ?_
    refine seq_nx1 (p2_ g (by omega) we c) ?_
    refine seq_nx (p3_ w0 c) ?_
    rintro _ ⟨m, hm, rfl⟩
    exact ⟨_, p4_ g (by omega) we c hm, _, _, _, _, rfl⟩
  · refine ⟨_, ?_, a9, a10, a11, a16, rfl⟩
    have c' : ¬ (W : Int) ≤ 1500 := by omega
    show sIf (tOf (xCmp .le (xVar 7) (xCon (.int 1500)))) _ sPass _ = _
    generalize (W : Int) = V at *
    simp [c']
end K13
end
section
set_option linter.all false
set_option autoImplicit false
set_option Elab.async false
set_option maxRecDepth 100000
set_option maxHeartbeats 4000000
namespace K13
open PySem Rt
open K12 (Hb Bt mt lcmL lcm_p lcmL_pos)
def R0 (call : Nat → Rt.Fn) : Sm := (sSet 11 (xIdx (xLst [(false, (xCon (.int 0))), (false, (xCall (call 18) [(xVar 1), (xBin dAdd (xVar 4) (xCon (.int 35))), (xCon (.int 60000))])), (false, (xBin dAdd (xBin dPow (xCon (.int 10)) (xCon (.int 11))) (xCall (call 18) [(xVar 1), (xBin dAdd (xVar 4) (xCon (.int 36))), (xCon (.int 60000))])))]) (xVar 8)))
def R1 (call : Nat → Rt.Fn) : Sm := (sSet 12 (xBin dAdd (xVar 11) (xCall (call 18) [(xVar 1), (xBin dAdd (xBin dAdd (xVar 4) (xCon (.int 37))) (xVar 8)), (xCon (.int 200))])))
def R2 (call : Nat → Rt.Fn) : Sm := (sSet 13 (xLC [16] (iRng2 (xVar 11) (xBin dAdd (xVar 11) (xCon (.int 300)))) (gName 16) (tOf (xCall (call 22) [(xVar 5), (xVar 16)])) (xVar 16)))
def R3 (call : Nat → Rt.Fn) : Sm := (sIf (tOf (xCmp .ne (xBi bRepr [(xCall (call 11) [(xVar 5), (xVar 11), (xVar 12)])]) (xBi bRepr [(xBin dSub (xBin dSub (xVar 12) (xVar 11)) (xBi bLen [(xLC [16] (iSeq (xVar 13)) (gName 16) (tOf (xCmp .lt (xVar 16) (xVar 12))) (xVar 16))]))]))) (sRet (xCon (.bl false))) sPass)
def R4 (call : Nat → Rt.Fn) : Sm := (sSet 14 (xCall (call 15) [(xVar 5), (xVar 11)]))
def R5 (call : Nat → Rt.Fn) : Sm := (sIf (tOr (tOf (xCmp .ne (xBi bRepr [(xVar 14)]) (xBi bRepr [(xIdx (xBin dAdd (xVar 13) (xLst [(false, (xCon .non))])) (xCon (.int 0)))]))) (tOr (tOf (xCmp .ne (xCmp .is (xVar 14) (xCon .non)) (xCall (call 16) [(xVar 5)]))) (tOf (xCmp .ne (xCall (call 11) [(xVar 5), (xVar 11), (xVar 11)]) (xCon (.int 0)))))) (sRet (xCon (.bl false))) sPass)
def TT (call : Nat → Rt.Fn) : Sm := sSeq (R0 call) (sSeq (R1 call) (sSeq (R2 call) (sSeq (R3 call) (sSeq (R4 call) (R5 call)))))
theorem c11 : (10 : Int) ^ 11 = 100000000000 := by decide
theorem pw11 : dPow (.int 10) (.int 11) = some (.int 100000000000, false) := by kernel_rfl
theorem u0_ {a0 a2 a3 a5 a6 a7 a9 a10 a12 a13 a14 a15 a16 a11 : Slot} {ys : List Int} {w t : Int} (w0 : 0 ≤ w) (t0 : 0 ≤ t) (t1 : t < 3) : ∃ σ', R0 (run T 59) [a0, some (.lst ((ys).map .int), true), a2, a3, some (.int (w), false), a5, a6, a7, some (.int (t), false), a9, a10, a11, a12, a13, a14, a15, a16] = .nx σ' ∧ ∃ s : Int, (0 ≤ s ∧ s < 900000000000) ∧ σ' = [a0, some (.lst ((ys).map .int), true), a2, a3, some (.int (w), false), a5, a6, a7, some (.int (t), false), a9, a10, some (.int (s), false), a12, a13, a14, a15, a16] := by
  obtain ⟨m1, m10, m11, e1⟩ := mx ys (w + 35) 60000 (by omega) (by decide)
  obtain ⟨m2, m20, m21, e2⟩ := mx ys (w + 36) 60000 (by omega) (by decide)
  have ix := idx3 0 m1 (100000000000 + m2) t t0 t1
  have g3 := getD3 0 m1 (100000000000 + m2) t t0 t1
  generalize ([0, m1, 100000000000 + m2] : List Int).getD t.toNat 0 = v at *
  refine ⟨[a0, some (.lst ((ys).map .int), true), a2, a3, some (.int (w), false), a5, a6, a7, some (.int (t), false), a9, a10, some (.int (v), false), a12, a13, a14, a15, a16], ?_, v, ⟨by omega, by omega⟩, rfl⟩
  have pw := pw11
  generalize ys.map D.int = YM at *
  simp [R0, e1, e2, pw, l3_, ix]
theorem u1_ {a0 a2 a3 a5 a6 a7 a9 a10 a13 a14 a15 a16 a12 : Slot} {ys : List Int} {w t s : Int} (w0 : 0 ≤ w) (t0 : 0 ≤ t) (t1 : t < 3) : ∃ σ', R1 (run T 59) [a0, some (.lst ((ys).map .int), true), a2, a3, some (.int (w), false), a5, a6, a7, some (.int (t), false), a9, a10, some (.int (s), false), a12, a13, a14, a15, a16] = .nx σ' ∧ ∃ m : Nat, m < 200 ∧ σ' = [a0, some (.lst ((ys).map .int), true), a2, a3, some (.int (w), false), a5, a6, a7, some (.int (t), false), a9, a10, some (.int (s), false), some (.int (s + (m : Int)), false), a13, a14, a15, a16] := by
  obtain ⟨m, m0, m1, e⟩ := mx ys (w + 37 + t) 200 (by omega) (by decide)
  have mm : (m.toNat : Int) = m := Int.toNat_of_nonneg m0
  refine ⟨[a0, some (.lst ((ys).map .int), true), a2, a3, some (.int (w), false), a5, a6, a7, some (.int (t), false), a9, a10, some (.int (s), false), some (.int (s + (m.toNat : Int)), false), a13, a14, a15, a16], ?_, m.toNat, by omega, rfl⟩
  rw [mm]
  generalize ys.map D.int = YM at *
  simp [R1, e]
theorem u2_ {a0 a1 a2 a3 a4 a6 a7 a8 a9 a10 a12 a14 a15 a13 a16 : Slot} {l : List P2} {s : Int} (g : Bs l) (hs : 0 ≤ s ∧ s < 900000000000) : R2 (run T 59) [a0, a1, a2, a3, a4, some (LP l, true), a6, a7, a8, a9, a10, some (.int (s), false), a12, a13, a14, a15, a16] = .nx [a0, a1, a2, a3, a4, some (LP l, true), a6, a7, a8, a9, a10, some (.int (s), false), a12, some (.lst ((freeL l s 300).map .int), true), a14, a15, a16] := by
  obtain ⟨s0, s1⟩ := hs
  have lc := lc_fm (own := [16]) (g := gName 16) (t := (tOf (xCall ((run T 59) 22) [(xVar 5), (xVar 16)]))) (e := xVar 16) (σ := [a0, a1, a2, a3, a4, some (LP l, true), a6, a7, a8, a9, a10, some (.int (s), false), a12, a13, a14, a15, none]) D.int (fun x => !busyB l x) D.int (upto s 300) (fun x _ => ⟨[a0, a1, a2, a3, a4, some (LP l, true), a6, a7, a8, a9, a10, some (.int (s), false), a12, a13, a14, a15, some (.int (x), false)], by simp, by
    have f : run T 59 22 [LP l, .int x] = _ := lawFree 58 g x
    generalize (!busyB l x) = q at *
    simp only [LP] at *
    generalize l.map PR = LM at *
    simp [f], fun _ => by simp⟩)
  rw [show (upto s 300).filter (fun x => !busyB l x) = freeL l s 300 from rfl] at lc
  have k1 : okRng s = true := okRng_of (by omega) (by omega)
  have k2 : okRng (s + 300) = true := okRng_of (by omega) (by omega)
  have tn : (s + 300 - s).toNat = 300 := by omega
  have fl := fLen l s 300
  have zl : ((freeL l s 300).map D.int).length ≤ line := by rw [List.length_map, line_val]; omega
  have mk := mkN_ints (freeL l s 300)
  generalize (freeL l s 300).map D.int = FM at *
  simp only [LP] at *
  generalize l.map PR = LM at *
  simp [R2, k1, k2, tn, lc, zl, mk]
theorem u3_ {a0 a1 a2 a3 a4 a6 a7 a8 a9 a10 a14 a15 a16 : Slot} {l : List P2} {s : Int} {m : Nat} (g : Bs l) (hs : 0 ≤ s ∧ s < 900000000000) (hm : m < 200) : R3 (run T 59) [a0, a1, a2, a3, a4, some (LP l, true), a6, a7, a8, a9, a10, some (.int (s), false), some (.int (s + (m : Int)), false), some (.lst ((freeL l s 300).map .int), true), a14, a15, a16] = .nx [a0, a1, a2, a3, a4, some (LP l, true), a6, a7, a8, a9, a10, some (.int (s), false), some (.int (s + (m : Int)), false), some (.lst ((freeL l s 300).map .int), true), a14, a15, a16] := by
  obtain ⟨s0, s1⟩ := hs
  have e : run T 59 11 [LP l, .int s, .int (s + m)] = _ := filledP 54 g s0 m (by omega)
  have fl := free_lt l s (m := m) (n := 300) (by omega)
  have fn := free_len l s m
  have fb := fLen l s m
  have lc := lc_fm (own := [16]) (g := gName 16) (t := (tOf (xCmp .lt (xVar 16) (xVar 12)))) (e := xVar 16) (σ := [a0, a1, a2, a3, a4, some (LP l, true), a6, a7, a8, a9, a10, some (.int (s), false), some (.int (s + (m : Int)), false), some (.lst ((freeL l s 300).map .int), true), a14, a15, none]) D.int (fun x => decide (x < s + m)) D.int (freeL l s 300) (fun x _ => ⟨[a0, a1, a2, a3, a4, some (LP l, true), a6, a7, a8, a9, a10, some (.int (s), false), some (.int (s + (m : Int)), false), some (.lst ((freeL l s 300).map .int), true), a14, a15, some (.int (x), false)], by simp, by simp, fun _ => by simp⟩)
  rw [fl] at lc
  have zl : ((freeL l s m).map D.int).length ≤ line := by rw [List.length_map, line_val]; omega
  have bl : bLen [.lst ((freeL l s m).map .int)] = some (.int ((freeL l s m).length : Nat), false) := by simp
  have mk := mkN_ints (freeL l s m)
  have ae : s + (m : Int) - s - ((freeL l s m).length : Nat) = busyN l (upto s m) := by omega
  have bn : -(2 ^ 60) < busyN l (upto s m) ∧ busyN l (upto s m) < 2 ^ 60 := by omega
  have b1 := bRepr_of (okRep_int _ bn)
  have c1 := cmp_neR _ (okRep_int _ bn)
  generalize ((freeL l s m).length : Int) = FN at *
  generalize (freeL l s m).map D.int = FM at *
  generalize (freeL l s 300).map D.int = FM3 at *
  generalize busyN l (upto s m) = N at *
  generalize s + (m : Int) = en at *
  simp only [LP] at *
  generalize l.map PR = LM at *
  simp [R3, e, lc, zl, mk, -bLen_lst, bl, ae, b1, c1]
theorem u4_ {a0 a1 a2 a3 a4 a6 a7 a8 a9 a10 a12 a13 a15 a16 a14 : Slot} {l : List P2} {s : Int} (g : Bs l) (hs : 0 ≤ s ∧ s < 900000000000) : R4 (run T 59) [a0, a1, a2, a3, a4, some (LP l, true), a6, a7, a8, a9, a10, some (.int (s), false), a12, a13, a14, a15, a16] = .nx [a0, a1, a2, a3, a4, some (LP l, true), a6, a7, a8, a9, a10, some (.int (s), false), a12, a13, some (oH (freeL l s (2 ^ l.length)), false), a15, a16] := by
  have e : run T 59 15 [LP l, .int s] = _ := firstFree 56 g hs.1 (by omega)
  have mk := mkF_oH (freeL l s (2 ^ l.length))
  generalize oH (freeL l s (2 ^ l.length)) = O at *
  simp only [LP] at *
  generalize l.map PR = LM at *
  simp [R4, e, mk]
theorem u5_ {a0 a1 a2 a3 a4 a6 a7 a8 a9 a10 a12 a15 a16 : Slot} {l : List P2} {s : Int} (g : Bs l) (hs : 0 ≤ s ∧ s < 900000000000) : R5 (run T 59) [a0, a1, a2, a3, a4, some (LP l, true), a6, a7, a8, a9, a10, some (.int (s), false), a12, some (.lst ((freeL l s 300).map .int), true), some (oH (freeL l s (2 ^ l.length)), false), a15, a16] = .nx [a0, a1, a2, a3, a4, some (LP l, true), a6, a7, a8, a9, a10, some (.int (s), false), a12, some (.lst ((freeL l s 300).map .int), true), some (oH (freeL l s (2 ^ l.length)), false), a15, a16] := by
  obtain ⟨s0, s1⟩ := hs
  have p6 := pow6 g.n
  have e0 : run T 59 11 [LP l, .int s, .int (s + ((0 : Nat) : Int))] = _ := filledP 54 g s0 0 (by omega)
  rw [show s + ((0 : Nat) : Int) = s by omega, show busyN l (upto s 0) = 0 from rfl] at e0
  have e2 : run T 59 16 [LP l] = _ := doFill 56 g
  have fi := free_iff g.bt 0 s
  have de : decide (freeL l 0 (2 ^ l.length) = []) = decide (freeL l s (2 ^ l.length) = []) := by
    by_cases c : freeL l 0 (2 ^ l.length) = []
    · rw [decide_eq_true c, decide_eq_true (fi.mp c)]
    · rw [decide_eq_false c, decide_eq_false fun z => c (fi.mpr z)]
  rw [de] at e2
  have is_ := is_oH (freeL l s (2 ^ l.length))
  have hd := free_head g.bt s (n := 300) (by omega)
  have f3 := fLen l s 300
  have ad : dAdd (.lst ((freeL l s 300).map D.int)) (.lst [.non]) = some (.lst ((freeL l s 300).map D.int ++ [.non]), true) := dAdd_lst (by rw [List.length_map, line_val]; simp; omega)
  have ix : dIdx (.lst ((freeL l s 300).map D.int ++ [.non])) (.int 0) = some (oH (freeL l s (2 ^ l.length))) := by
    unfold oH
    rw [← hd]
    cases freeL l s 300 with
    | nil => rfl
    | cons a F =>
      show (place ((a :: F).map D.int ++ [D.non]).length 0).bind _ = _
      rw [place_nn (by omega) (by simp; omega)]
      rfl
  have ok := okOH (L := freeL l s (2 ^ l.length)) (fun x hx => by
    have := up_mem.mp (List.mem_filter.mp hx).1
    omega)
  have b1 := bRepr_of ok
  have c1 := cmp_neR _ ok
  have nb : ∀ q : Bool, cmpD .ne (.bl q) (.bl q) = some false := fun q => by cases q <;> rfl
  generalize decide (freeL l s (2 ^ l.length) = []) = q at *
  have nq := nb q
  have mk := mkF_oH (freeL l s (2 ^ l.length))
  generalize oH (freeL l s (2 ^ l.length)) = O at *
  generalize (freeL l s 300).map D.int = FM at *
  simp only [LP] at *
  generalize l.map PR = LM at *
  simp [R5, e0, e2, is_, ad, ix, b1, c1, nq, l1_, mk]
theorem ut_ {a0 a2 a3 a6 a7 a9 a10 a15 a8 a11 a12 a13 a14 a16 : Slot} {ys : List Int} {l : List P2} {w t : Int} (g : Bs l) (w0 : 0 ≤ w) (t0 : 0 ≤ t) (t1 : t < 3) : ∃ σ', stp (gName 8) (TT (run T 59)) (.int t) [a0, some (.lst ((ys).map .int), true), a2, a3, some (.int (w), false), some (LP l, true), a6, a7, a8, a9, a10, a11, a12, a13, a14, a15, a16] = .nx σ' ∧ ∃ a8 a11 a12 a13 a14 a16 : Slot, σ' = [a0, some (.lst ((ys).map .int), true), a2, a3, some (.int (w), false), some (LP l, true), a6, a7, a8, a9, a10, a11, a12, a13, a14, a15, a16] := by
  rw [stp_of (σ' := [a0, some (.lst ((ys).map .int), true), a2, a3, some (.int (w), false), some (LP l, true), a6, a7, some (.int (t), false), a9, a10, a11, a12, a13, a14, a15, a16]) (by simp)]
  refine seq_nx (u0_ w0 t0 t1) ?_
  rintro _ ⟨s, hs, rfl⟩
  refine seq_nx (u1_ w0 t0 t1) ?_
  rintro _ ⟨m, hm, rfl⟩
  refine seq_nx1 (u2_ g hs) ?_
  refine seq_nx1 (u3_ g hs hm) ?_
  refine seq_nx1 (u4_ g hs) ?_
  exact ⟨_, u5_ g hs, _, _, _, _, _, _, rfl⟩
theorem t6_ {a0 a2 a3 a6 a7 a9 a10 a15 a8 a11 a12 a13 a14 a16 : Slot} {ys : List Int} {l : List P2} {w : Int} (g : Bs l) (w0 : 0 ≤ w) : ∃ σ', T6 (run T 59) [a0, some (.lst ((ys).map .int), true), a2, a3, some (.int (w), false), some (LP l, true), a6, a7, a8, a9, a10, a11, a12, a13, a14, a15, a16] = .nx σ' ∧ ∃ a8 a11 a12 a13 a14 a16 : Slot, σ' = [a0, some (.lst ((ys).map .int), true), a2, a3, some (.int (w), false), some (LP l, true), a6, a7, a8, a9, a10, a11, a12, a13, a14, a15, a16] := by
  obtain ⟨σ', e, r⟩ := for_upto (g := gName 8) (b := TT (run T 59)) (lo := 0) (n := 3) (fun k σ => ∃ a8 a11 a12 a13 a14 a16 : Slot, σ = [a0, some (.lst ((ys).map .int), true), a2, a3, some (.int (w), false), some (LP l, true), a6, a7, a8, a9, a10, a11, a12, a13, a14, a15, a16]) (by
    rintro k σ hk ⟨a8, a11, a12, a13, a14, a16, rfl⟩
    exact ut_ g w0 (by omega) (by omega)) (σ := [a0, some (.lst ((ys).map .int), true), a2, a3, some (.int (w), false), some (LP l, true), a6, a7, a8, a9, a10, a11, a12, a13, a14, a15, a16]) ⟨a8, a11, a12, a13, a14, a16, rfl⟩
  obtain ⟨b8, b11, b12, b13, b14, b16, rfl⟩ := r
  refine ⟨_, ?_, b8, b11, b12, b13, b14, b16, rfl⟩
  have k3 : okRng 3 = true := rfl
  show sFor (gName 8) _ (TT (run T 59)) _ = _
  rw [sFor_eq]
  simp only [LP] at *
  generalize l.map PR = LM at *
  generalize ys.map D.int = YM at *
  generalize TT (run T 59) = B at *
  simp [k3, e, -List.map_map]
theorem busy_succ (l : List P2) (M : Nat) : busyN l (upto 0 (M + 1)) - busyN l (upto 0 M) = if busyB l (M : Int) = true then 1 else 0 := by
  unfold busyN
  rw [up_succ, List.filter_append, List.length_append, Int.zero_add, List.filter_cons]
  by_cases c : busyB l (M : Int) = true
  · rw [if_pos c, if_pos c]; simp; omega
  · rw [if_neg c, if_neg c]; simp
theorem t7_ {a0 a1 a2 a3 a4 a7 a8 a9 a10 a11 a12 a13 a14 a15 a16 : Slot} {l : List P2} (g : Bs l) : T7 (run T 59) [a0, a1, a2, a3, a4, some (LP l, true), some (.rep (LP l), false), a7, a8, a9, a10, a11, a12, a13, a14, a15, a16] = .nx [a0, a1, a2, a3, a4, some (LP l, true), some (.rep (LP l), false), a7, a8, a9, a10, a11, a12, a13, a14, a15, a16] := by
  obtain ⟨M, hM⟩ : ∃ M : Nat, (M : Int) = 99999999999 := ⟨99999999999, rfl⟩
  have e1 : run T 59 11 [LP l, .int 0, .int (0 + ((M + 1 : Nat) : Int))] = _ := filledP 54 g (Int.le_refl 0) (M + 1) (by omega)
  have e2 : run T 59 11 [LP l, .int 0, .int (0 + (M : Int))] = _ := filledP 54 g (Int.le_refl 0) M (by omega)
  have e3 : run T 59 22 [LP l, .int (M : Int)] = _ := lawFree 58 g _
  have bs := busy_succ l M
  rw [show 0 + ((M + 1 : Nat) : Int) = 100000000000 by omega] at e1
  rw [show 0 + (M : Int) = 99999999999 by omega] at e2
  rw [hM] at e3 bs
  have pw := pw11
  have b1 := bRepr_of (okP g)
  have c1 := cmp_neR _ (okP g)
  generalize busyN l (upto 0 (M + 1)) = N1 at *
  generalize busyN l (upto 0 M) = N2 at *
  simp only [LP] at *
  generalize l.map PR = LM at *
  cases q : busyB l 99999999999 with
  | true =>
    rw [q] at e3 bs
    have d : N1 - N2 = 1 := bs
    have bi : bInt [.bl true] = some (.int 1, false) := rfl
    simp [T7, pw, e1, e2, e3, b1, c1, d, bi]
  | false =>
    rw [q] at e3 bs
    have d : N1 - N2 = 0 := bs
    have bi : bInt [.bl false] = some (.int 0, false) := rfl
    simp [T7, pw, e1, e2, e3, b1, c1, d, bi]
end K13
end
section
set_option linter.all false
set_option autoImplicit false
set_option Elab.async false
set_option maxRecDepth 100000
set_option maxHeartbeats 4000000
namespace K13
open PySem Rt
open K12 (Hb Bt mt lcmL lcm_p lcmL_pos)
theorem turn {a0 a3 a4 a5 a6 a7 a8 a9 a10 a11 a12 a13 a14 a15 a16 : Slot} {ys : List Int} {tn : Int} (h0 : 0 ≤ tn) (h1 : tn < 3) : ∃ σ', stp (gName 3) (RR_ (run T 59)) (.int tn) [a0, some (.lst ((ys).map .int), true), some (LL FL, true), a3, a4, a5, a6, a7, a8, a9, a10, a11, a12, a13, a14, a15, a16] = .nx σ' ∧ ∃ a3 a4 a5 a6 a7 a8 a9 a10 a11 a12 a13 a14 a15 a16 : Slot, σ' = [a0, some (.lst ((ys).map .int), true), some (LL FL, true), a3, a4, a5, a6, a7, a8, a9, a10, a11, a12, a13, a14, a15, a16] := by
  rw [stp_of (σ' := [a0, some (.lst ((ys).map .int), true), some (LL FL, true), some (.int (tn), false), a4, a5, a6, a7, a8, a9, a10, a11, a12, a13, a14, a15, a16]) (by simp)]
  refine seq_nx1 t0_ ?_
  refine seq_nx (t1_ h0 h1 (by omega)) ?_
  rintro _ ⟨l, g, rfl⟩
  refine seq_nx (t2_ g (by omega)) ?_
  rintro _ ⟨l, a15, g, rfl⟩
  refine seq_nx1 (t3_ g) ?_
  refine seq_nx1 (t4_ g) ?_
  refine seq_nx (t5_ g (by omega)) ?_
  rintro _ ⟨b9, b10, b11, b16, rfl⟩
  refine seq_nx (t6_ g (by omega)) ?_
  rintro _ ⟨c8, c11, c12, c13, c14, c16, rfl⟩
  exact ⟨_, t7_ g, _, _, _, _, _, _, _, _, _, _, _, _, _, _, rfl⟩
theorem plain (ns : List Int) (h : ns.length ≤ 63) : run T 60 23 [.scr ns] = .ok (.bl true, false) := by
  obtain ⟨ys, hy, d⟩ := draws 58 ns h
  have d' : run T 59 17 [.scr ns] = .ok (.lst (ys.map .int), true) := d
  refine (run_at (f := d_law.df) rfl _ rfl).trans ?_
  show ends (b_law (run T 59) (begin_ 17 [.scr ns])) = _
  rw [law_parts, show begin_ 17 [D.scr ns] = [some (.scr ns, false), none, none, none, none, none, none, none, none, none, none, none, none, none, none, none, none] from rfl]
  refine seq_e (σ' := [some (.scr ns, false), some (.lst ((ys).map .int), true), none, none, none, none, none, none, none, none, none, none, none, none, none, none, none]) (by simp [S0, d', mkN_ints]) ?_
  refine seq_e s1_ ?_
  obtain ⟨σ', e, r⟩ := for_upto (g := gName 3) (b := RR_ (run T 59)) (lo := 0) (n := 3) (fun k σ => ∃ a0 a3 a4 a5 a6 a7 a8 a9 a10 a11 a12 a13 a14 a15 a16 : Slot, σ = [a0, some (.lst ((ys).map .int), true), some (LL FL, true), a3, a4, a5, a6, a7, a8, a9, a10, a11, a12, a13, a14, a15, a16]) (by
    rintro k σ hk ⟨a0, a3, a4, a5, a6, a7, a8, a9, a10, a11, a12, a13, a14, a15, a16, rfl⟩
    obtain ⟨σ', e, b3, b4, b5, b6, b7, b8, b9, b10, b11, b12, b13, b14, b15, b16, rfl⟩ := turn (a0 := a0) (a3 := a3) (a4 := a4) (a5 := a5) (a6 := a6) (a7 := a7) (a8 := a8) (a9 := a9) (a10 := a10) (a11 := a11) (a12 := a12) (a13 := a13) (a14 := a14) (a15 := a15) (a16 := a16) (ys := ys) (tn := 0 + (k : Int)) (by omega) (by omega)
    exact ⟨_, e, a0, b3, b4, b5, b6, b7, b8, b9, b10, b11, b12, b13, b14, b15, b16, rfl⟩) (σ := [some (.scr ns, false), some (.lst ((ys).map .int), true), some (LL FL, true), none, none, none, none, none, none, none, none, none, none, none, none, none, none]) ⟨_, none, none, none, none, none, none, none, none, none, none, none, none, none, none, rfl⟩
  obtain ⟨a0, a3, a4, a5, a6, a7, a8, a9, a10, a11, a12, a13, a14, a15, a16, rfl⟩ := r
  have k3 : okRng 3 = true := rfl
  refine seq_e (σ' := [a0, some (.lst ((ys).map .int), true), some (LL FL, true), a3, a4, a5, a6, a7, a8, a9, a10, a11, a12, a13, a14, a15, a16]) ?_ ?_
  · show sFor (gName 3) _ (RR_ (run T 59)) _ = _
    rw [sFor_eq]
    simp only [LL] at *
    generalize FL.map LP = FM at *
    generalize ys.map D.int = YM at *
    generalize RR_ (run T 59) = B at *
    simp [k3, e, -List.map_map]
  · simp [S3]
end K13
end
theorem PySem.Challenge.cw_runattimes_k13_whole_times_that_beats_fi_holds : PySem.Challenge.rw_runattimes_k13_whole_times_that_beats_fi.Holds := by
  exact K13.holds K13.plain
